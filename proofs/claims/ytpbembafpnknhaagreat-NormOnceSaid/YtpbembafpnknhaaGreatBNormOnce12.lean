/- Proof texts of one seat,in one file: the walks of functions and the lemmas under them,printed by programs and typed by hand. Put together by wip/bundle.py. -/
import Derived.Test.YtpbembafpnknhaaGreatRows
import Derived.Test.YtpbembafpnknhaaGreatBNormOnce0
import Derived.Test.YtpbembafpnknhaaGreatBNormOnce1
import Derived.Test.YtpbembafpnknhaaGreatBNormOnce2
import Derived.Test.YtpbembafpnknhaaGreatBNormOnce3
import Derived.Test.YtpbembafpnknhaaGreatBNormOnce4
import Derived.Test.YtpbembafpnknhaaGreatBNormOnce7
import Derived.Test.YtpbembafpnknhaaGreatBNormOnce8
import Derived.Test.YtpbembafpnknhaaGreatBNormOnce9
set_option maxHeartbeats 8000000
set_option maxRecDepth 100000
set_option linter.unusedVariables false
set_option linter.unusedSimpArgs false
set_option linter.unusedSectionVars false
namespace Go.Proofs.YtpbembafpnknhaaGreat.Pr
open Go.RowKit Go.Proofs.YtpbembafpnknhaaGreatW.PrintWords Go.Proofs.YtpbembafpnknhaaGreatW.PrintLast Go.Proofs.YtpbembafpnknhaaGreatW.PrintMore
attribute [local go_sem] max2_int min2_int max_two min_two max_three min_three max_four min_four
def model_isIf.f(k:Nat)(l0_0:List ByteArray)(l0_1:List (S47))(a1_0:ByteArray)(a1_1:ByteArray)(a1_2:Int):Option (Bool):=(slices_Contains_string_string.f k (([(⟨#[60]⟩:ByteArray),(⟨#[60,61]⟩:ByteArray),(⟨#[61]⟩:ByteArray),(⟨#[33,61]⟩:ByteArray),(⟨#[62,61]⟩:ByteArray),(⟨#[62]⟩:ByteArray)]:List ByteArray)) a1_1).bind fun t106=>(if t106=true then ((slices_Contains_string_string.f k l0_0 a1_0).bind fun t107=>(if t107=true then (if a1_2≥(-1000000) then (some (decide (a1_2≤1000000))) else (some false)) else (some false))) else (some false))
theorem model_isIf.mono:∀ a0 a1 a2 a3 a4 k,LeO (model_isIf.f k a0 a1 a2 a3 a4) (model_isIf.f (k+1) a0 a1 a2 a3 a4):=by
  intro a0 a1 a2 a3 a4 k;unfold model_isIf.f
  repeat' first
      | (with_reducible exact slices_Contains_string_string.mono _ _ _)
      | (with_reducible exact LeO.refl _)
      | (with_reducible exact LeO.none _)
      | (with_reducible refine LeO.ite ?_ ?_)
      | (with_reducible refine LeO.bind ?_ (fun _ => ?_))
      | exact slices_Contains_string_string.mono _ _ _
      | exact LeO.none _
      | refine LeO.ite ?_ ?_
      | refine LeO.bind ?_ (fun _=>?_)
theorem model_isIf.e0{p:Prop}(h:p:=by
  go_enter Tryz.func240,Tryz.ntmps240;go_wp2_with (first|((with_reducible refine gd_ 2 ?_);refine bx_ 2 #[.slice A0_0 l0_0.length c0_0,.slice A0_1 l0_1.length c0_1] 25 ?_;intro gb101 hg wz1 hbox hb;have BK101:=am (hbox);have GE101:=am (zg:w.heap.size≤gb101);replace HB:=am (below_step (zb) hb);clear hb hbox hg)|((with_reducible refine gd_ 3 ?_);refine bx_ 3 #[.string a1_0,.string a1_1,.int .i64 a1_2] 93 ?_;intro gb102 hg wz2 hbox hb;have BK102:=am (hbox);have GE102:=am (zg:w.heap.size≤gb102);replace HB:=am (below_step (zb) hb);have NB101_102:=am ((zn BK101.out:gb101≠gb102));have NB102_101:=am ((zm BK101.out:gb102≠gb101));replace BK101:=am (zw BK101.out hb);clear hb hbox hg)|((with_reducible refine gd_ 6 ?_);refine Kd.R_lit Kd.string _ 9 ?hg (N:=6) ?hd (xs:=([(⟨#[60]⟩:ByteArray),(⟨#[60,61]⟩:ByteArray),(⟨#[61]⟩:ByteArray),(⟨#[33,61]⟩:ByteArray),(⟨#[62,61]⟩:ByteArray),(⟨#[62]⟩:ByteArray)]:List ByteArray)) (inner:=[.string (⟨#[60]⟩:ByteArray),.string (⟨#[60,61]⟩:ByteArray),.string (⟨#[61]⟩:ByteArray),.string (⟨#[33,61]⟩:ByteArray),.string (⟨#[62,61]⟩:ByteArray),.string (⟨#[62]⟩:ByteArray)]) (ok:=fun _=>True) (okp:=fun _=>True) ?hr ?hp (fun _ hk=>hk) trivial (Below.refl _ _) (Nat.le_refl _) (by simp) ?_;(case hd=>rfl);(case hg=>rfl);(case hr=>first|(go_simp;done)|(go_simp;rfl));(case hp=>exact (Reps.one (show Kd.M Kd.string _ _ _ (⟨#[60]⟩:ByteArray) [.string (⟨#[60]⟩:ByteArray)] from rfl) (Reps.one (show Kd.M Kd.string _ _ _ (⟨#[60,61]⟩:ByteArray) [.string (⟨#[60,61]⟩:ByteArray)] from rfl) (Reps.one (show Kd.M Kd.string _ _ _ (⟨#[61]⟩:ByteArray) [.string (⟨#[61]⟩:ByteArray)] from rfl) (Reps.one (show Kd.M Kd.string _ _ _ (⟨#[33,61]⟩:ByteArray) [.string (⟨#[33,61]⟩:ByteArray)] from rfl) (Reps.one (show Kd.M Kd.string _ _ _ (⟨#[62,61]⟩:ByteArray) [.string (⟨#[62,61]⟩:ByteArray)] from rfl) (Reps.one (show Kd.M Kd.string _ _ _ (⟨#[62]⟩:ByteArray) [.string (⟨#[62]⟩:ByteArray)] from rfl) (Reps.none _ _))))))));intro vz1 wz3 hoz1 hb hg_ hnew_;clear hg_ hnew_;(first|rw [← Nyz1.out] at hoz1|(simp only [Int.reduceToNat] at hoz1;rw [← Nyz1.out] at hoz1));have HOz1:=am (Kd.R_lower hoz1 (below_size (zb)));replace BK101:=am (zw BK101.out hb);replace BK102:=am (zw BK102.out hb);replace HB:=am (below_step (zb) hb);clear hb hoz1;have hnbz1:=NB102_101.out;have hncz1:=NB101_102.out;obtain⟨hcz_z1,hcz_z2,hcz_z3⟩:=cs3 BK102.out;obtain⟨Aoz1,coz1,eoz1⟩:=Kd.R_slice HOz1.out;subst eoz1)|((with_reducible refine gc_ 92 ?_);refine goesL_ (some 9) rfl rfl Tryz.func92 (by kernel_rfl) rfl #[.slice Aoz1 yz1.length coz1,.string a1_1] rfl (za) ?_;(with_reducible refine (slices_Contains_string_string.calls k _ _ yz1 a1_1 true _ ?side1 ?side2 Az2.out).mono ?_);(case side1=>exact zc (Kd.R_reads' HOz1.out).2.2);(case side2=>exact (Kd.R_reads' HOz1.out).2.1);rintro e w' ⟨rfl,⟨nd,rfl⟩⟩;refine⟨_,rfl,?_⟩;obtain⟨hcz_z4,hcz_z5⟩:=cs2 BK101.out)|(go_at_call 92;(with_reducible refine (slices_Contains_string_string.calls k _ _ l0_0 a1_0 true _ ?side1 ?side2 Az4.out).mono ?_);(case side1=>exact zc (Kd.C_below HR_z1.out (zb)));(case side2=>exact HC_z1.out);rintro e w' ⟨rfl,⟨nd,rfl⟩⟩)|(go_at_call 92;(with_reducible refine (slices_Contains_string_string.calls k _ _ l0_0 a1_0 false _ ?side1 ?side2 Az4.out).mono ?_);(case side1=>exact zc (Kd.C_below HR_z1.out (zb)));(case side2=>exact HC_z1.out);rintro e w' ⟨rfl,⟨nd,rfl⟩⟩)|((with_reducible refine gc_ 92 ?_);refine goesL_ (some 9) rfl rfl Tryz.func92 (by kernel_rfl) rfl #[.slice Aoz1 yz1.length coz1,.string a1_1] rfl (za) ?_;(with_reducible refine (slices_Contains_string_string.calls k _ _ yz1 a1_1 false _ ?side1 ?side2 Az2.out).mono ?_);(case side1=>exact zc (Kd.R_reads' HOz1.out).2.2);(case side2=>exact (Kd.R_reads' HOz1.out).2.1);rintro e w' ⟨rfl,⟨nd,rfl⟩⟩;refine⟨_,rfl,?_⟩))
  go_ret;exact⟨zf,zb⟩):p:=h
theorem model_isIf.calls(k:Nat)(A0_0:Option Addr)(c0_0:Nat)(l0_0:List ByteArray)(A0_1:Option Addr)(c0_1:Nat)(l0_1:List (S47))(a1_0:ByteArray)(a1_1:ByteArray)(a1_2:Int)(r:Bool)(w:World)(hr0_0:Kd.C Kd.string w A0_0 l0_0.length l0_0)(hc0_0:l0_0.length≤c0_0)(hr0_1:Kd.C k47 w A0_1 l0_1.length l0_1)(hc0_1:l0_1.length≤c0_1)(h:model_isIf.f k l0_0 l0_1 a1_0 a1_1 a1_2=some r) :
  Calls Tryz.prog 240 #[.agg #[.slice A0_0 l0_0.length c0_0,.slice A0_1 l0_1.length c0_1],.agg #[.string a1_0,.string a1_1,.int .i64 a1_2]] w fun e w'=>e = .returned (.bool r)∧Below w.heap.size w w':=by
 have hu25:=Tryz.underlying25;have hu93:=Tryz.underlying93;have HR_z1:=am hr0_0;have HC_z1:=am hc0_0;clear hr0_0 hc0_0;have HR_z2:=am hr0_1;have HC_z2:=am hc0_1;clear hr0_1 hc0_1;have HB:=am (Below.refl w.heap.size w);have H:((slices_Contains_string_string.f k (([(⟨#[60]⟩:ByteArray),(⟨#[60,61]⟩:ByteArray),(⟨#[61]⟩:ByteArray),(⟨#[33,61]⟩:ByteArray),(⟨#[62,61]⟩:ByteArray),(⟨#[62]⟩:ByteArray)]:List ByteArray)) a1_1).bind fun tz1=>(if tz1=true then ((slices_Contains_string_string.f k l0_0 a1_0).bind fun tz2=>(if tz2=true then (if a1_2≥(-1000000) then (some (decide (a1_2≤1000000))) else (some false)) else (some false))) else (some false)))=some r:=h;clear h;obtain⟨yz1,hyz1⟩:∃ y_:List ByteArray,y_=(([(⟨#[60]⟩:ByteArray),(⟨#[60,61]⟩:ByteArray),(⟨#[61]⟩:ByteArray),(⟨#[33,61]⟩:ByteArray),(⟨#[62,61]⟩:ByteArray),(⟨#[62]⟩:ByteArray)]:List ByteArray)):=⟨_,rfl⟩;replace H:((slices_Contains_string_string.f k yz1 a1_1).bind fun tz1=>(if tz1=true then ((slices_Contains_string_string.f k l0_0 a1_0).bind fun tz2=>(if tz2=true then (if a1_2≥(-1000000) then (some (decide (a1_2≤1000000))) else (some false)) else (some false))) else (some false)))=some r:=by first|(rw [hyz1];with_reducible exact H)|(have H2_:=(Option.bind_some _ _).symm.trans H;rw [hyz1];with_reducible exact H2_)|(have H2_:=(Option.bind_some _ _).symm.trans H;with_reducible exact H2_)|with_reducible exact H|(rw [hyz1];exact H)|exact H
 have Nyz1:=am hyz1;clear hyz1;replace H:=Qe H;obtain⟨tz1,Az1,H⟩:=H;have Az2:=am Az1;clear Az1;by_cases cz1:tz1=true
 ·
  subst cz1;have H1:((slices_Contains_string_string.f k l0_0 a1_0).bind fun tz2=>(if tz2=true then (if a1_2≥(-1000000) then (some (decide (a1_2≤1000000))) else (some false)) else (some false)))=some r:=by rw [if_pos rfl] at H;exact H
  clear H;have H:=H1;clear H1;replace H:=Qe H;obtain⟨tz2,Az3,H⟩:=H;have Az4:=am Az3;clear Az3;by_cases cz2:tz2=true
  ·
   subst cz2;have H1:(if a1_2≥(-1000000) then (some (decide (a1_2≤1000000))) else (some false))=some r:=by rw [if_pos rfl] at H;exact H
   clear H;have H:=H1;clear H1;by_cases cz3:a1_2≥(-1000000)
   ·
    rw [if_pos cz3] at H;have cbz1:decide ((-1000000)≤a1_2)=true:=Qb cz3;clear cz3;obtain rfl:=Qd H;exact model_isIf.e0
   rw [if_neg cz3] at H;have cbz1:decide ((-1000000)≤a1_2)=false:=Qc cz3;clear cz3;obtain rfl:=Qd H;exact model_isIf.e0
  replace cz2:=Qj cz2;subst cz2;have H1:(some false)=some r:=by rw [if_neg (show ¬ (false=true) by decide)] at H;exact H
  clear H;have H:=H1;clear H1;obtain rfl:=Qd H;exact model_isIf.e0
 replace cz1:=Qj cz1;subst cz1;have H1:(some false)=some r:=by rw [if_neg (show ¬ (false=true) by decide)] at H;exact H
 clear H;have H:=H1;clear H1;obtain rfl:=Qd H;exact model_isIf.e0
def api_On_237.f(k:Nat)(l0:List (S78))(a1_0:ByteArray)(a1_1:Int):Option (Bool):=(api_On_272.f k l0 a1_0 a1_1).bind fun t102=>(some (decide (t102≥0)))
theorem api_On_237.mono:∀ a0 a1 a2 k,LeO (api_On_237.f k a0 a1 a2) (api_On_237.f (k+1) a0 a1 a2):=by
  intro a0 a1 a2 k;unfold api_On_237.f
  repeat' first
      | (with_reducible exact api_On_272.mono _ _ _ _)
      | (with_reducible exact LeO.refl _)
      | (with_reducible exact LeO.none _)
      | (with_reducible refine LeO.ite ?_ ?_)
      | (with_reducible refine LeO.bind ?_ (fun _ => ?_))
      | exact api_On_272.mono _ _ _ _
      | exact LeO.none _
      | refine LeO.ite ?_ ?_
      | refine LeO.bind ?_ (fun _=>?_)
theorem api_On_237.calls(k:Nat)(A0:Option Addr)(c0:Nat)(l0:List (S78))(a1_0:ByteArray)(a1_1:Int)(r:Bool)(w:World)(hr0:Kd.C k78 w A0 l0.length l0)(hc0:l0.length≤c0)(h:api_On_237.f k l0 a1_0 a1_1=some r) :
  Calls Tryz.prog 237 #[.slice A0 l0.length c0,.agg #[.string a1_0,.int .i64 a1_1]] w fun e w'=>e = .returned (.bool r)∧Below w.heap.size w w':=by
 have hu78:=Tryz.underlying78;have HR0:=am hr0;have HC0:=am hc0;clear hr0 hc0;have HB:=am (Below.refl w.heap.size w);have H:((api_On_272.f k l0 a1_0 a1_1).bind fun t102=>(some (decide (t102≥0))))=some r:=h;clear h;replace H:=Qe H;obtain⟨t102,A30,H⟩:=H;replace H:(some (decide (t102≥0)))=some r:=H;have A3:=am A30;clear A30;obtain rfl:=Qd H;go_enter Tryz.func237,Tryz.ntmps237;go_wp2_with (first|((with_reducible refine gd_ 3 ?_);refine bx_ 3 #[.string a1_0,.int .i64 a1_1] 78 ?_;intro gb101 hg w4 hbox hb;have BK101:=am (hbox);have GW101:=am (zg:w.heap.size≤gb101);have GE101:=am (zg:w.heap.size≤gb101);replace HB:=am (below_step (zb) hb);clear hb hbox hg;obtain⟨hcz5_0,hcz5_1,hfz5_0,hfz5_1⟩:=cf2 BK101.out)|((with_reducible refine gc_ 272 ?_);refine goesL_ (some 7) rfl rfl Tryz.func272 (by kernel_rfl) rfl #[.slice A0 l0.length c0,.agg #[.string a1_0,.int .i64 a1_1]] rfl (za) ?_;(with_reducible refine (api_On_272.calls k _ _ l0 a1_0 a1_1 t102 _ ?side1 ?side2 A3.out).mono ?_);(case side1=>exact zc (Kd.C_below HR0.out HB.out));(case side2=>exact HC0.out);rintro e w6 ⟨rfl,hb⟩;refine⟨_,rfl,?_⟩;replace BK101:=am (zw BK101.out hb);replace HB:=am (below_step (zb) hb);(try clear hb);(try clear hb2);(try clear hk);(try clear hi)))
 go_ret;exact⟨zf,zb⟩
theorem contains_take{k n c:Nat}{A:Option Addr}{l:List ByteArray}{s:ByteArray}{r:Bool}{w:World}(hn:n≤l.length)(hC:Kd.C Kd.string w A (l.take n).length (l.take n))(hc:(l.take n).length≤c)(h:slices_Contains_string_string.f k (l.take n) s=some r) :
    Calls Tryz.prog 92 #[.slice A n c,.string s] w fun e w'=>e = .returned (.bool r)∧Drawn0 w w':=by
  have h2:=slices_Contains_string_string.calls k A c (l.take n) s r w hC hc h
  rwa [show (l.take n).length=n by rw [List.length_take];omega] at h2
def model_areNames.l0:Nat→List ByteArray→List ByteArray→Int→Int→Option (Bool)
  | 0, _, _, _, _ => none
  | k+1,x0,x5,x6,x7=>if x7<x6 then (if 0≤x7 then (if x7<(x5.length:Int) then ((name_Is.f (rdOf ByteArray.empty x5 x7)).bind fun t102=>(if t102=true then (if x7≤(x0.length:Int) then ((slices_Contains_string_string.f k (x0.take (x7:Int).toNat) (rdOf ByteArray.empty x5 x7)).bind fun t104=>(if t104=true then (some false) else (model_areNames.l0 k x0 x5 x6 (wrap64 (x7+1))))) else (none)) else (some false))) else (none)) else (none)) else (some true)
def model_areNames.f(k:Nat)(l0:List ByteArray):Option (Bool):=model_areNames.l0 k l0 l0 (l0.length:Int) 0
theorem model_areNames.mono_l:∀ k,(∀ y0 y1 y2 y3,LeO (model_areNames.l0 k y0 y1 y2 y3) (model_areNames.l0 (k+1) y0 y1 y2 y3))
  | 0 => fun _ _ _ _ r h => by simp [model_areNames.l0] at h
  | k + 1 => by
    have ih0:=model_areNames.mono_l k;intro y0 y1 y2 y3;unfold model_areNames.l0
    repeat' first
    | (with_reducible exact ih0 _ _ _ _)
    | (with_reducible exact slices_Contains_string_string.mono _ _ _)
    | (with_reducible exact LeO.refl _)
    | (with_reducible exact LeO.none _)
    | (with_reducible refine LeO.ite ?_ ?_)
    | (with_reducible refine LeO.bind ?_ (fun _ => ?_))
    | exact ih0 _ _ _ _
    | exact slices_Contains_string_string.mono _ _ _
    | exact LeO.none _
    | refine LeO.ite ?_ ?_
    | refine LeO.bind ?_ (fun _=>?_)
theorem model_areNames.mono:∀ a0 k,LeO (model_areNames.f k a0) (model_areNames.f (k+1) a0):=by
  intro a0 k;have ih0:=model_areNames.mono_l k;unfold model_areNames.f
  repeat' first
      | (with_reducible exact ih0 _ _ _ _)
      | (with_reducible exact slices_Contains_string_string.mono _ _ _)
      | (with_reducible exact LeO.refl _)
      | (with_reducible exact LeO.none _)
      | (with_reducible refine LeO.ite ?_ ?_)
      | (with_reducible refine LeO.bind ?_ (fun _ => ?_))
      | exact ih0 _ _ _ _
      | exact slices_Contains_string_string.mono _ _ _
      | exact LeO.none _
      | refine LeO.ite ?_ ?_
      | refine LeO.bind ?_ (fun _=>?_)
theorem model_areNames.calls(k : Nat)(A0 : Option Addr)(c0 : Nat)(l0 : List ByteArray)(r : Bool)(w : World)(hr0 : Kd.C Kd.string w A0 l0.length l0)(hc0 : l0.length ≤ c0)(h : model_areNames.f k l0 = some r) :
  Calls Tryz.prog 106 #[.slice A0 l0.length c0] w fun e w'=>e = .returned (.bool r)∧Below w.heap.size w w':=by
 have HR0:=am hr0;have HC0:=am hc0;clear hr0 hc0;have HB:=am (Below.refl w.heap.size w);have H:(model_areNames.l0 k l0 l0 (l0.length:Int) 0)=some r:=h;clear h;have H':=am H;clear H;go_enter Tryz.func106,Tryz.ntmps106;go_wp2;go_loopg [7] k (fun kq v7 w' => ∃ (x7_1:Int),v7 = .int .i64 x7_1∧Aside0 (model_areNames.l0 kq l0 l0 (l0.length:Int) x7_1=some r)∧Aside0 (kq≤k)∧Aside0 (Below w.heap.size w w'))
 case atStart=>exact ⟨(0),(ze),H',⟨Nat.le_refl _⟩,⟨zb⟩⟩
 case round =>
  clear H';obtain⟨x7_1,rfl,HA,HK1,HB⟩:=hrel
  cases gk with
  | zero => exact absurd HA.out (by simp [model_areNames.l0])
  | succ k1 =>
   have H:=HA.out;clear HA;simp only [model_areNames.l0] at H;by_cases c2:x7_1<(l0.length:Int)
   ·
    rw [if_pos c2] at H;have c2b0:=Qb c2;clear c2;by_cases c3:0≤x7_1
    ·
     rw [if_pos c3] at H;have c3b0:=Qb c3;clear c3;by_cases c4:x7_1<(l0.length:Int)
     ·
      rw [if_pos c4] at H;have c4b0:=Qb c4;clear c4;replace H:=Qe H;obtain⟨t102,A50,H⟩:=H;have A5:=am A50;clear A50;by_cases c6:t102=true
      ·
       subst c6;have H1:(if x7_1≤(l0.length:Int) then ((slices_Contains_string_string.f k1 (l0.take (x7_1:Int).toNat) (rdOf ByteArray.empty l0 x7_1)).bind fun t104=>(if t104=true then (some false) else (model_areNames.l0 k1 l0 l0 (l0.length:Int) (wrap64 (x7_1+1))))) else (none))=some r:=by rw [if_pos rfl] at H;exact H
       clear H;have H:=H1;clear H1;have c7b0:=eq_true (Qo:0≤x7_1);by_cases c8:x7_1≤(l0.length:Int)
       ·
        rw [if_pos c8] at H;have c8b0:=eq_true c8;have c8b1:=Qb c8;clear c8;replace H:=Qe H;obtain⟨t104,A90,H⟩:=H;have A9:=am A90;clear A90;by_cases c10:t104=true
        ·
         subst c10;have H1:(some false)=some r:=by rw [if_pos rfl] at H;exact H
         clear H;have H:=H1;clear H1;obtain rfl:=Qd H;have p101:0≤(x7_1:Int):=Qo;have q101:x7_1<(l0.length:Int):=Qo;obtain⟨ad101,e101,hx101_0⟩:=Kd.at_string HR0.out x7_1 p101 q101;cases e101;replace hx101_0:=ba HB hx101_0;replace p101:=eq_true p101;replace q101:=eq_true q101;go_wp2_with (first|((with_reducible refine gc_ 154 ?_);refine goesL_ (some 13) rfl rfl Tryz.func154 (by kernel_rfl) rfl #[.string (rdOf ByteArray.empty l0 x7_1)] rfl (za) ?_;(with_reducible refine (name_Is.calls (rdOf ByteArray.empty l0 x7_1) true _ A5.out).mono ?_);rintro e w11 ⟨rfl,hb⟩;refine⟨_,rfl,?_⟩;replace HB:=am (below_step (zb) hb);(try clear hb);(try clear hb2);(try clear hk);(try clear hi);obtain⟨i012,hi012,_,hsz12,_⟩:=info_parts info9;obtain⟨hcut12,hA12,hC12⟩:=print_take_of (P:=Tryz.prog) Value.string (⟨#[]⟩:ByteArray) 22 9 .i64 Tryz.underlying22 hi012 hsz12 (some ad101) c0 l0 x7_1 (Qo) (Qo) HC0.out;have HR103:=am (Kd.C_of_reads (h1:=fun _=>rfl) (hA12 _ (Kd.reads_of_C HR0.out)));have HC103:=am hC12;clear hA12 hC12 hi012 hsz12)|(go_at_call 92;(refine (contains_take (by have h1:=of_eq_true q101;omega) ?side1 ?side2 A9.out).mono ?_);(case side1=>exact zc (Kd.C_below HR103.out HB.out));(case side2=>exact HC103.out);rintro e w' ⟨rfl,⟨nd,rfl⟩⟩))
         go_ret;exact⟨zf,zb⟩
        replace c10:=Qj c10;subst c10;have H1:(model_areNames.l0 k1 l0 l0 (l0.length:Int) (wrap64 (x7_1+1)))=some r:=by rw [if_neg (show ¬ (false=true) by decide)] at H;exact H
        clear H;have H:=H1;clear H1;have H':=am H;clear H;have p101:0≤(x7_1:Int):=Qo;have q101:x7_1<(l0.length:Int):=Qo;obtain⟨ad101,e101,hx101_0⟩:=Kd.at_string HR0.out x7_1 p101 q101;cases e101;replace hx101_0:=ba HB hx101_0;replace p101:=eq_true p101;replace q101:=eq_true q101;go_wp2_with (first|((with_reducible refine gc_ 154 ?_);refine goesL_ (some 13) rfl rfl Tryz.func154 (by kernel_rfl) rfl #[.string (rdOf ByteArray.empty l0 x7_1)] rfl (za) ?_;(with_reducible refine (name_Is.calls (rdOf ByteArray.empty l0 x7_1) true _ A5.out).mono ?_);rintro e w13 ⟨rfl,hb⟩;refine⟨_,rfl,?_⟩;replace HB:=am (below_step (zb) hb);(try clear hb);(try clear hb2);(try clear hk);(try clear hi);obtain⟨i014,hi014,_,hsz14,_⟩:=info_parts info9;obtain⟨hcut14,hA14,hC14⟩:=print_take_of (P:=Tryz.prog) Value.string (⟨#[]⟩:ByteArray) 22 9 .i64 Tryz.underlying22 hi014 hsz14 (some ad101) c0 l0 x7_1 (Qo) (Qo) HC0.out;have HR103:=am (Kd.C_of_reads (h1:=fun _=>rfl) (hA14 _ (Kd.reads_of_C HR0.out)));have HC103:=am hC14;clear hA14 hC14 hi014 hsz14)|(go_at_call 92;(refine (contains_take (by have h1:=of_eq_true q101;omega) ?side1 ?side2 A9.out).mono ?_);(case side1=>exact zc (Kd.C_below HR103.out HB.out));(case side2=>exact HC103.out);rintro e w' ⟨rfl,⟨nd,rfl⟩⟩))
        go_roundg k1
        case measure=>have:=HK1.out;omega
        case rel=>exact ⟨(wrap64 (x7_1+1)),(ze),H',⟨by have:=HK1.out;omega⟩,⟨zb⟩⟩
       rw [if_neg c8] at H;exact absurd H (by simp)
      replace c6:=Qj c6;subst c6;have H1:(some false)=some r:=by rw [if_neg (show ¬ (false=true) by decide)] at H;exact H
      clear H;have H:=H1;clear H1;obtain rfl:=Qd H;have p101:0≤(x7_1:Int):=Qo;have q101:x7_1<(l0.length:Int):=Qo;obtain⟨ad101,e101,hx101_0⟩:=Kd.at_string HR0.out x7_1 p101 q101;cases e101;replace hx101_0:=ba HB hx101_0;replace p101:=eq_true p101;replace q101:=eq_true q101;go_wp2_with (first|((with_reducible refine gc_ 154 ?_);refine goesL_ (some 13) rfl rfl Tryz.func154 (by kernel_rfl) rfl #[.string (rdOf ByteArray.empty l0 x7_1)] rfl (za) ?_;(with_reducible refine (name_Is.calls (rdOf ByteArray.empty l0 x7_1) false _ A5.out).mono ?_);rintro e w15 ⟨rfl,hb⟩;refine⟨_,rfl,?_⟩;replace HB:=am (below_step (zb) hb);(try clear hb);(try clear hb2);(try clear hk);(try clear hi)))
      go_ret;exact⟨zf,zb⟩
     rw [if_neg c4] at H;exact absurd H (by simp)
    rw [if_neg c3] at H;exact absurd H (by simp)
   rw [if_neg c2] at H;have c2b0:=Qc c2;clear c2;obtain rfl:=Qd H;go_wp2;go_ret;exact⟨zf,zb⟩
def notAll{α:Type}(p:α→Option Bool)(xs:List α):Option Bool:=if xs.all (fun x=>(p x).isSome) then some (xs.any fun x=>p x == some false) else none
theorem notAll_mono{α:Type}{p q:α→Option Bool}(h:∀ x,LeO (p x) (q x)){xs:List α}:LeO (notAll p xs) (notAll q xs):=by
  intro r hr;unfold notAll at hr ⊢
  split at hr
  · rename_i h1
    have h2:∀ x ∈ xs,q x=p x:=fun x hx=>by
      obtain⟨v,hv⟩:=Option.isSome_iff_exists.1 (List.all_eq_true.1 h1 x hx);rw [hv];exact h x v hv
    have e1:xs.all (fun x=>(q x).isSome)=true:=List.all_eq_true.2 (fun x hx=>by rw [h2 x hx];exact List.all_eq_true.1 h1 x hx);rw [if_pos e1];have e2:xs.any (fun x=>q x == some false)=xs.any (fun x=>p x == some false):=by
      rw [Bool.eq_iff_iff,List.any_eq_true,List.any_eq_true];exact⟨fun ⟨x,hx,hy⟩=>⟨x,hx,by rw [← h2 x hx];exact hy⟩,fun ⟨x,hx,hy⟩=>⟨x,hx,by rw [h2 x hx];exact hy⟩⟩
    rw [e2];exact hr
  cases hr
theorem notAll_some{α:Type}{p:α→Option Bool}{xs:List α}{r:Bool}(h:notAll p xs=some r):(∀ x ∈ xs,(p x).isSome=true)∧(xs.any fun x=>p x == some false)=r:=by
  unfold notAll at h
  split at h
  · rename_i h1
    exact⟨fun x hx=>List.all_eq_true.1 h1 x hx,Qd h⟩
  cases h
theorem getD_at{α:Type}{z:α}{xs:List α}{j:Nat}(h:j<xs.length):xs.getD j z=xs[j]:=by rw [List.getD_eq_getElem?_getD,List.getElem?_eq_getElem h];rfl
theorem range_any{α:Type}(z:α){q:α→Bool}{xs:List α}:((List.range xs.length).any fun j=>q (xs.getD j z))=xs.any q:=by
  rw [Bool.eq_iff_iff,List.any_eq_true,List.any_eq_true];constructor
  · rintro ⟨j, hj, h⟩
    have hj:=List.mem_range.1 hj;rw [getD_at hj] at h;exact⟨_,List.getElem_mem hj,h⟩
  rintro ⟨x,hx,h⟩;obtain⟨j,hj,rfl⟩:=List.getElem_of_mem hx;exact⟨j,List.mem_range.2 hj,by rw [getD_at hj];exact h⟩
theorem api_Cond_238_cl{W:World}{gb k:Nat}{A0 A1:Option Addr}{c0 c1:Nat}{l0:List ByteArray}{l1:List S47}{a0 a1:ByteArray}{a2:Int}(hbk:W.heap[gb]? = some (.cells #[.slice A0 l0.length c0,.slice A1 l1.length c1] 25 (0,0)))(hr0:Kd.C Kd.string W A0 l0.length l0)(hc0:l0.length≤c0)(hr1:Kd.C k47 W A1 l1.length l1)(hc1:l1.length≤c1)(r:Bool)(h:model_isIf.f k l0 l1 a0 a1 a2=some r) :
    Calls Tryz.prog 239 #[.agg #[.string a0,.string a1,.int .i64 a2],.pointer (some ⟨gb,0,none⟩)] W fun e w'=>e = .returned (.bool (!r))∧Below W.heap.size W w':=by
  have hu25:=Tryz.underlying25;have hu93:=Tryz.underlying93;have HI:∀ W2,Below W.heap.size W W2→Calls Tryz.prog 240 #[.agg #[.slice A0 l0.length c0,.slice A1 l1.length c1],.agg #[.string a0,.string a1,.int .i64 a2]] W2 fun e w'=>e = .returned (.bool r)∧Below W.heap.size W w':=fun W2 hW =>
    (model_isIf.calls k _ _ l0 _ _ l1 a0 a1 a2 r W2 (Kd.C_below hr0 hW) hc0 (Kd.C_below hr1 hW) hc1 h).mono (fun _ _ h=>⟨h.1,below_step hW h.2⟩)
  have HII:=am HI;have k0:W.cell? ⟨gb,0,none⟩=some (.slice A0 l0.length c0):=(blk_cell hbk 0).trans rfl;have k1:W.cell? ⟨gb,1,none⟩=some (.slice A1 l1.length c1):=(blk_cell hbk 1).trans rfl;have hlt:=Qk W _ k0;have HB:=am (Below.refl W.heap.size W);clear HI hbk;go_enter Tryz.func239,Tryz.ntmps239;go_wp2_with (first|(go_at_call 240;refine(HII.out _ (zb)).mono ?_;rintro e w7 ⟨rfl,hb⟩))
  go_ret;exact⟨rfl,hb⟩
def api_Cond_238.f(k:Nat)(xs:List S93)(l0_0:List ByteArray)(l0_1:List S47):Option Bool:=notAll (fun x=>model_isIf.f k l0_0 l0_1 x.f0 x.f1 x.f2) xs
theorem api_Cond_238.mono:∀ a0 a1 a2 k,LeO (api_Cond_238.f k a0 a1 a2) (api_Cond_238.f (k+1) a0 a1 a2):=fun a0 a1 a2 k=>notAll_mono (fun x=>model_isIf.mono _ _ _ _ _ _)
theorem api_Cond_238.calls(k:Nat)(A:Option Addr)(c:Nat)(xs:List S93)(A0_0:Option Addr)(c0_0:Nat)(l0_0:List ByteArray)(A0_1:Option Addr)(c0_1:Nat)(l0_1:List S47)(r:Bool)(w:World)(hr:Kd.C k93 w A xs.length xs)(hc:xs.length≤c)(hr0_0:Kd.C Kd.string w A0_0 l0_0.length l0_0)(hc0_0:l0_0.length≤c0_0)(hr0_1:Kd.C k47 w A0_1 l0_1.length l0_1)(hc0_1:l0_1.length≤c0_1){gb:Nat}(hbk:w.heap[gb]? = some (.cells #[.slice A0_0 l0_0.length c0_0,.slice A0_1 l0_1.length c0_1] 25 (0,0)))(h:api_Cond_238.f k xs l0_0 l0_1=some r) :
  Calls Tryz.prog 238 #[.slice A xs.length c,.func (.func 239) #[] #[.pointer (some ⟨gb,0,none⟩)]] w fun e w'=>e = .returned (.bool r)∧Below w.heap.size w w':=by
 obtain⟨hall,rfl⟩:=notAll_some h;have hbig:=hr.2.1;obtain⟨cs,hk,hK,hcc⟩:=C_cells z93 hr;rw [← range_any z93];refine containsFuncIf A xs.length c 239 #[.pointer (some ⟨gb,0,none⟩)] (enters_ Tryz.func239 rfl rfl) (fun j=>model_isIf.f k l0_0 l0_1 (xs.getD j z93).f0 (xs.getD j z93).f1 (xs.getD j z93).f2 == some false) cs w hbig ?_ hk hcc;intro j hj W hW;obtain⟨r0,hr0⟩:=Option.isSome_iff_exists.1 (hall (xs.getD j z93) (by rw [getD_at hj];exact List.getElem_mem hj));have e:=k93_open (hK j hj);rw [e];refine(api_Cond_238_cl (k:=k) (blk_below hbk hW) (Kd.C_below hr0_0 hW) hc0_0 (Kd.C_below hr0_1 hW) hc0_1 r0 hr0).mono ?_;rintro e' w' ⟨rfl,h2⟩;refine⟨?_,below_step hW h2⟩;rw [hr0];cases r0 <;> rfl
mutual
def model_isSentry.j0:Nat→Bool→List ByteArray→List (S47)→List (S78)→List (S93)→Option (Bool)
  | 0, _, _, _, _, _ => none
  | k+1,x26,x102000,x102001,x103000,x103001=>if x26=true then (some false) else (model_isSentry.l0 k x103000 (x103000.length:Int) 0 x102000 x102001 x103000 x103001)
def model_isSentry.l0:Nat→List (S78)→Int→Int→List ByteArray→List (S47)→List (S78)→List (S93)→Option (Bool)
  | 0, _, _, _, _, _, _, _ => none
  | k+1,x28,x29,x30,x102000,x102001,x103000,x103001=>if x30<x29 then (if 0≤x30 then (if x30<(x28.length:Int) then ((model_isOn.f k x102000 x102001 ((rd_T78 x28 x30).f0) ((rd_T78 x28 x30).f1)).bind fun t106=>(if t106=true then (if x30≤(x103000.length:Int) then ((api_On_237.f k (x103000.take (x30:Int).toNat) ((rd_T78 x28 x30).f0) ((rd_T78 x28 x30).f1)).bind fun t111=>(if t111=true then (some false) else (model_isSentry.l0 k x28 x29 (wrap64 (x30+1)) x102000 x102001 x103000 x103001))) else (none)) else (some false))) else (none)) else (none)) else ((api_Cond_238.f k x103001 x102000 x102001).bind fun t103=>(some (!t103)))
end
def model_isSentry.f(k:Nat)(l0_0:List ByteArray)(l0_1:List (S47))(l1_0:List (S78))(l1_1:List (S93)):Option (Bool):=if (l1_0.length:Int)>3 then (model_isSentry.j0 k true l0_0 l0_1 l1_0 l1_1) else (if (l1_1.length:Int)>2 then (model_isSentry.j0 k true l0_0 l0_1 l1_0 l1_1) else (model_isSentry.j0 k ((wrap64 ((l1_0.length:Int)+(l1_1.length:Int))) == 0) l0_0 l0_1 l1_0 l1_1))
theorem model_isSentry.mono_l:∀ k,(∀ y0 y1 y2 y3 y4,LeO (model_isSentry.j0 k y0 y1 y2 y3 y4) (model_isSentry.j0 (k+1) y0 y1 y2 y3 y4))∧(∀ y0 y1 y2 y3 y4 y5 y6,LeO (model_isSentry.l0 k y0 y1 y2 y3 y4 y5 y6) (model_isSentry.l0 (k+1) y0 y1 y2 y3 y4 y5 y6))
  | 0 => ⟨fun _ _ _ _ _ r h => by simp [model_isSentry.j0] at h, fun _ _ _ _ _ _ _ r h => by simp [model_isSentry.l0] at h⟩
  | k + 1 => by
    obtain⟨ih0,ih1⟩:=model_isSentry.mono_l k;refine⟨?_,?_⟩
    · intro y0 y1 y2 y3 y4
      unfold model_isSentry.j0
      repeat' first
      | (with_reducible exact ih0 _ _ _ _ _)
      | (with_reducible exact ih1 _ _ _ _ _ _ _)
      | (with_reducible exact api_Cond_238.mono _ _ _ _)
      | (with_reducible exact api_On_237.mono _ _ _ _)
      | (with_reducible exact model_isOn.mono _ _ _ _ _)
      | (with_reducible exact LeO.refl _)
      | (with_reducible exact LeO.none _)
      | (with_reducible refine LeO.ite ?_ ?_)
      | (with_reducible refine LeO.bind ?_ (fun _ => ?_))
      | exact ih0 _ _ _ _ _
      | exact ih1 _ _ _ _ _ _ _
      | exact api_Cond_238.mono _ _ _ _
      | exact api_On_237.mono _ _ _ _
      | exact model_isOn.mono _ _ _ _ _
      | exact LeO.none _
      | refine LeO.ite ?_ ?_
      | refine LeO.bind ?_ (fun _=>?_)
    intro y0 y1 y2 y3 y4 y5 y6;unfold model_isSentry.l0
    repeat' first
    | (with_reducible exact ih0 _ _ _ _ _)
    | (with_reducible exact ih1 _ _ _ _ _ _ _)
    | (with_reducible exact api_Cond_238.mono _ _ _ _)
    | (with_reducible exact api_On_237.mono _ _ _ _)
    | (with_reducible exact model_isOn.mono _ _ _ _ _)
    | (with_reducible exact LeO.refl _)
    | (with_reducible exact LeO.none _)
    | (with_reducible refine LeO.ite ?_ ?_)
    | (with_reducible refine LeO.bind ?_ (fun _ => ?_))
    | exact ih0 _ _ _ _ _
    | exact ih1 _ _ _ _ _ _ _
    | exact api_Cond_238.mono _ _ _ _
    | exact api_On_237.mono _ _ _ _
    | exact model_isOn.mono _ _ _ _ _
    | exact LeO.none _
    | refine LeO.ite ?_ ?_
    | refine LeO.bind ?_ (fun _=>?_)
theorem model_isSentry.mono:∀ a0 a1 a2 a3 k,LeO (model_isSentry.f k a0 a1 a2 a3) (model_isSentry.f (k+1) a0 a1 a2 a3):=by
  intro a0 a1 a2 a3 k;obtain⟨ih0,ih1⟩:=model_isSentry.mono_l k;unfold model_isSentry.f
  repeat' first
      | (with_reducible exact ih0 _ _ _ _ _)
      | (with_reducible exact ih1 _ _ _ _ _ _ _)
      | (with_reducible exact api_Cond_238.mono _ _ _ _)
      | (with_reducible exact api_On_237.mono _ _ _ _)
      | (with_reducible exact model_isOn.mono _ _ _ _ _)
      | (with_reducible exact LeO.refl _)
      | (with_reducible exact LeO.none _)
      | (with_reducible refine LeO.ite ?_ ?_)
      | (with_reducible refine LeO.bind ?_ (fun _ => ?_))
      | exact ih0 _ _ _ _ _
      | exact ih1 _ _ _ _ _ _ _
      | exact api_Cond_238.mono _ _ _ _
      | exact api_On_237.mono _ _ _ _
      | exact model_isOn.mono _ _ _ _ _
      | exact LeO.none _
      | refine LeO.ite ?_ ?_
      | refine LeO.bind ?_ (fun _=>?_)
def model_isSentry.T6:Bool × List (List Nat × List Nat):=(true,[([],[]),([],[]),([0,1],[0,1]),([2],[2]),([3,2],[3]),([4],[4]),([5,4],[4,5]),([4],[4]),([6,7,4],[4,6,7]),([4],[4]),([8,9,4,4],[4,8,9]),([4,10],[4,10])])
def model_isSentry.B6:List Nat:=[0,0,3,7,15,31,63,31,255,31,1023,2047]
theorem model_isSentry.tab6:rtab .any (opsOf Tryz.f212 6)=model_isSentry.T6:=by kernel_rfl
theorem model_isSentry.bits6:waitsOk model_isSentry.T6.2 model_isSentry.B6=true:=by kernel_rfl
theorem model_isSentry.calls(k : Nat)(A0_0 : Option Addr)(c0_0 : Nat)(l0_0 : List ByteArray)(A0_1 : Option Addr)(c0_1 : Nat)(l0_1 : List (S47))(A1_0 : Option Addr)(c1_0 : Nat)(l1_0 : List (S78))(A1_1 : Option Addr)(c1_1 : Nat)(l1_1 : List (S93))(r : Bool)(w : World)(hr0_0 : Kd.C Kd.string w A0_0 l0_0.length l0_0)(hc0_0 : l0_0.length ≤ c0_0)(hr0_1 : Kd.C k47 w A0_1 l0_1.length l0_1)(hc0_1 : l0_1.length ≤ c0_1)(hr1_0 : Kd.C k78 w A1_0 l1_0.length l1_0)(hc1_0 : l1_0.length ≤ c1_0)(hr1_1 : Kd.C k93 w A1_1 l1_1.length l1_1)(hc1_1 : l1_1.length ≤ c1_1)(h : model_isSentry.f k l0_0 l0_1 l1_0 l1_1 = some r) :
  Calls Tryz.prog 212 #[.agg #[.slice A0_0 l0_0.length c0_0,.slice A0_1 l0_1.length c0_1],.agg #[.slice A1_0 l1_0.length c1_0,.slice A1_1 l1_1.length c1_1]] w fun e w'=>e = .returned (.bool r)∧Below w.heap.size w w':=by
 have hu25:=Tryz.underlying25;have hu29:=Tryz.underlying29;have hu78:=Tryz.underlying78;have HR0_0:=am hr0_0;have HC0_0:=am hc0_0;clear hr0_0 hc0_0;have HR0_1:=am hr0_1;have HC0_1:=am hc0_1;clear hr0_1 hc0_1;have HR1_0:=am hr1_0;have HC1_0:=am hc1_0;clear hr1_0 hc1_0;have HR1_1:=am hr1_1;have HC1_1:=am hc1_1;clear hr1_1 hc1_1;have HB:=am (Below.refl w.heap.size w);have H:(if (l1_0.length:Int)>3 then (model_isSentry.j0 k true l0_0 l0_1 l1_0 l1_1) else (if (l1_1.length:Int)>2 then (model_isSentry.j0 k true l0_0 l0_1 l1_0 l1_1) else (model_isSentry.j0 k ((wrap64 ((l1_0.length:Int)+(l1_1.length:Int))) == 0) l0_0 l0_1 l1_0 l1_1)))=some r:=h;clear h;have HC3:=am H;clear H;go_enter Tryz.func212,Tryz.ntmps212;go_upto_region 1 with (first|((with_reducible refine gd_ 2 ?_);(try (refine gate_guard (by rfl) ?_;dsimp only));refine bx_ 2 #[.slice A0_0 l0_0.length c0_0,.slice A0_1 l0_1.length c0_1] 25 ?_;intro gb101 hg w4 hbox hb;have BK101:=am (hbox);have GE101:=am (zg:w.heap.size≤gb101);replace HB:=am (below_step (zb) hb);clear hb hbox hg)|((with_reducible refine gd_ 3 ?_);(try (refine gate_guard (by rfl) ?_;dsimp only));refine bx_ 3 #[.slice A1_0 l1_0.length c1_0,.slice A1_1 l1_1.length c1_1] 29 ?_;intro gb102 hg w5 hbox hb;have BK102:=am (hbox);have GE102:=am (zg:w.heap.size≤gb102);replace HB:=am (below_step (zb) hb);replace BK101:=am (zw BK101.out hb);clear hb hbox hg))
 (try simp only [Act.put,List.setIfInBounds_toArray,List.set_cons_zero,List.set_cons_succ])
 go_cut [26] (fun v26 wc => ∃ (kq:Nat) (x26_2:Bool),v26 = .bool x26_2∧Aside0 (model_isSentry.j0 kq x26_2 l0_0 l0_1 l1_0 l1_1=some r)∧Aside0 (kq≤k)∧Aside0 (wc.heap[gb101]? = some (.cells #[(.slice A0_0 l0_0.length c0_0),(.slice A0_1 l0_1.length c0_1)] 25 (0,0)))∧Aside0 (wc.heap[gb102]? = some (.cells #[(.slice A1_0 l1_0.length c1_0),(.slice A1_1 l1_1.length c1_1)] 29 (0,0)))∧Aside0 (Below w.heap.size w wc))
 case first =>
  have H:=HC3.out;clear HC3;by_cases c6:(l1_0.length:Int)>3
  ·
   rw [if_pos c6] at H;have c6b0:decide (3<(l1_0.length:Int))=true:=Qb c6;have c6b1:decide (3<l1_0.length)=true:=Qb (by omega);clear c6
   (first|rw [c6b0] | (simp only [i64_w,i32_w];rw [c6b0])|skip)
   have H':=am H;clear H;obtain⟨hcz8_0,hcz8_1,hfz8_0,hfz8_1⟩:=cf2 BK102.out;go_wp2;go_meet
   case rel=>exact ⟨_,(true),(ze),H',⟨by first|omega|exact Nat.le_refl _⟩,⟨zl BK101.out⟩,⟨zl BK102.out⟩,⟨zb⟩⟩
  rw [if_neg c6] at H;have c6b0:decide (3<(l1_0.length:Int))=false:=Qc c6;have c6b1:decide (3<l1_0.length)=false:=Qc (by omega);clear c6
  (first|rw [c6b0] | (simp only [i64_w,i32_w];rw [c6b0])|skip)
  by_cases c9:(l1_1.length:Int)>2
  ·
   rw [if_pos c9] at H;have c9b0:decide (2<(l1_1.length:Int))=true:=Qb c9;have c9b1:decide (2<l1_1.length)=true:=Qb (by omega);clear c9;have H':=am H;clear H;obtain⟨hcz11_0,hcz11_1,hfz11_0,hfz11_1⟩:=cf2 BK102.out;go_wp2;go_meet
   case rel=>exact ⟨_,(true),(ze),H',⟨by first|omega|exact Nat.le_refl _⟩,⟨zl BK101.out⟩,⟨zl BK102.out⟩,⟨zb⟩⟩
  rw [if_neg c9] at H;have c9b0:decide (2<(l1_1.length:Int))=false:=Qc c9;have c9b1:decide (2<l1_1.length)=false:=Qc (by omega);clear c9;have H':=am H;clear H;obtain⟨hcz13_0,hcz13_1,hfz13_0,hfz13_1⟩:=cf2 BK102.out;go_wp2;go_meet
  case rel=>exact ⟨_,(((wrap64 ((l1_0.length:Int)+(l1_1.length:Int))) == 0)),(ze),H',⟨by first|omega|exact Nat.le_refl _⟩,⟨zl BK101.out⟩,⟨zl BK102.out⟩,⟨zb⟩⟩
 case rest =>
  clear HC3;obtain⟨kq,x26_2,rfl,HA,HJ2,BK101,BK102,HB⟩:=hcut
  cases kq with
  | zero => exact absurd HA.out (by simp [model_isSentry.j0])
  | succ kj2 =>
   have H:=HA.out;clear HA;simp only [model_isSentry.j0] at H;by_cases c14:x26_2=true
   ·
    subst c14;have H1:(some false)=some r:=by rw [if_pos rfl] at H;exact H
    clear H;have H:=H1;clear H1;obtain rfl:=Qd H;go_wp2;go_ret;exact⟨zf,zb⟩
   replace c14:=Qj c14;subst c14;have H1:(model_isSentry.l0 kj2 l1_0 (l1_0.length:Int) 0 l0_0 l0_1 l1_0 l1_1)=some r:=by rw [if_neg (show ¬ (false=true) by decide)] at H;exact H
   clear H;have H:=H1;clear H1;have H':=am H;clear H;obtain⟨hcz16_0,hcz16_1,hfz16_0,hfz16_1⟩:=cf2 BK102.out;go_wp2;go_loopg [30] kj2 (fun kq v30 w' => ∃ (x30_2:Int),v30 = .int .i64 x30_2∧Aside0 (model_isSentry.l0 kq l1_0 (l1_0.length:Int) x30_2 l0_0 l0_1 l1_0 l1_1=some r)∧Aside0 (kq≤kj2)∧Aside0 (w'.heap[gb101]? = some (.cells #[(.slice A0_0 l0_0.length c0_0),(.slice A0_1 l0_1.length c0_1)] 25 (0,0)))∧Aside0 (w'.heap[gb102]? = some (.cells #[(.slice A1_0 l1_0.length c1_0),(.slice A1_1 l1_1.length c1_1)] 29 (0,0)))∧Aside0 (Below w.heap.size w w'))
   case atStart=>exact ⟨(0),(ze),H',⟨Nat.le_refl _⟩,⟨zl BK101.out⟩,⟨zl BK102.out⟩,⟨zb⟩⟩
   case round =>
    clear H';obtain⟨x30_2,rfl,HA,HK2,BK101,BK102,HB⟩:=hrel
    cases gk with
    | zero => exact absurd HA.out (by simp [model_isSentry.l0])
    | succ k2 =>
     have H:=HA.out;clear HA;simp only [model_isSentry.l0] at H;by_cases c17:x30_2<(l1_0.length:Int)
     ·
      rw [if_pos c17] at H;have c17b0:=Qb c17;clear c17;by_cases c18:0≤x30_2
      ·
       rw [if_pos c18] at H;have c18b0:=Qb c18;clear c18;by_cases c19:x30_2<(l1_0.length:Int)
       ·
        rw [if_pos c19] at H;have c19b0:=Qb c19;clear c19;replace H:=Qe H;obtain⟨t106,A200,H⟩:=H;have A20:=am A200;clear A200;by_cases c21:t106=true
        ·
         subst c21;have H1:(if x30_2≤(l1_0.length:Int) then ((api_On_237.f k2 (l1_0.take (x30_2:Int).toNat) ((rd_T78 l1_0 x30_2).f0) ((rd_T78 l1_0 x30_2).f1)).bind fun t111=>(if t111=true then (some false) else (model_isSentry.l0 k2 l1_0 (l1_0.length:Int) (wrap64 (x30_2+1)) l0_0 l0_1 l1_0 l1_1))) else (none))=some r:=by rw [if_pos rfl] at H;exact H
         clear H;have H:=H1;clear H1;have c22b0:=eq_true (Qo:0≤x30_2);by_cases c23:x30_2≤(l1_0.length:Int)
         ·
          rw [if_pos c23] at H;have c23b0:=eq_true c23;have c23b1:=Qb c23;clear c23;obtain⟨y107,hy107⟩:∃ y_:List (S78),y_=(l1_0.take (x30_2:Int).toNat):=⟨_,rfl⟩;replace H:((api_On_237.f k2 y107 ((rd_T78 l1_0 x30_2).f0) ((rd_T78 l1_0 x30_2).f1)).bind fun t111=>(if t111=true then (some false) else (model_isSentry.l0 k2 l1_0 (l1_0.length:Int) (wrap64 (x30_2+1)) l0_0 l0_1 l1_0 l1_1)))=some r:=by first|(rw [hy107];with_reducible exact H)|(have H2_:=(Option.bind_some _ _).symm.trans H;rw [hy107];with_reducible exact H2_)|(have H2_:=(Option.bind_some _ _).symm.trans H;with_reducible exact H2_)|with_reducible exact H|(rw [hy107];exact H)|exact H
          have Ny107:=am hy107;clear hy107;replace H:=Qe H;obtain⟨t111,A240,H⟩:=H;have A24:=am A240;clear A240;by_cases c25:t111=true
          ·
           subst c25;have H1:(some false)=some r:=by rw [if_pos rfl] at H;exact H
           clear H;have H:=H1;clear H1;obtain rfl:=Qd H;have p104:0≤(x30_2:Int):=Qo;have q104:x30_2<(l1_0.length:Int):=Qo;obtain⟨ad104,e104,hx104_0,hx104_1⟩:=at_T78 HR1_0.out x30_2 p104 q104;cases e104;replace hx104_0:=ba HB hx104_0;replace hx104_1:=ba HB hx104_1;replace p104:=eq_true p104;replace q104:=eq_true q104;try go_wp2_with (first|((with_reducible refine gd_ 6 ?_);(try (refine gate_guard (by rfl) ?_;dsimp only));refine bx_ 6 #[.string (⟨#[]⟩:ByteArray),.int .i64 0] 78 ?_;intro gb105 hg w26 hbox hb;have BK105:=am (hbox);have GE105:=am (zg:w.heap.size≤gb105);replace HB:=am (below_step (zb) hb);have NB101_105:=am ((zn BK101.out:gb101≠gb105));replace BK101:=am (zw BK101.out hb);have NB102_105:=am ((zn BK102.out:gb102≠gb105));replace BK102:=am (zw BK102.out hb);clear hb hbox hg;obtain⟨hcz29_0,hcz29_1,hfz29_0,hfz29_1⟩:=cf2 BK105.out))
           have n0_:Aside0 (((w26.setCell ⟨gb105,0,none⟩ (.string ((rd_T78 l1_0 x30_2).f0))).setCell ⟨gb105,1,none⟩ (.int .i64 ((rd_T78 l1_0 x30_2).f1))).heap[gb101]? = some (.cells #[.slice A0_0 l0_0.length c0_0,.slice A0_1 l0_1.length c0_1] 25 (0,0))):=⟨by refine zl ?_;refine blk_far ?_ NB101_105.out _;refine zl ?_;refine blk_far ?_ NB101_105.out _;refine zl ?_;exact BK101.out⟩;have n1_:Aside0 (((w26.setCell ⟨gb105,0,none⟩ (.string ((rd_T78 l1_0 x30_2).f0))).setCell ⟨gb105,1,none⟩ (.int .i64 ((rd_T78 l1_0 x30_2).f1))).heap[gb102]? = some (.cells #[.slice (some ad104) l1_0.length c1_0,.slice A1_1 l1_1.length c1_1] 29 (0,0))):=⟨by refine zl ?_;refine blk_far ?_ NB102_105.out _;refine zl ?_;refine blk_far ?_ NB102_105.out _;refine zl ?_;exact BK102.out⟩;have n2_:Aside0 (((w26.setCell ⟨gb105,0,none⟩ (.string ((rd_T78 l1_0 x30_2).f0))).setCell ⟨gb105,1,none⟩ (.int .i64 ((rd_T78 l1_0 x30_2).f1))).heap[gb105]? = some (.cells #[.string ((rd_T78 l1_0 x30_2).f0),.int .i64 ((rd_T78 l1_0 x30_2).f1)] 78 (0,0))):=⟨by refine zl ?_;refine blk_put (cs:=#[.string ((rd_T78 l1_0 x30_2).f0),.int .i64 0]) ?_ 1 _ rfl;refine zl ?_;refine blk_put (cs:=#[.string (⟨#[]⟩:ByteArray),.int .i64 0]) ?_ 0 _ rfl;refine zl ?_;exact BK105.out⟩;have n3_:Aside0 (Below w.heap.size w ((w26.setCell ⟨gb105,0,none⟩ (.string ((rd_T78 l1_0 x30_2).f0))).setCell ⟨gb105,1,none⟩ (.int .i64 ((rd_T78 l1_0 x30_2).f1)))):=⟨zb⟩
           (try clear BK101)
           (try clear BK102)
           (try clear BK105)
           (try clear HB)
           generalize ((w26.setCell ⟨gb105,0,none⟩ (.string ((rd_T78 l1_0 x30_2).f0))).setCell ⟨gb105,1,none⟩ (.int .i64 ((rd_T78 l1_0 x30_2).f1)))=w30 at n0_ n1_ n2_ n3_ ⊢;have BK101:=n0_;have BK102:=n1_;have BK105:=n2_;have HB:=n3_;clear n0_ n1_ n2_ n3_;replace BK101:=am (blk_drew BK101.out);replace BK102:=am (blk_drew BK102.out);replace BK105:=am (blk_drew BK105.out);replace HB:=am (below_drew1 HB.out);refine start_ (n:=12) (S:=fun w'=>w'.cell? ⟨gb101,0,none⟩=some (.slice A0_0 l0_0.length c0_0)∧w'.cell? ⟨gb101,1,none⟩=some (.slice A0_1 l0_1.length c0_1)∧w'.cell? ⟨gb105,0,none⟩=some (.string ((rd_T78 l1_0 x30_2).f0))∧w'.cell? ⟨gb105,1,none⟩=some (.int .i64 ((rd_T78 l1_0 x30_2).f1))∧w'.cell? ⟨gb102,0,none⟩=some (.slice (some ad104) l1_0.length c1_0)∧w'.cell? ⟨gb102,1,none⟩=some (.slice A1_1 l1_1.length c1_1)) (ds:=[]) #[false,false,false,false,false,false,false,false,false,false,false,false] (by kernel_rfl) rfl rfl ⟨bc BK101 0,bc BK101 1,bc BK105 0,bc BK105 1,bc BK102 0,bc BK102 1⟩ (fun hHeld=>?_);refine with_tabW model_isSentry.tab6 model_isSentry.bits6 (fun HT_ HW_=>?_);generalize w30.drew=w31 at BK101 BK102 BK105 HB hHeld ⊢;refine tz_ 0 35 12 1 ?_;refine tz_ 1 36 12 3 ?_;refine oz_ 2 37 12 7 (fun K hK=>?_);refine goes_ Tryz.func236 (by kernel_rfl) rfl #[.agg #[.slice A0_0 l0_0.length c0_0,.slice A0_1 l0_1.length c0_1],.agg #[.string ((rd_T78 l1_0 x30_2).f0),.int .i64 ((rd_T78 l1_0 x30_2).f1)]] (by rfl) rfl rfl (za) ?_;with_reducible refine (model_isOn.calls k2 _ _ l0_0 _ _ l0_1 ((rd_T78 l1_0 x30_2).f0) ((rd_T78 l1_0 x30_2).f1) true _ ?side1 ?side2 ?side3 ?side4 A20.out).mono ?_
           (case side1=>exact zc (Kd.C_below HR0_0.out HB.out))
           (case side2=>exact HC0_0.out)
           (case side3=>exact zc (Kd.C_below HR0_1.out HB.out))
           (case side4=>exact HC0_1.out)
           rintro e w32 ⟨rfl,hb⟩;refine⟨_,rfl,?_⟩;replace BK101:=am (zw BK101.out hb);replace BK102:=am (zw BK102.out hb);replace BK105:=am (zw BK105.out hb);replace HB:=am (below_step (zb) hb)
           (try clear hb)
           (try clear hb2)
           (try clear hk)
           (try clear hi)
           have q33:(x30_2:Int)≤((l1_0.length:Int):Int):=Qo;obtain⟨i033,hi033,_,hsz33,_⟩:=info_parts info78;have hroom33:l1_0.length≤c1_0:=HC1_0.out;have hC33:Kd.C k78 _ (some ad104) l1_0.length l1_0:=HR1_0.out;have hcut33:=cut_to (P:=Tryz.prog) 26 78 .i64 Tryz.underlying26 hi033 (some ad104) l1_0.length c1_0 x30_2 (Qo) q33 hroom33;have hr33:=Kd.C_take (m:=(x30_2:Int).toNat) hC33 (by omega);have hy33:y107.length=(x30_2:Int).toNat:=(by rw [Ny107.out,List.length_take];omega);rw [← Ny107.out] at hr33;rw [← hy33] at hcut33;have HR110:=am hr33;have HC110:=am (show y107.length≤c1_0 from by omega);clear hr33 hC33 hroom33 hi033 hsz33;have KY33:=am hy33;clear hy33;replace q33:=eq_true q33;refine hK.out _ _ ⟨bc BK101 0,bc BK101 1,bc BK105 0,bc BK105 1,bc BK102 0,bc BK102 1⟩ (fun hHeld=>?_);clear hK K;refine nz_ 37 ?_;refine pz_ 3 38 12 15 ?_;refine pz_ 4 39 12 31 ?_;refine pz_ 5 40 12 63 ?_;refine pz_ 7 42 12 191 ?_;refine tz_ 6 41 12 255 ?_;refine pz_ 8 43 12 511 ?_;refine tz_ 9 44 12 1023 ?_;refine oz_ 10 45 12 2047 (fun K hK=>?_);refine goes_ Tryz.func237 (by kernel_rfl) rfl #[.slice (some ad104) y107.length c1_0,.agg #[.string ((rd_T78 l1_0 x30_2).f0),.int .i64 ((rd_T78 l1_0 x30_2).f1)]] (by rfl) rfl rfl (za) ?_;with_reducible refine (api_On_237.calls k2 _ _ y107 ((rd_T78 l1_0 x30_2).f0) ((rd_T78 l1_0 x30_2).f1) true _ ?side1 ?side2 A24.out).mono ?_
           (case side1=>exact zc (Kd.C_below HR110.out HB.out))
           (case side2=>exact HC110.out)
           rintro e w34 ⟨rfl,hb⟩;refine⟨_,rfl,?_⟩;replace BK101:=am (zw BK101.out hb);replace BK102:=am (zw BK102.out hb);replace BK105:=am (zw BK105.out hb);replace HB:=am (below_step (zb) hb)
           (try clear hb)
           (try clear hb2)
           (try clear hk)
           (try clear hi)
           refine hK.out _ _ ⟨bc BK101 0,bc BK101 1,bc BK105 0,bc BK105 1,bc BK102 0,bc BK102 1⟩ (fun hHeld=>?_);clear hK K;refine nz_ 45 ?_;refine pz_ 11 46 12 4095 ?_;refine done_ (done_of HT_.out (by kernel_rfl)) ?_;try go_wp2
           go_ret;exact⟨zf,zb⟩
          replace c25:=Qj c25;subst c25;have H1:(model_isSentry.l0 k2 l1_0 (l1_0.length:Int) (wrap64 (x30_2+1)) l0_0 l0_1 l1_0 l1_1)=some r:=by rw [if_neg (show ¬ (false=true) by decide)] at H;exact H
          clear H;have H:=H1;clear H1;have H':=am H;clear H;have p104:0≤(x30_2:Int):=Qo;have q104:x30_2<(l1_0.length:Int):=Qo;obtain⟨ad104,e104,hx104_0,hx104_1⟩:=at_T78 HR1_0.out x30_2 p104 q104;cases e104;replace hx104_0:=ba HB hx104_0;replace hx104_1:=ba HB hx104_1;replace p104:=eq_true p104;replace q104:=eq_true q104;try go_wp2_with (first|((with_reducible refine gd_ 6 ?_);(try (refine gate_guard (by rfl) ?_;dsimp only));refine bx_ 6 #[.string (⟨#[]⟩:ByteArray),.int .i64 0] 78 ?_;intro gb105 hg w35 hbox hb;have BK105:=am (hbox);have GE105:=am (zg:w.heap.size≤gb105);replace HB:=am (below_step (zb) hb);have NB101_105:=am ((zn BK101.out:gb101≠gb105));replace BK101:=am (zw BK101.out hb);have NB102_105:=am ((zn BK102.out:gb102≠gb105));replace BK102:=am (zw BK102.out hb);clear hb hbox hg;obtain⟨hcz38_0,hcz38_1,hfz38_0,hfz38_1⟩:=cf2 BK105.out))
          have n0_:Aside0 (((w35.setCell ⟨gb105,0,none⟩ (.string ((rd_T78 l1_0 x30_2).f0))).setCell ⟨gb105,1,none⟩ (.int .i64 ((rd_T78 l1_0 x30_2).f1))).heap[gb101]? = some (.cells #[.slice A0_0 l0_0.length c0_0,.slice A0_1 l0_1.length c0_1] 25 (0,0))):=⟨by refine zl ?_;refine blk_far ?_ NB101_105.out _;refine zl ?_;refine blk_far ?_ NB101_105.out _;refine zl ?_;exact BK101.out⟩;have n1_:Aside0 (((w35.setCell ⟨gb105,0,none⟩ (.string ((rd_T78 l1_0 x30_2).f0))).setCell ⟨gb105,1,none⟩ (.int .i64 ((rd_T78 l1_0 x30_2).f1))).heap[gb102]? = some (.cells #[.slice (some ad104) l1_0.length c1_0,.slice A1_1 l1_1.length c1_1] 29 (0,0))):=⟨by refine zl ?_;refine blk_far ?_ NB102_105.out _;refine zl ?_;refine blk_far ?_ NB102_105.out _;refine zl ?_;exact BK102.out⟩;have n2_:Aside0 (((w35.setCell ⟨gb105,0,none⟩ (.string ((rd_T78 l1_0 x30_2).f0))).setCell ⟨gb105,1,none⟩ (.int .i64 ((rd_T78 l1_0 x30_2).f1))).heap[gb105]? = some (.cells #[.string ((rd_T78 l1_0 x30_2).f0),.int .i64 ((rd_T78 l1_0 x30_2).f1)] 78 (0,0))):=⟨by refine zl ?_;refine blk_put (cs:=#[.string ((rd_T78 l1_0 x30_2).f0),.int .i64 0]) ?_ 1 _ rfl;refine zl ?_;refine blk_put (cs:=#[.string (⟨#[]⟩:ByteArray),.int .i64 0]) ?_ 0 _ rfl;refine zl ?_;exact BK105.out⟩;have n3_:Aside0 (Below w.heap.size w ((w35.setCell ⟨gb105,0,none⟩ (.string ((rd_T78 l1_0 x30_2).f0))).setCell ⟨gb105,1,none⟩ (.int .i64 ((rd_T78 l1_0 x30_2).f1)))):=⟨zb⟩
          (try clear BK101)
          (try clear BK102)
          (try clear BK105)
          (try clear HB)
          generalize ((w35.setCell ⟨gb105,0,none⟩ (.string ((rd_T78 l1_0 x30_2).f0))).setCell ⟨gb105,1,none⟩ (.int .i64 ((rd_T78 l1_0 x30_2).f1)))=w39 at n0_ n1_ n2_ n3_ ⊢;have BK101:=n0_;have BK102:=n1_;have BK105:=n2_;have HB:=n3_;clear n0_ n1_ n2_ n3_;replace BK101:=am (blk_drew BK101.out);replace BK102:=am (blk_drew BK102.out);replace BK105:=am (blk_drew BK105.out);replace HB:=am (below_drew1 HB.out);refine start_ (n:=12) (S:=fun w'=>w'.cell? ⟨gb101,0,none⟩=some (.slice A0_0 l0_0.length c0_0)∧w'.cell? ⟨gb101,1,none⟩=some (.slice A0_1 l0_1.length c0_1)∧w'.cell? ⟨gb105,0,none⟩=some (.string ((rd_T78 l1_0 x30_2).f0))∧w'.cell? ⟨gb105,1,none⟩=some (.int .i64 ((rd_T78 l1_0 x30_2).f1))∧w'.cell? ⟨gb102,0,none⟩=some (.slice (some ad104) l1_0.length c1_0)∧w'.cell? ⟨gb102,1,none⟩=some (.slice A1_1 l1_1.length c1_1)) (ds:=[]) #[false,false,false,false,false,false,false,false,false,false,false,false] (by kernel_rfl) rfl rfl ⟨bc BK101 0,bc BK101 1,bc BK105 0,bc BK105 1,bc BK102 0,bc BK102 1⟩ (fun hHeld=>?_);refine with_tabW model_isSentry.tab6 model_isSentry.bits6 (fun HT_ HW_=>?_);generalize w39.drew=w40 at BK101 BK102 BK105 HB hHeld ⊢;refine tz_ 0 35 12 1 ?_;refine tz_ 1 36 12 3 ?_;refine oz_ 2 37 12 7 (fun K hK=>?_);refine goes_ Tryz.func236 (by kernel_rfl) rfl #[.agg #[.slice A0_0 l0_0.length c0_0,.slice A0_1 l0_1.length c0_1],.agg #[.string ((rd_T78 l1_0 x30_2).f0),.int .i64 ((rd_T78 l1_0 x30_2).f1)]] (by rfl) rfl rfl (za) ?_;with_reducible refine (model_isOn.calls k2 _ _ l0_0 _ _ l0_1 ((rd_T78 l1_0 x30_2).f0) ((rd_T78 l1_0 x30_2).f1) true _ ?side1 ?side2 ?side3 ?side4 A20.out).mono ?_
          (case side1=>exact zc (Kd.C_below HR0_0.out HB.out))
          (case side2=>exact HC0_0.out)
          (case side3=>exact zc (Kd.C_below HR0_1.out HB.out))
          (case side4=>exact HC0_1.out)
          rintro e w41 ⟨rfl,hb⟩;refine⟨_,rfl,?_⟩;replace BK101:=am (zw BK101.out hb);replace BK102:=am (zw BK102.out hb);replace BK105:=am (zw BK105.out hb);replace HB:=am (below_step (zb) hb)
          (try clear hb)
          (try clear hb2)
          (try clear hk)
          (try clear hi)
          have q42:(x30_2:Int)≤((l1_0.length:Int):Int):=Qo;obtain⟨i042,hi042,_,hsz42,_⟩:=info_parts info78;have hroom42:l1_0.length≤c1_0:=HC1_0.out;have hC42:Kd.C k78 _ (some ad104) l1_0.length l1_0:=HR1_0.out;have hcut42:=cut_to (P:=Tryz.prog) 26 78 .i64 Tryz.underlying26 hi042 (some ad104) l1_0.length c1_0 x30_2 (Qo) q42 hroom42;have hr42:=Kd.C_take (m:=(x30_2:Int).toNat) hC42 (by omega);have hy42:y107.length=(x30_2:Int).toNat:=(by rw [Ny107.out,List.length_take];omega);rw [← Ny107.out] at hr42;rw [← hy42] at hcut42;have HR110:=am hr42;have HC110:=am (show y107.length≤c1_0 from by omega);clear hr42 hC42 hroom42 hi042 hsz42;have KY42:=am hy42;clear hy42;replace q42:=eq_true q42;refine hK.out _ _ ⟨bc BK101 0,bc BK101 1,bc BK105 0,bc BK105 1,bc BK102 0,bc BK102 1⟩ (fun hHeld=>?_);clear hK K;refine nz_ 37 ?_;refine pz_ 3 38 12 15 ?_;refine pz_ 4 39 12 31 ?_;refine pz_ 5 40 12 63 ?_;refine pz_ 7 42 12 191 ?_;refine tz_ 6 41 12 255 ?_;refine pz_ 8 43 12 511 ?_;refine tz_ 9 44 12 1023 ?_;refine oz_ 10 45 12 2047 (fun K hK=>?_);refine goes_ Tryz.func237 (by kernel_rfl) rfl #[.slice (some ad104) y107.length c1_0,.agg #[.string ((rd_T78 l1_0 x30_2).f0),.int .i64 ((rd_T78 l1_0 x30_2).f1)]] (by rfl) rfl rfl (za) ?_;with_reducible refine (api_On_237.calls k2 _ _ y107 ((rd_T78 l1_0 x30_2).f0) ((rd_T78 l1_0 x30_2).f1) false _ ?side1 ?side2 A24.out).mono ?_
          (case side1=>exact zc (Kd.C_below HR110.out HB.out))
          (case side2=>exact HC110.out)
          rintro e w43 ⟨rfl,hb⟩;refine⟨_,rfl,?_⟩;replace BK101:=am (zw BK101.out hb);replace BK102:=am (zw BK102.out hb);replace BK105:=am (zw BK105.out hb);replace HB:=am (below_step (zb) hb)
          (try clear hb)
          (try clear hb2)
          (try clear hk)
          (try clear hi)
          refine hK.out _ _ ⟨bc BK101 0,bc BK101 1,bc BK105 0,bc BK105 1,bc BK102 0,bc BK102 1⟩ (fun hHeld=>?_);clear hK K;refine nz_ 45 ?_;refine pz_ 11 46 12 4095 ?_;refine done_ (done_of HT_.out (by kernel_rfl)) ?_;try go_wp2
          go_roundg k2
          case measure=>have:=HJ2.out;have:=HK2.out;omega
          case rel=>exact ⟨(wrap64 (x30_2+1)),(ze),H',⟨by have:=HJ2.out;have:=HK2.out;omega⟩,⟨zl BK101.out⟩,⟨zl BK102.out⟩,⟨zb⟩⟩
         rw [if_neg c23] at H;exact absurd H (by simp)
        replace c21:=Qj c21;subst c21;have H1:(some false)=some r:=by rw [if_neg (show ¬ (false=true) by decide)] at H;exact H
        clear H;have H:=H1;clear H1;obtain rfl:=Qd H;have p104:0≤(x30_2:Int):=Qo;have q104:x30_2<(l1_0.length:Int):=Qo;obtain⟨ad104,e104,hx104_0,hx104_1⟩:=at_T78 HR1_0.out x30_2 p104 q104;cases e104;replace hx104_0:=ba HB hx104_0;replace hx104_1:=ba HB hx104_1;replace p104:=eq_true p104;replace q104:=eq_true q104;try go_wp2_with (first|((with_reducible refine gd_ 6 ?_);(try (refine gate_guard (by rfl) ?_;dsimp only));refine bx_ 6 #[.string (⟨#[]⟩:ByteArray),.int .i64 0] 78 ?_;intro gb105 hg w44 hbox hb;have BK105:=am (hbox);have GE105:=am (zg:w.heap.size≤gb105);replace HB:=am (below_step (zb) hb);have NB101_105:=am ((zn BK101.out:gb101≠gb105));replace BK101:=am (zw BK101.out hb);have NB102_105:=am ((zn BK102.out:gb102≠gb105));replace BK102:=am (zw BK102.out hb);clear hb hbox hg;obtain⟨hcz47_0,hcz47_1,hfz47_0,hfz47_1⟩:=cf2 BK105.out))
        have n0_:Aside0 (((w44.setCell ⟨gb105,0,none⟩ (.string ((rd_T78 l1_0 x30_2).f0))).setCell ⟨gb105,1,none⟩ (.int .i64 ((rd_T78 l1_0 x30_2).f1))).heap[gb101]? = some (.cells #[.slice A0_0 l0_0.length c0_0,.slice A0_1 l0_1.length c0_1] 25 (0,0))):=⟨by refine zl ?_;refine blk_far ?_ NB101_105.out _;refine zl ?_;refine blk_far ?_ NB101_105.out _;refine zl ?_;exact BK101.out⟩;have n1_:Aside0 (((w44.setCell ⟨gb105,0,none⟩ (.string ((rd_T78 l1_0 x30_2).f0))).setCell ⟨gb105,1,none⟩ (.int .i64 ((rd_T78 l1_0 x30_2).f1))).heap[gb102]? = some (.cells #[.slice (some ad104) l1_0.length c1_0,.slice A1_1 l1_1.length c1_1] 29 (0,0))):=⟨by refine zl ?_;refine blk_far ?_ NB102_105.out _;refine zl ?_;refine blk_far ?_ NB102_105.out _;refine zl ?_;exact BK102.out⟩;have n2_:Aside0 (((w44.setCell ⟨gb105,0,none⟩ (.string ((rd_T78 l1_0 x30_2).f0))).setCell ⟨gb105,1,none⟩ (.int .i64 ((rd_T78 l1_0 x30_2).f1))).heap[gb105]? = some (.cells #[.string ((rd_T78 l1_0 x30_2).f0),.int .i64 ((rd_T78 l1_0 x30_2).f1)] 78 (0,0))):=⟨by refine zl ?_;refine blk_put (cs:=#[.string ((rd_T78 l1_0 x30_2).f0),.int .i64 0]) ?_ 1 _ rfl;refine zl ?_;refine blk_put (cs:=#[.string (⟨#[]⟩:ByteArray),.int .i64 0]) ?_ 0 _ rfl;refine zl ?_;exact BK105.out⟩;have n3_:Aside0 (Below w.heap.size w ((w44.setCell ⟨gb105,0,none⟩ (.string ((rd_T78 l1_0 x30_2).f0))).setCell ⟨gb105,1,none⟩ (.int .i64 ((rd_T78 l1_0 x30_2).f1)))):=⟨zb⟩
        (try clear BK101)
        (try clear BK102)
        (try clear BK105)
        (try clear HB)
        generalize ((w44.setCell ⟨gb105,0,none⟩ (.string ((rd_T78 l1_0 x30_2).f0))).setCell ⟨gb105,1,none⟩ (.int .i64 ((rd_T78 l1_0 x30_2).f1)))=w48 at n0_ n1_ n2_ n3_ ⊢;have BK101:=n0_;have BK102:=n1_;have BK105:=n2_;have HB:=n3_;clear n0_ n1_ n2_ n3_;replace BK101:=am (blk_drew BK101.out);replace BK102:=am (blk_drew BK102.out);replace BK105:=am (blk_drew BK105.out);replace HB:=am (below_drew1 HB.out);refine start_ (n:=12) (S:=fun w'=>w'.cell? ⟨gb101,0,none⟩=some (.slice A0_0 l0_0.length c0_0)∧w'.cell? ⟨gb101,1,none⟩=some (.slice A0_1 l0_1.length c0_1)∧w'.cell? ⟨gb105,0,none⟩=some (.string ((rd_T78 l1_0 x30_2).f0))∧w'.cell? ⟨gb105,1,none⟩=some (.int .i64 ((rd_T78 l1_0 x30_2).f1))) (ds:=[]) #[false,false,false,false,false,false,false,false,false,false,false,false] (by kernel_rfl) rfl rfl ⟨bc BK101 0,bc BK101 1,bc BK105 0,bc BK105 1⟩ (fun hHeld=>?_);refine with_tabW model_isSentry.tab6 model_isSentry.bits6 (fun HT_ HW_=>?_);generalize w48.drew=w49 at BK101 BK102 BK105 HB hHeld ⊢;refine tz_ 0 35 12 1 ?_;refine tz_ 1 36 12 3 ?_;refine oz_ 2 37 12 7 (fun K hK=>?_);refine goes_ Tryz.func236 (by kernel_rfl) rfl #[.agg #[.slice A0_0 l0_0.length c0_0,.slice A0_1 l0_1.length c0_1],.agg #[.string ((rd_T78 l1_0 x30_2).f0),.int .i64 ((rd_T78 l1_0 x30_2).f1)]] (by rfl) rfl rfl (za) ?_;with_reducible refine (model_isOn.calls k2 _ _ l0_0 _ _ l0_1 ((rd_T78 l1_0 x30_2).f0) ((rd_T78 l1_0 x30_2).f1) false _ ?side1 ?side2 ?side3 ?side4 A20.out).mono ?_
        (case side1=>exact zc (Kd.C_below HR0_0.out HB.out))
        (case side2=>exact HC0_0.out)
        (case side3=>exact zc (Kd.C_below HR0_1.out HB.out))
        (case side4=>exact HC0_1.out)
        rintro e w50 ⟨rfl,hb⟩;refine⟨_,rfl,?_⟩;replace BK101:=am (zw BK101.out hb);replace BK102:=am (zw BK102.out hb);replace BK105:=am (zw BK105.out hb);replace HB:=am (below_step (zb) hb)
        (try clear hb)
        (try clear hb2)
        (try clear hk)
        (try clear hi)
        refine hK.out _ _ ⟨bc BK101 0,bc BK101 1,bc BK105 0,bc BK105 1⟩ (fun hHeld=>?_);clear hK K;refine nz_ 37 ?_;refine pz_ 3 38 12 15 ?_;refine pz_ 4 39 12 31 ?_;refine pu_ 5 40 12 63 ?_;refine pu_ 6 41 12 127 ?_;refine pu_ 7 42 12 255 ?_;refine pu_ 8 43 12 511 ?_;refine pu_ 9 44 12 1023 ?_;refine pu_ 10 45 12 2047 ?_;refine pz_ 11 46 12 4095 ?_;refine done_ (done_of HT_.out (by kernel_rfl)) ?_;try go_wp2
        go_ret;exact⟨zf,zb⟩
       rw [if_neg c19] at H;exact absurd H (by simp)
      rw [if_neg c18] at H;exact absurd H (by simp)
     rw [if_neg c17] at H;have c17b0:=Qc c17;clear c17;replace H:=Qe H;obtain⟨t103,A510,H⟩:=H;have A51:=am A510;clear A510;obtain rfl:=Qd H;obtain⟨hcz53_0,hcz53_1,hfz53_0,hfz53_1⟩:=cf2 BK102.out;obtain⟨hcz54_0,hcz54_1,hfz54_0,hfz54_1⟩:=cf2 BK101.out;go_wp2_with (first|((with_reducible refine gc_ 238 ?_);refine goesL_ (some 51) rfl rfl Tryz.func238 (by kernel_rfl) rfl #[.slice A1_1 l1_1.length c1_1,.func (.func 239) #[] #[.pointer (some ⟨gb101,0,none⟩)]] rfl (za) ?_;(refine (api_Cond_238.calls k2 _ _ l1_1 _ _ l0_0 _ _ l0_1 t103 _ ?side1 ?side2 ?side3 ?side4 ?side5 ?side6 (zl BK101.out) A51.out).mono ?_);(case side1=>exact zc (Kd.C_below HR1_1.out HB.out));(case side2=>exact HC1_1.out);(case side3=>exact zc (Kd.C_below HR0_0.out HB.out));(case side4=>exact HC0_0.out);(case side5=>exact zc (Kd.C_below HR0_1.out HB.out));(case side6=>exact HC0_1.out);rintro e w55 ⟨rfl,hb⟩;refine⟨_,rfl,?_⟩;replace BK101:=am (zw BK101.out hb);replace BK102:=am (zw BK102.out hb);replace HB:=am (below_step (zb) hb);(try clear hb);(try clear hb2);(try clear hk);(try clear hi)))
     go_ret;exact⟨zf,zb⟩
theorem api_Sentry_210_cl{W:World}{gb k:Nat}{A0 A1:Option Addr}{c0 c1:Nat}{l0:List ByteArray}{l1:List S47}{B0 B1:Option Addr}{d0 d1:Nat}{x:S29}(m0:x.f0.length≤d0)(s0:Kd.C k78 W B0 x.f0.length x.f0)(m1:x.f1.length≤d1)(s1:Kd.C k93 W B1 x.f1.length x.f1)(hbk:W.heap[gb]? = some (.cells #[.slice A0 l0.length c0,.slice A1 l1.length c1] 25 (0,0)))(hr0:Kd.C Kd.string W A0 l0.length l0)(hc0:l0.length≤c0)(hr1:Kd.C k47 W A1 l1.length l1)(hc1:l1.length≤c1)(r:Bool)(h:model_isSentry.f k l0 l1 x.f0 x.f1=some r) :
    Calls Tryz.prog 211 #[.agg #[.slice B0 x.f0.length d0,.slice B1 x.f1.length d1],.pointer (some ⟨gb,0,none⟩)] W fun e w'=>e = .returned (.bool (!r))∧Below W.heap.size W w':=by
  have hu25:=Tryz.underlying25;have hu29:=Tryz.underlying29;have HI:∀ W2,Below W.heap.size W W2→Calls Tryz.prog 212 #[.agg #[.slice A0 l0.length c0,.slice A1 l1.length c1],.agg #[.slice B0 x.f0.length d0,.slice B1 x.f1.length d1]] W2 fun e w'=>e = .returned (.bool r)∧Below W.heap.size W w':=fun W2 hW =>
    (model_isSentry.calls k _ _ l0 _ _ l1 _ _ x.f0 _ _ x.f1 r W2 (Kd.C_below hr0 hW) hc0 (Kd.C_below hr1 hW) hc1 (Kd.C_below s0 hW) m0 (Kd.C_below s1 hW) m1 h).mono (fun _ _ h=>⟨h.1,below_step hW h.2⟩)
  have HII:=am HI;have k0:W.cell? ⟨gb,0,none⟩=some (.slice A0 l0.length c0):=(blk_cell hbk 0).trans rfl;have k1:W.cell? ⟨gb,1,none⟩=some (.slice A1 l1.length c1):=(blk_cell hbk 1).trans rfl;have hlt:=Qk W _ k0;have HB:=am (Below.refl W.heap.size W);clear HI hbk;go_enter Tryz.func211,Tryz.ntmps211;go_wp2_with (first|(go_at_call 212;refine(HII.out _ (zb)).mono ?_;rintro e w7 ⟨rfl,hb⟩))
  go_ret;exact⟨rfl,hb⟩
def api_Sentry_210.f(k:Nat)(xs:List S29)(l0_0:List ByteArray)(l0_1:List S47):Option Bool:=notAll (fun x=>model_isSentry.f k l0_0 l0_1 x.f0 x.f1) xs
theorem api_Sentry_210.mono:∀ a0 a1 a2 k,LeO (api_Sentry_210.f k a0 a1 a2) (api_Sentry_210.f (k+1) a0 a1 a2):=fun a0 a1 a2 k=>notAll_mono (fun x=>model_isSentry.mono _ _ _ _ _)
theorem api_Sentry_210.calls(k:Nat)(A:Option Addr)(c:Nat)(xs:List S29)(A0_0:Option Addr)(c0_0:Nat)(l0_0:List ByteArray)(A0_1:Option Addr)(c0_1:Nat)(l0_1:List S47)(r:Bool)(w:World)(hr:Kd.C k29 w A xs.length xs)(hc:xs.length≤c)(hr0_0:Kd.C Kd.string w A0_0 l0_0.length l0_0)(hc0_0:l0_0.length≤c0_0)(hr0_1:Kd.C k47 w A0_1 l0_1.length l0_1)(hc0_1:l0_1.length≤c0_1){gb:Nat}(hbk:w.heap[gb]? = some (.cells #[.slice A0_0 l0_0.length c0_0,.slice A0_1 l0_1.length c0_1] 25 (0,0)))(h:api_Sentry_210.f k xs l0_0 l0_1=some r) :
  Calls Tryz.prog 210 #[.slice A xs.length c,.func (.func 211) #[] #[.pointer (some ⟨gb,0,none⟩)]] w fun e w'=>e = .returned (.bool r)∧Below w.heap.size w w':=by
 obtain⟨hall,rfl⟩:=notAll_some h;have hbig:=hr.2.1;obtain⟨cs,hk,hK,hcc⟩:=C_cells z29 hr;rw [← range_any z29];refine containsFuncSe A xs.length c 211 #[.pointer (some ⟨gb,0,none⟩)] (enters_ Tryz.func211 rfl rfl) (fun j=>model_isSentry.f k l0_0 l0_1 (xs.getD j z29).f0 (xs.getD j z29).f1 == some false) cs w hbig ?_ hk hcc;intro j hj W hW;obtain⟨r0,hr0⟩:=Option.isSome_iff_exists.1 (hall (xs.getD j z29) (by rw [getD_at hj];exact List.getElem_mem hj));obtain⟨B0,d0,B1,d1,e,m0,s0,m1,s1⟩:=k29_open (hK j hj);rw [e];refine(api_Sentry_210_cl (k:=k) m0 (Kd.C_below s0 hW) m1 (Kd.C_below s1 hW) (blk_below hbk hW) (Kd.C_below hr0_0 hW) hc0_0 (Kd.C_below hr0_1 hW) hc0_1 r0 hr0).mono ?_;rintro e' w' ⟨rfl,h2⟩;refine⟨?_,below_step hW h2⟩;rw [hr0];cases r0 <;> rfl
def model_areSentries.f(k:Nat)(l0_0:List ByteArray)(l0_1:List (S47))(l1:List (S29)):Option (Bool):=if (l1.length:Int)≤3 then ((api_Sentry_210.f k l1 l0_0 l0_1).bind fun t102=>(some (!t102))) else (some false)
theorem model_areSentries.mono:∀ a0 a1 a2 k,LeO (model_areSentries.f k a0 a1 a2) (model_areSentries.f (k+1) a0 a1 a2):=by
  intro a0 a1 a2 k;unfold model_areSentries.f
  repeat' first
      | (with_reducible exact api_Sentry_210.mono _ _ _ _)
      | (with_reducible exact LeO.refl _)
      | (with_reducible exact LeO.none _)
      | (with_reducible refine LeO.ite ?_ ?_)
      | (with_reducible refine LeO.bind ?_ (fun _ => ?_))
      | exact api_Sentry_210.mono _ _ _ _
      | exact LeO.none _
      | refine LeO.ite ?_ ?_
      | refine LeO.bind ?_ (fun _=>?_)
theorem model_areSentries.calls(k:Nat)(A0_0:Option Addr)(c0_0:Nat)(l0_0:List ByteArray)(A0_1:Option Addr)(c0_1:Nat)(l0_1:List (S47))(A1:Option Addr)(c1:Nat)(l1:List (S29))(r:Bool)(w:World)(hr0_0:Kd.C Kd.string w A0_0 l0_0.length l0_0)(hc0_0:l0_0.length≤c0_0)(hr0_1:Kd.C k47 w A0_1 l0_1.length l0_1)(hc0_1:l0_1.length≤c0_1)(hr1:Kd.C k29 w A1 l1.length l1)(hc1:l1.length≤c1)(h:model_areSentries.f k l0_0 l0_1 l1=some r) :
  Calls Tryz.prog 158 #[.agg #[.slice A0_0 l0_0.length c0_0,.slice A0_1 l0_1.length c0_1],.slice A1 l1.length c1] w fun e w'=>e = .returned (.bool r)∧Below w.heap.size w w':=by
 have hu25:=Tryz.underlying25;have HR0_0:=am hr0_0;have HC0_0:=am hc0_0;clear hr0_0 hc0_0;have HR0_1:=am hr0_1;have HC0_1:=am hc0_1;clear hr0_1 hc0_1;have HR1:=am hr1;have HC1:=am hc1;clear hr1 hc1;have HB:=am (Below.refl w.heap.size w);have H:(if (l1.length:Int)≤3 then ((api_Sentry_210.f k l1 l0_0 l0_1).bind fun t102=>(some (!t102))) else (some false))=some r:=h;clear h;by_cases c3:(l1.length:Int)≤3
 ·
  rw [if_pos c3] at H;have c3b0:decide ((l1.length:Int)≤3)=true:=Qb c3;have c3b1:decide (l1.length≤3)=true:=Qb (by omega);clear c3;replace H:=Qe H;obtain⟨t102,A40,H⟩:=H;replace H:(some (!t102))=some r:=H;have A4:=am A40;clear A40;obtain rfl:=Qd H;go_enter Tryz.func158,Tryz.ntmps158;go_wp2_with (first|((with_reducible refine gd_ 2 ?_);refine bx_ 2 #[.slice A0_0 l0_0.length c0_0,.slice A0_1 l0_1.length c0_1] 25 ?_;intro gb101 hg w5 hbox hb;have BK101:=am (hbox);have GW101:=am (zg:w.heap.size≤gb101);have GE101:=am (zg:w.heap.size≤gb101);replace HB:=am (below_step (zb) hb);clear hb hbox hg;obtain⟨hcz6_0,hcz6_1,hfz6_0,hfz6_1⟩:=cf2 BK101.out)|(go_at_call 210;(refine (api_Sentry_210.calls k _ _ l1 _ _ l0_0 _ _ l0_1 t102 _ ?side1 ?side2 ?side3 ?side4 ?side5 ?side6 (zl BK101.out) A4.out).mono ?_);(case side1=>exact zc (Kd.C_below HR1.out HB.out));(case side2=>exact HC1.out);(case side3=>exact zc (Kd.C_below HR0_0.out HB.out));(case side4=>exact HC0_0.out);(case side5=>exact zc (Kd.C_below HR0_1.out HB.out));(case side6=>exact HC0_1.out);rintro e w7 ⟨rfl,hb⟩;replace BK101:=am (zw BK101.out hb);replace HB:=am (below_step (zb) hb);(try clear hb);(try clear hb2);(try clear hk);(try clear hi)))
  go_ret;exact⟨zf,zb⟩
 rw [if_neg c3] at H;have c3b0:decide ((l1.length:Int)≤3)=false:=Qc c3;have c3b1:decide (l1.length≤3)=false:=Qc (by omega);clear c3;obtain rfl:=Qd H;go_enter Tryz.func158,Tryz.ntmps158;go_wp2_with (first|((with_reducible refine gd_ 2 ?_);refine bx_ 2 #[.slice A0_0 l0_0.length c0_0,.slice A0_1 l0_1.length c0_1] 25 ?_;intro gb101 hg w8 hbox hb;have BK101:=am (hbox);have GW101:=am (zg:w.heap.size≤gb101);have GE101:=am (zg:w.heap.size≤gb101);replace HB:=am (below_step (zb) hb);clear hb hbox hg))
 go_ret;exact⟨zf,zb⟩
def model_isItem.j0:Nat→Bool→ByteArray→Int→ByteArray→Bool→Int→List (S29)→List (S29)→Option (Bool)
  | 0, _, _, _, _, _, _, _, _ => none
  | k+1,x29,x103000,x103001,x103002,x103003,x103004,x103005,x103006=>if x29=true then (some false) else (if x103001=5 then (if x103001=4 then (if x103004≥1 then (if x103004≤100 then (if x103003=true then (some (!true)) else (some (!(decide ((x103005.length:Int)>0))))) else (some false)) else (some false)) else (if x103004≥1 then (if x103004≤100 then (if x103003=true then (some (!true)) else (some (!(decide ((x103005.length:Int)>0))))) else (some false)) else (some false))) else (if x103001=4 then (if x103004≥0 then (if x103004≤0 then (if x103003=true then (some (!true)) else (some (!(decide ((x103005.length:Int)>0))))) else (some false)) else (some false)) else (if x103004≥0 then (if x103004≤0 then (some (!false)) else (some false)) else (some false))))
def model_isItem.f(k:Nat)(l0_0:List ByteArray)(l0_1:List (S47))(a1_0:ByteArray)(a1_1:Int)(a1_2:ByteArray)(a1_3:Bool)(a1_4:Int)(l1_5:List (S29))(l1_6:List (S29)):Option (Bool):=if a1_1<1 then (model_isItem.j0 k true a1_0 a1_1 a1_2 a1_3 a1_4 l1_5 l1_6) else (if a1_1>5 then (model_isItem.j0 k true a1_0 a1_1 a1_2 a1_3 a1_4 l1_5 l1_6) else ((model_areSentries.f k l0_0 l0_1 l1_5).bind fun t103=>(if t103=true then ((model_areSentries.f k l0_0 l0_1 l1_6).bind fun t104=>(model_isItem.j0 k (!t104) a1_0 a1_1 a1_2 a1_3 a1_4 l1_5 l1_6)) else (model_isItem.j0 k true a1_0 a1_1 a1_2 a1_3 a1_4 l1_5 l1_6))))
theorem model_isItem.mono_l:∀ k,(∀ y0 y1 y2 y3 y4 y5 y6 y7,LeO (model_isItem.j0 k y0 y1 y2 y3 y4 y5 y6 y7) (model_isItem.j0 (k+1) y0 y1 y2 y3 y4 y5 y6 y7))
  | 0 => fun _ _ _ _ _ _ _ _ r h => by simp [model_isItem.j0] at h
  | k + 1 => by
    have ih0:=model_isItem.mono_l k;intro y0 y1 y2 y3 y4 y5 y6 y7;unfold model_isItem.j0
    repeat' first
    | (with_reducible exact ih0 _ _ _ _ _ _ _ _)
    | (with_reducible exact model_areSentries.mono _ _ _ _)
    | (with_reducible exact LeO.refl _)
    | (with_reducible exact LeO.none _)
    | (with_reducible refine LeO.ite ?_ ?_)
    | (with_reducible refine LeO.bind ?_ (fun _ => ?_))
    | exact ih0 _ _ _ _ _ _ _ _
    | exact model_areSentries.mono _ _ _ _
    | exact LeO.none _
    | refine LeO.ite ?_ ?_
    | refine LeO.bind ?_ (fun _=>?_)
theorem model_isItem.mono:∀ a0 a1 a2 a3 a4 a5 a6 a7 a8 k,LeO (model_isItem.f k a0 a1 a2 a3 a4 a5 a6 a7 a8) (model_isItem.f (k+1) a0 a1 a2 a3 a4 a5 a6 a7 a8):=by
  intro a0 a1 a2 a3 a4 a5 a6 a7 a8 k;have ih0:=model_isItem.mono_l k;unfold model_isItem.f
  repeat' first
      | (with_reducible exact ih0 _ _ _ _ _ _ _ _)
      | (with_reducible exact model_areSentries.mono _ _ _ _)
      | (with_reducible exact LeO.refl _)
      | (with_reducible exact LeO.none _)
      | (with_reducible refine LeO.ite ?_ ?_)
      | (with_reducible refine LeO.bind ?_ (fun _ => ?_))
      | exact ih0 _ _ _ _ _ _ _ _
      | exact model_areSentries.mono _ _ _ _
      | exact LeO.none _
      | refine LeO.ite ?_ ?_
      | refine LeO.bind ?_ (fun _=>?_)
theorem model_isItem.calls(k : Nat)(A0_0 : Option Addr)(c0_0 : Nat)(l0_0 : List ByteArray)(A0_1 : Option Addr)(c0_1 : Nat)(l0_1 : List (S47))(a1_0 : ByteArray)(a1_1 : Int)(a1_2 : ByteArray)(a1_3 : Bool)(a1_4 : Int)(A1_5 : Option Addr)(c1_5 : Nat)(l1_5 : List (S29))(A1_6 : Option Addr)(c1_6 : Nat)(l1_6 : List (S29))(r : Bool)(w : World)(hr0_0 : Kd.C Kd.string w A0_0 l0_0.length l0_0)(hc0_0 : l0_0.length ≤ c0_0)(hr0_1 : Kd.C k47 w A0_1 l0_1.length l0_1)(hc0_1 : l0_1.length ≤ c0_1)(hr1_5 : Kd.C k29 w A1_5 l1_5.length l1_5)(hc1_5 : l1_5.length ≤ c1_5)(hr1_6 : Kd.C k29 w A1_6 l1_6.length l1_6)(hc1_6 : l1_6.length ≤ c1_6)(h : model_isItem.f k l0_0 l0_1 a1_0 a1_1 a1_2 a1_3 a1_4 l1_5 l1_6 = some r) :
  Calls Tryz.prog 112 #[.agg #[.slice A0_0 l0_0.length c0_0,.slice A0_1 l0_1.length c0_1],.agg #[.string a1_0,.int .i64 a1_1,.string a1_2,.bool a1_3,.int .i64 a1_4,.slice A1_5 l1_5.length c1_5,.slice A1_6 l1_6.length c1_6]] w fun e w'=>e = .returned (.bool r)∧Below w.heap.size w w':=by
 have hu25:=Tryz.underlying25;have hu47:=Tryz.underlying47;have HR0_0:=am hr0_0;have HC0_0:=am hc0_0;clear hr0_0 hc0_0;have HR0_1:=am hr0_1;have HC0_1:=am hc0_1;clear hr0_1 hc0_1;have HR1_5:=am hr1_5;have HC1_5:=am hc1_5;clear hr1_5 hc1_5;have HR1_6:=am hr1_6;have HC1_6:=am hc1_6;clear hr1_6 hc1_6;have HB:=am (Below.refl w.heap.size w);have H:(if a1_1<1 then (model_isItem.j0 k true a1_0 a1_1 a1_2 a1_3 a1_4 l1_5 l1_6) else (if a1_1>5 then (model_isItem.j0 k true a1_0 a1_1 a1_2 a1_3 a1_4 l1_5 l1_6) else ((model_areSentries.f k l0_0 l0_1 l1_5).bind fun t103=>(if t103=true then ((model_areSentries.f k l0_0 l0_1 l1_6).bind fun t104=>(model_isItem.j0 k (!t104) a1_0 a1_1 a1_2 a1_3 a1_4 l1_5 l1_6)) else (model_isItem.j0 k true a1_0 a1_1 a1_2 a1_3 a1_4 l1_5 l1_6)))))=some r:=h;clear h;have HC3:=am H;clear H;go_enter Tryz.func112,Tryz.ntmps112;go_upto_region 1 with (first|((with_reducible refine gd_ 2 ?_);(try (refine gate_guard (by rfl) ?_;dsimp only));refine bx_ 2 #[.slice A0_0 l0_0.length c0_0,.slice A0_1 l0_1.length c0_1] 25 ?_;intro gb101 hg w4 hbox hb;have BK101:=am (hbox);have GE101:=am (zg:w.heap.size≤gb101);replace HB:=am (below_step (zb) hb);clear hb hbox hg)|((with_reducible refine gd_ 3 ?_);(try (refine gate_guard (by rfl) ?_;dsimp only));refine bx_ 3 #[.string a1_0,.int .i64 a1_1,.string a1_2,.bool a1_3,.int .i64 a1_4,.slice A1_5 l1_5.length c1_5,.slice A1_6 l1_6.length c1_6] 47 ?_;intro gb102 hg w5 hbox hb;have BK102:=am (hbox);have GE102:=am (zg:w.heap.size≤gb102);replace HB:=am (below_step (zb) hb);replace BK101:=am (zw BK101.out hb);clear hb hbox hg))
 (try simp only [Act.put,List.setIfInBounds_toArray,List.set_cons_zero,List.set_cons_succ])
 go_cut [29] (fun v29 wc => ∃ (kq:Nat) (x29_2:Bool),v29 = .bool x29_2∧Aside0 (model_isItem.j0 kq x29_2 a1_0 a1_1 a1_2 a1_3 a1_4 l1_5 l1_6=some r)∧Aside0 (kq≤k)∧Aside0 (wc.heap[gb101]? = some (.cells #[(.slice A0_0 l0_0.length c0_0),(.slice A0_1 l0_1.length c0_1)] 25 (0,0)))∧Aside0 (wc.heap[gb102]? = some (.cells #[.string a1_0,.int .i64 a1_1,.string a1_2,.bool a1_3,.int .i64 a1_4,(.slice A1_5 l1_5.length c1_5),(.slice A1_6 l1_6.length c1_6)] 47 (0,0)))∧Aside0 (Below w.heap.size w wc))
 case first =>
  have H:=HC3.out;clear HC3;by_cases c6:a1_1<1
  ·
   rw [if_pos c6] at H;have c6b0:=Qb c6;clear c6
   (first|rw [c6b0] | (simp only [i64_w,i32_w];rw [c6b0])|skip)
   have H':=am H;clear H;obtain⟨hcz8_0,hcz8_1,hcz8_2,hcz8_3,hcz8_4,hcz8_5,hcz8_6⟩:=cs7 BK102.out;go_wp2;go_meet
   case rel=>exact ⟨_,(true),(ze),H',⟨by first|omega|exact Nat.le_refl _⟩,⟨zl BK101.out⟩,⟨zl BK102.out⟩,⟨zb⟩⟩
  rw [if_neg c6] at H;have c6b0:=Qc c6;clear c6
  (first|rw [c6b0] | (simp only [i64_w,i32_w];rw [c6b0])|skip)
  by_cases c9:a1_1>5
  ·
   rw [if_pos c9] at H;have c9b0:decide (5<a1_1)=true:=Qb c9;clear c9;have H':=am H;clear H;obtain⟨hcz11_0,hcz11_1,hcz11_2,hcz11_3,hcz11_4,hcz11_5,hcz11_6⟩:=cs7 BK102.out;go_wp2;go_meet
   case rel=>exact ⟨_,(true),(ze),H',⟨by first|omega|exact Nat.le_refl _⟩,⟨zl BK101.out⟩,⟨zl BK102.out⟩,⟨zb⟩⟩
  rw [if_neg c9] at H;have c9b0:decide (5<a1_1)=false:=Qc c9;clear c9;replace H:=Qe H;obtain⟨t103,A120,H⟩:=H;have A12:=am A120;clear A120;by_cases c13:t103=true
  ·
   subst c13;have H1:((model_areSentries.f k l0_0 l0_1 l1_6).bind fun t104=>(model_isItem.j0 k (!t104) a1_0 a1_1 a1_2 a1_3 a1_4 l1_5 l1_6))=some r:=by rw [if_pos rfl] at H;exact H
   clear H;have H:=H1;clear H1;replace H:=Qe H;obtain⟨t104,A140,H⟩:=H;have A14:=am A140;clear A140;have H':=am H;clear H;obtain⟨hcz16_0,hcz16_1,hcz16_2,hcz16_3,hcz16_4,hcz16_5,hcz16_6⟩:=cs7 BK102.out;obtain⟨hcz17_0,hcz17_1⟩:=cs2 BK101.out;go_wp2_with (first|(go_at_call 158;(with_reducible refine (model_areSentries.calls k _ _ l0_0 _ _ l0_1 _ _ l1_5 true _ ?side1 ?side2 ?side3 ?side4 ?side5 ?side6 A12.out).mono ?_);(case side1=>exact zc (Kd.C_below HR0_0.out HB.out));(case side2=>exact HC0_0.out);(case side3=>exact zc (Kd.C_below HR0_1.out HB.out));(case side4=>exact HC0_1.out);(case side5=>exact zc (Kd.C_below HR1_5.out HB.out));(case side6=>exact HC1_5.out);rintro e w18 ⟨rfl,hb⟩;replace BK101:=am (zw BK101.out hb);replace BK102:=am (zw BK102.out hb);replace HB:=am (below_step (zb) hb);(try clear hb);(try clear hb2);(try clear hk);(try clear hi);obtain⟨hcz19_0,hcz19_1⟩:=cs2 BK101.out;obtain⟨hcz20_0,hcz20_1,hcz20_2,hcz20_3,hcz20_4,hcz20_5,hcz20_6⟩:=cs7 BK102.out)|(go_at_call 158;(with_reducible refine (model_areSentries.calls k _ _ l0_0 _ _ l0_1 _ _ l1_6 t104 _ ?side1 ?side2 ?side3 ?side4 ?side5 ?side6 A14.out).mono ?_);(case side1=>exact zc (Kd.C_below HR0_0.out HB.out));(case side2=>exact HC0_0.out);(case side3=>exact zc (Kd.C_below HR0_1.out HB.out));(case side4=>exact HC0_1.out);(case side5=>exact zc (Kd.C_below HR1_6.out HB.out));(case side6=>exact HC1_6.out);rintro e w21 ⟨rfl,hb⟩;replace BK101:=am (zw BK101.out hb);replace BK102:=am (zw BK102.out hb);replace HB:=am (below_step (zb) hb);(try clear hb);(try clear hb2);(try clear hk);(try clear hi)))
   go_meet
   case rel=>exact ⟨_,(!t104),(ze),H',⟨by first|omega|exact Nat.le_refl _⟩,⟨zl BK101.out⟩,⟨zl BK102.out⟩,⟨zb⟩⟩
  replace c13:=Qj c13;subst c13;have H1:(model_isItem.j0 k true a1_0 a1_1 a1_2 a1_3 a1_4 l1_5 l1_6)=some r:=by rw [if_neg (show ¬ (false=true) by decide)] at H;exact H
  clear H;have H:=H1;clear H1;have H':=am H;clear H;obtain⟨hcz23_0,hcz23_1,hcz23_2,hcz23_3,hcz23_4,hcz23_5,hcz23_6⟩:=cs7 BK102.out;obtain⟨hcz24_0,hcz24_1⟩:=cs2 BK101.out;go_wp2_with (first|(go_at_call 158;(with_reducible refine (model_areSentries.calls k _ _ l0_0 _ _ l0_1 _ _ l1_5 false _ ?side1 ?side2 ?side3 ?side4 ?side5 ?side6 A12.out).mono ?_);(case side1=>exact zc (Kd.C_below HR0_0.out HB.out));(case side2=>exact HC0_0.out);(case side3=>exact zc (Kd.C_below HR0_1.out HB.out));(case side4=>exact HC0_1.out);(case side5=>exact zc (Kd.C_below HR1_5.out HB.out));(case side6=>exact HC1_5.out);rintro e w25 ⟨rfl,hb⟩;replace BK101:=am (zw BK101.out hb);replace BK102:=am (zw BK102.out hb);replace HB:=am (below_step (zb) hb);(try clear hb);(try clear hb2);(try clear hk);(try clear hi)))
  go_meet
  case rel=>exact ⟨_,(true),(ze),H',⟨by first|omega|exact Nat.le_refl _⟩,⟨zl BK101.out⟩,⟨zl BK102.out⟩,⟨zb⟩⟩
 case rest =>
  clear HC3;obtain⟨kq,x29_2,rfl,HA,HJ2,BK101,BK102,HB⟩:=hcut
  cases kq with
  | zero => exact absurd HA.out (by simp [model_isItem.j0])
  | succ kj2 =>
   have H:=HA.out;clear HA;simp only [model_isItem.j0] at H;by_cases c26:x29_2=true
   ·
    subst c26;have H1:(some false)=some r:=by rw [if_pos rfl] at H;exact H
    clear H;have H:=H1;clear H1;obtain rfl:=Qd H;go_wp2;go_ret;exact⟨zf,zb⟩
   replace c26:=Qj c26;subst c26;have H1:(if a1_1=5 then (if a1_1=4 then (if a1_4≥1 then (if a1_4≤100 then (if a1_3=true then (some (!true)) else (some (!(decide ((l1_5.length:Int)>0))))) else (some false)) else (some false)) else (if a1_4≥1 then (if a1_4≤100 then (if a1_3=true then (some (!true)) else (some (!(decide ((l1_5.length:Int)>0))))) else (some false)) else (some false))) else (if a1_1=4 then (if a1_4≥0 then (if a1_4≤0 then (if a1_3=true then (some (!true)) else (some (!(decide ((l1_5.length:Int)>0))))) else (some false)) else (some false)) else (if a1_4≥0 then (if a1_4≤0 then (some (!false)) else (some false)) else (some false))))=some r:=by rw [if_neg (show ¬ (false=true) by decide)] at H;exact H
   clear H;have H:=H1;clear H1;by_cases c27:a1_1=5
   ·
    rw [if_pos c27] at H;have c27b0:=Qh c27;have c27b1:=Qf c27;clear c27;by_cases c28:a1_1=4
    ·
     rw [if_pos c28] at H;have c28b0:=Qh c28;have c28b1:=Qf c28;clear c28;by_cases c29:a1_4≥1
     ·
      rw [if_pos c29] at H;have c29b0:decide (1≤a1_4)=true:=Qb c29;clear c29;by_cases c30:a1_4≤100
      ·
       rw [if_pos c30] at H;have c30b0:=Qb c30;clear c30;by_cases c31:a1_3=true
       ·
        subst c31;have H1:(some (!true))=some r:=by rw [if_pos rfl] at H;exact H
        clear H;have H:=H1;clear H1;obtain rfl:=Qd H;obtain⟨hcz33_0,hcz33_1,hcz33_2,hcz33_3,hcz33_4,hcz33_5,hcz33_6⟩:=cs7 BK102.out;go_wp2;go_ret;exact⟨zf,zb⟩
       replace c31:=Qj c31;subst c31;have H1:(some (!(decide ((l1_5.length:Int)>0))))=some r:=by rw [if_neg (show ¬ (false=true) by decide)] at H;exact H
       clear H;have H:=H1;clear H1;obtain rfl:=Qd H;obtain⟨hcz35_0,hcz35_1,hcz35_2,hcz35_3,hcz35_4,hcz35_5,hcz35_6⟩:=cs7 BK102.out;go_wp2;go_ret;exact⟨zf,zb⟩
      rw [if_neg c30] at H;have c30b0:=Qc c30;clear c30;obtain rfl:=Qd H;obtain⟨hcz37_0,hcz37_1,hcz37_2,hcz37_3,hcz37_4,hcz37_5,hcz37_6⟩:=cs7 BK102.out;go_wp2;go_ret;exact⟨zf,zb⟩
     rw [if_neg c29] at H;have c29b0:decide (1≤a1_4)=false:=Qc c29;clear c29;obtain rfl:=Qd H;obtain⟨hcz39_0,hcz39_1,hcz39_2,hcz39_3,hcz39_4,hcz39_5,hcz39_6⟩:=cs7 BK102.out;go_wp2;go_ret;exact⟨zf,zb⟩
    rw [if_neg c28] at H;have c28b0:=Qg c28;have c28b1:=Qi c28;by_cases c40:a1_4≥1
    ·
     rw [if_pos c40] at H;have c40b0:decide (1≤a1_4)=true:=Qb c40;clear c40;by_cases c41:a1_4≤100
     ·
      rw [if_pos c41] at H;have c41b0:=Qb c41;clear c41;by_cases c42:a1_3=true
      ·
       subst c42;have H1:(some (!true))=some r:=by rw [if_pos rfl] at H;exact H
       clear H;have H:=H1;clear H1;obtain rfl:=Qd H;obtain⟨hcz44_0,hcz44_1,hcz44_2,hcz44_3,hcz44_4,hcz44_5,hcz44_6⟩:=cs7 BK102.out;go_wp2;go_ret;exact⟨zf,zb⟩
      replace c42:=Qj c42;subst c42;have H1:(some (!(decide ((l1_5.length:Int)>0))))=some r:=by rw [if_neg (show ¬ (false=true) by decide)] at H;exact H
      clear H;have H:=H1;clear H1;obtain rfl:=Qd H;obtain⟨hcz46_0,hcz46_1,hcz46_2,hcz46_3,hcz46_4,hcz46_5,hcz46_6⟩:=cs7 BK102.out;go_wp2;go_ret;exact⟨zf,zb⟩
     rw [if_neg c41] at H;have c41b0:=Qc c41;clear c41;obtain rfl:=Qd H;obtain⟨hcz48_0,hcz48_1,hcz48_2,hcz48_3,hcz48_4,hcz48_5,hcz48_6⟩:=cs7 BK102.out;go_wp2;go_ret;exact⟨zf,zb⟩
    rw [if_neg c40] at H;have c40b0:decide (1≤a1_4)=false:=Qc c40;clear c40;obtain rfl:=Qd H;obtain⟨hcz50_0,hcz50_1,hcz50_2,hcz50_3,hcz50_4,hcz50_5,hcz50_6⟩:=cs7 BK102.out;go_wp2;go_ret;exact⟨zf,zb⟩
   rw [if_neg c27] at H;have c27b0:=Qg c27;have c27b1:=Qi c27;by_cases c51:a1_1=4
   ·
    rw [if_pos c51] at H;have c51b0:=Qh c51;have c51b1:=Qf c51;clear c51;by_cases c52:a1_4≥0
    ·
     rw [if_pos c52] at H;have c52b0:decide (0≤a1_4)=true:=Qb c52;clear c52;by_cases c53:a1_4≤0
     ·
      rw [if_pos c53] at H;have c53b0:=Qb c53;clear c53;by_cases c54:a1_3=true
      ·
       subst c54;have H1:(some (!true))=some r:=by rw [if_pos rfl] at H;exact H
       clear H;have H:=H1;clear H1;obtain rfl:=Qd H;obtain⟨hcz56_0,hcz56_1,hcz56_2,hcz56_3,hcz56_4,hcz56_5,hcz56_6⟩:=cs7 BK102.out;go_wp2;go_ret;exact⟨zf,zb⟩
      replace c54:=Qj c54;subst c54;have H1:(some (!(decide ((l1_5.length:Int)>0))))=some r:=by rw [if_neg (show ¬ (false=true) by decide)] at H;exact H
      clear H;have H:=H1;clear H1;obtain rfl:=Qd H;obtain⟨hcz58_0,hcz58_1,hcz58_2,hcz58_3,hcz58_4,hcz58_5,hcz58_6⟩:=cs7 BK102.out;go_wp2;go_ret;exact⟨zf,zb⟩
     rw [if_neg c53] at H;have c53b0:=Qc c53;clear c53;obtain rfl:=Qd H;obtain⟨hcz60_0,hcz60_1,hcz60_2,hcz60_3,hcz60_4,hcz60_5,hcz60_6⟩:=cs7 BK102.out;go_wp2;go_ret;exact⟨zf,zb⟩
    rw [if_neg c52] at H;have c52b0:decide (0≤a1_4)=false:=Qc c52;clear c52;obtain rfl:=Qd H;obtain⟨hcz62_0,hcz62_1,hcz62_2,hcz62_3,hcz62_4,hcz62_5,hcz62_6⟩:=cs7 BK102.out;go_wp2;go_ret;exact⟨zf,zb⟩
   rw [if_neg c51] at H;have c51b0:=Qg c51;have c51b1:=Qi c51;by_cases c63:a1_4≥0
   ·
    rw [if_pos c63] at H;have c63b0:decide (0≤a1_4)=true:=Qb c63;clear c63;by_cases c64:a1_4≤0
    ·
     rw [if_pos c64] at H;have c64b0:=Qb c64;clear c64;obtain rfl:=Qd H;obtain⟨hcz66_0,hcz66_1,hcz66_2,hcz66_3,hcz66_4,hcz66_5,hcz66_6⟩:=cs7 BK102.out;go_wp2;go_ret;exact⟨zf,zb⟩
    rw [if_neg c64] at H;have c64b0:=Qc c64;clear c64;obtain rfl:=Qd H;obtain⟨hcz68_0,hcz68_1,hcz68_2,hcz68_3,hcz68_4,hcz68_5,hcz68_6⟩:=cs7 BK102.out;go_wp2;go_ret;exact⟨zf,zb⟩
   rw [if_neg c63] at H;have c63b0:decide (0≤a1_4)=false:=Qc c63;clear c63;obtain rfl:=Qd H;obtain⟨hcz70_0,hcz70_1,hcz70_2,hcz70_3,hcz70_4,hcz70_5,hcz70_6⟩:=cs7 BK102.out;go_wp2;go_ret;exact⟨zf,zb⟩
theorem api_Item_110_cl{W:World}{gb k:Nat}{A0 A1:Option Addr}{c0 c1:Nat}{l0:List ByteArray}{l1:List S47}{B0 B1:Option Addr}{d0 d1:Nat}{x:S47}(m0:x.f5.length≤d0)(s0:Kd.C k29 W B0 x.f5.length x.f5)(m1:x.f6.length≤d1)(s1:Kd.C k29 W B1 x.f6.length x.f6)(hbk:W.heap[gb]? = some (.cells #[.slice A0 l0.length c0,.slice A1 l1.length c1] 25 (0,0)))(hr0:Kd.C Kd.string W A0 l0.length l0)(hc0:l0.length≤c0)(hr1:Kd.C k47 W A1 l1.length l1)(hc1:l1.length≤c1)(r:Bool)(h:model_isItem.f k l0 l1 x.f0 x.f1 x.f2 x.f3 x.f4 x.f5 x.f6=some r) :
    Calls Tryz.prog 111 #[.agg #[.string x.f0,.int .i64 x.f1,.string x.f2,.bool x.f3,.int .i64 x.f4,.slice B0 x.f5.length d0,.slice B1 x.f6.length d1],.pointer (some ⟨gb,0,none⟩)] W fun e w'=>e = .returned (.bool (!r))∧Below W.heap.size W w':=by
  have hu25:=Tryz.underlying25;have hu47:=Tryz.underlying47;have HI:∀ W2,Below W.heap.size W W2→Calls Tryz.prog 112 #[.agg #[.slice A0 l0.length c0,.slice A1 l1.length c1],.agg #[.string x.f0,.int .i64 x.f1,.string x.f2,.bool x.f3,.int .i64 x.f4,.slice B0 x.f5.length d0,.slice B1 x.f6.length d1]] W2 fun e w'=>e = .returned (.bool r)∧Below W.heap.size W w':=fun W2 hW =>
    (model_isItem.calls k _ _ l0 _ _ l1 x.f0 x.f1 x.f2 x.f3 x.f4 _ _ x.f5 _ _ x.f6 r W2 (Kd.C_below hr0 hW) hc0 (Kd.C_below hr1 hW) hc1 (Kd.C_below s0 hW) m0 (Kd.C_below s1 hW) m1 h).mono (fun _ _ h=>⟨h.1,below_step hW h.2⟩)
  have HII:=am HI;have k0:W.cell? ⟨gb,0,none⟩=some (.slice A0 l0.length c0):=(blk_cell hbk 0).trans rfl;have k1:W.cell? ⟨gb,1,none⟩=some (.slice A1 l1.length c1):=(blk_cell hbk 1).trans rfl;have hlt:=Qk W _ k0;have HB:=am (Below.refl W.heap.size W);clear HI hbk;go_enter Tryz.func111,Tryz.ntmps111;go_wp2_with (first|(go_at_call 112;refine(HII.out _ (zb)).mono ?_;rintro e w7 ⟨rfl,hb⟩))
  go_ret;exact⟨rfl,hb⟩
def api_Item_110.f(k:Nat)(xs:List S47)(l0_0:List ByteArray)(l0_1:List S47):Option Bool:=notAll (fun x=>model_isItem.f k l0_0 l0_1 x.f0 x.f1 x.f2 x.f3 x.f4 x.f5 x.f6) xs
theorem api_Item_110.mono:∀ a0 a1 a2 k,LeO (api_Item_110.f k a0 a1 a2) (api_Item_110.f (k+1) a0 a1 a2):=fun a0 a1 a2 k=>notAll_mono (fun x=>model_isItem.mono _ _ _ _ _ _ _ _ _ _)
theorem api_Item_110.calls(k:Nat)(A:Option Addr)(c:Nat)(xs:List S47)(A0_0:Option Addr)(c0_0:Nat)(l0_0:List ByteArray)(A0_1:Option Addr)(c0_1:Nat)(l0_1:List S47)(r:Bool)(w:World)(hr:Kd.C k47 w A xs.length xs)(hc:xs.length≤c)(hr0_0:Kd.C Kd.string w A0_0 l0_0.length l0_0)(hc0_0:l0_0.length≤c0_0)(hr0_1:Kd.C k47 w A0_1 l0_1.length l0_1)(hc0_1:l0_1.length≤c0_1){gb:Nat}(hbk:w.heap[gb]? = some (.cells #[.slice A0_0 l0_0.length c0_0,.slice A0_1 l0_1.length c0_1] 25 (0,0)))(h:api_Item_110.f k xs l0_0 l0_1=some r) :
  Calls Tryz.prog 110 #[.slice A xs.length c,.func (.func 111) #[] #[.pointer (some ⟨gb,0,none⟩)]] w fun e w'=>e = .returned (.bool r)∧Below w.heap.size w w':=by
 obtain⟨hall,rfl⟩:=notAll_some h;have hbig:=hr.2.1;obtain⟨cs,hk,hK,hcc⟩:=C_cells z47 hr;rw [← range_any z47];refine containsFuncItem A xs.length c 111 #[.pointer (some ⟨gb,0,none⟩)] (enters_ Tryz.func111 rfl rfl) (fun j=>model_isItem.f k l0_0 l0_1 (xs.getD j z47).f0 (xs.getD j z47).f1 (xs.getD j z47).f2 (xs.getD j z47).f3 (xs.getD j z47).f4 (xs.getD j z47).f5 (xs.getD j z47).f6 == some false) cs w hbig ?_ hk hcc;intro j hj W hW;obtain⟨r0,hr0⟩:=Option.isSome_iff_exists.1 (hall (xs.getD j z47) (by rw [getD_at hj];exact List.getElem_mem hj));obtain⟨B0,d0,B1,d1,e,m0,s0,m1,s1⟩:=k47_open (hK j hj);rw [e];refine(api_Item_110_cl (k:=k) m0 (Kd.C_below s0 hW) m1 (Kd.C_below s1 hW) (blk_below hbk hW) (Kd.C_below hr0_0 hW) hc0_0 (Kd.C_below hr0_1 hW) hc0_1 r0 hr0).mono ?_;rintro e' w' ⟨rfl,h2⟩;refine⟨?_,below_step hW h2⟩;rw [hr0];cases r0 <;> rfl
def model_Is.j0:Nat→Bool→List ByteArray→List (S47)→Option (Bool)
  | 0, _, _, _ => none
  | k+1,x30,x102000,x102001=>if x30=true then (some false) else (if 0<(x102001.length:Int) then ((model_isPlan.f ((rd_T47 x102001 0).f0) ((rd_T47 x102001 0).f1) ((rd_T47 x102001 0).f2) ((rd_T47 x102001 0).f3) ((rd_T47 x102001 0).f4) ((rd_T47 x102001 0).f5) ((rd_T47 x102001 0).f6)).bind fun t108=>(if t108=true then ((model_stands.f k x102000 x102001).bind fun t109=>(if t109=true then ((api_Item_110.f k x102001 x102000 x102001).bind fun t110=>(some (!t110))) else (some false))) else (some false))) else (none))
def model_Is.f(k:Nat)(l0_0:List ByteArray)(l0_1:List (S47)):Option (Bool):=if (l0_0.length:Int)>6 then (model_Is.j0 k true l0_0 l0_1) else (if (l0_1.length:Int)<1 then (model_Is.j0 k true l0_0 l0_1) else (if (l0_1.length:Int)>16 then (model_Is.j0 k true l0_0 l0_1) else ((model_areNames.f k l0_0).bind fun t102=>(if t102=true then ((model_ids.f k l0_0 l0_1).bind fun t103=>((model_areNames.f k t103).bind fun t106=>(model_Is.j0 k (!t106) l0_0 l0_1))) else (model_Is.j0 k true l0_0 l0_1)))))
theorem model_Is.mono_l:∀ k,(∀ y0 y1 y2,LeO (model_Is.j0 k y0 y1 y2) (model_Is.j0 (k+1) y0 y1 y2))
  | 0 => fun _ _ _ r h => by simp [model_Is.j0] at h
  | k + 1 => by
    have ih0:=model_Is.mono_l k;intro y0 y1 y2;unfold model_Is.j0
    repeat' first
    | (with_reducible exact ih0 _ _ _)
    | (with_reducible exact api_Item_110.mono _ _ _ _)
    | (with_reducible exact model_areNames.mono _ _)
    | (with_reducible exact model_ids.mono _ _ _)
    | (with_reducible exact model_stands.mono _ _ _)
    | (with_reducible exact LeO.refl _)
    | (with_reducible exact LeO.none _)
    | (with_reducible refine LeO.ite ?_ ?_)
    | (with_reducible refine LeO.bind ?_ (fun _ => ?_))
    | exact ih0 _ _ _
    | exact api_Item_110.mono _ _ _ _
    | exact model_areNames.mono _ _
    | exact model_ids.mono _ _ _
    | exact model_stands.mono _ _ _
    | exact LeO.none _
    | refine LeO.ite ?_ ?_
    | refine LeO.bind ?_ (fun _=>?_)
theorem model_Is.mono:∀ a0 a1 k,LeO (model_Is.f k a0 a1) (model_Is.f (k+1) a0 a1):=by
  intro a0 a1 k;have ih0:=model_Is.mono_l k;unfold model_Is.f
  repeat' first
      | (with_reducible exact ih0 _ _ _)
      | (with_reducible exact api_Item_110.mono _ _ _ _)
      | (with_reducible exact model_areNames.mono _ _)
      | (with_reducible exact model_ids.mono _ _ _)
      | (with_reducible exact model_stands.mono _ _ _)
      | (with_reducible exact LeO.refl _)
      | (with_reducible exact LeO.none _)
      | (with_reducible refine LeO.ite ?_ ?_)
      | (with_reducible refine LeO.bind ?_ (fun _ => ?_))
      | exact ih0 _ _ _
      | exact api_Item_110.mono _ _ _ _
      | exact model_areNames.mono _ _
      | exact model_ids.mono _ _ _
      | exact model_stands.mono _ _ _
      | exact LeO.none _
      | refine LeO.ite ?_ ?_
      | refine LeO.bind ?_ (fun _=>?_)
theorem model_Is.e0{p:Prop}(h:p:=by
  have pz1:0≤(0:Int):=(by omega);have qz1:0<(l0_1.length:Int):=Qo;obtain⟨adz1,A_z1,c_z1,A_z2,c_z2,ez1,hx_z1,hx_z2,hx_z3,hx_z4,hx_z5,hx_z6,hx_z7,hl_z1,hi_z1,hl_z2,hi_z2⟩:=at_T47 HR_z2.out 0 pz1 qz1;cases ez1;have qi107:(0<l0_1.length)=True:=eq_true (by omega)
  (try rw [show ((0:Int)).toNat=0 from rfl] at hx_z1)
  (try rw [show 0 * 7=0 from rfl] at hx_z1)
  (try rw [Addr.add_zero'] at hx_z1)
  (try rw [show ((0:Int)).toNat=0 from rfl] at hx_z2)
  (try rw [show 0 * 7=0 from rfl] at hx_z2)
  (try rw [Addr.add_zero'] at hx_z2)
  (try rw [show ((0:Int)).toNat=0 from rfl] at hx_z3)
  (try rw [show 0 * 7=0 from rfl] at hx_z3)
  (try rw [Addr.add_zero'] at hx_z3)
  (try rw [show ((0:Int)).toNat=0 from rfl] at hx_z4)
  (try rw [show 0 * 7=0 from rfl] at hx_z4)
  (try rw [Addr.add_zero'] at hx_z4)
  (try rw [show ((0:Int)).toNat=0 from rfl] at hx_z5)
  (try rw [show 0 * 7=0 from rfl] at hx_z5)
  (try rw [Addr.add_zero'] at hx_z5)
  (try rw [show ((0:Int)).toNat=0 from rfl] at hx_z6)
  (try rw [show 0 * 7=0 from rfl] at hx_z6)
  (try rw [Addr.add_zero'] at hx_z6)
  (try rw [show ((0:Int)).toNat=0 from rfl] at hx_z7)
  (try rw [show 0 * 7=0 from rfl] at hx_z7)
  (try rw [Addr.add_zero'] at hx_z7)
  replace hx_z1:=ba HB hx_z1;replace hx_z2:=ba HB hx_z2;replace hx_z3:=ba HB hx_z3;replace hx_z4:=ba HB hx_z4;replace hx_z5:=ba HB hx_z5;replace hx_z6:=ba HB hx_z6;replace hx_z7:=ba HB hx_z7;have HR_z3:=am hi_z1;have HC_z3:=am hl_z1;clear hi_z1 hl_z1;have HR_z4:=am hi_z2;have HC_z4:=am hl_z2;clear hi_z2 hl_z2;replace pz1:=eq_true pz1;replace qz1:=eq_true qz1;go_wp2_with (first|((with_reducible refine gc_ 108 ?_);refine goesL_ (some 35) rfl rfl Tryz.func108 (by kernel_rfl) rfl #[.agg #[.string ((rd_T47 l0_1 0).f0),.int .i64 ((rd_T47 l0_1 0).f1),.string ((rd_T47 l0_1 0).f2),.bool ((rd_T47 l0_1 0).f3),.int .i64 ((rd_T47 l0_1 0).f4),.slice A_z1 ((rd_T47 l0_1 0).f5).length c_z1,.slice A_z2 ((rd_T47 l0_1 0).f6).length c_z2]] rfl (za) ?_;(with_reducible refine (model_isPlan.calls ((rd_T47 l0_1 0).f0) ((rd_T47 l0_1 0).f1) ((rd_T47 l0_1 0).f2) ((rd_T47 l0_1 0).f3) ((rd_T47 l0_1 0).f4) _ _ ((rd_T47 l0_1 0).f5) _ _ ((rd_T47 l0_1 0).f6) true _ ?side1 ?side2 ?side3 ?side4 Az2.out).mono ?_);(case side1=>exact zc (Kd.C_below HR_z3.out HB.out));(case side2=>exact HC_z3.out);(case side3=>exact zc (Kd.C_below HR_z4.out HB.out));(case side4=>exact HC_z4.out);rintro e wz2 ⟨rfl,hb⟩;refine⟨_,rfl,?_⟩;replace BK101:=am (zw BK101.out hb);replace HB:=am (below_step (zb) hb);(try clear hb);(try clear hbz1);(try clear hk);(try clear hi);obtain⟨hcz_z15,hcz_z16⟩:=cs2 BK101.out)|(go_at_call 109;(with_reducible refine (model_stands.calls kjz1 _ _ l0_0 _ _ l0_1 true _ ?side1 ?side2 ?side3 ?side4 Az4.out).mono ?_);(case side1=>exact zc (Kd.C_below HR_z1.out HB.out));(case side2=>exact HC_z1.out);(case side3=>exact zc (Kd.C_below HR_z2.out HB.out));(case side4=>exact HC_z2.out);rintro e wz3 ⟨rfl,hb⟩;replace BK101:=am (zw BK101.out hb);replace HB:=am (below_step (zb) hb);(try clear hb);(try clear hbz1);(try clear hk);(try clear hi);obtain⟨hcz_z17,hcz_z18⟩:=cs2 BK101.out)|(go_at_call 110;(refine (api_Item_110.calls kjz1 _ _ l0_1 _ _ l0_0 _ _ l0_1 tz6 _ ?side1 ?side2 ?side3 ?side4 ?side5 ?side6 (zl BK101.out) Az6.out).mono ?_);(case side1=>exact zc (Kd.C_below HR_z2.out HB.out));(case side2=>exact HC_z2.out);(case side3=>exact zc (Kd.C_below HR_z1.out HB.out));(case side4=>exact HC_z1.out);(case side5=>exact zc (Kd.C_below HR_z2.out HB.out));(case side6=>exact HC_z2.out);rintro e wz4 ⟨rfl,hb⟩;replace BK101:=am (zw BK101.out hb);replace HB:=am (below_step (zb) hb);(try clear hb);(try clear hbz1);(try clear hk);(try clear hi))|(go_at_call 109;(with_reducible refine (model_stands.calls kjz1 _ _ l0_0 _ _ l0_1 false _ ?side1 ?side2 ?side3 ?side4 Az4.out).mono ?_);(case side1=>exact zc (Kd.C_below HR_z1.out HB.out));(case side2=>exact HC_z1.out);(case side3=>exact zc (Kd.C_below HR_z2.out HB.out));(case side4=>exact HC_z2.out);rintro e wz3 ⟨rfl,hb⟩;replace BK101:=am (zw BK101.out hb);replace HB:=am (below_step (zb) hb);(try clear hb);(try clear hbz1);(try clear hk);(try clear hi))|((with_reducible refine gc_ 108 ?_);refine goesL_ (some 35) rfl rfl Tryz.func108 (by kernel_rfl) rfl #[.agg #[.string ((rd_T47 l0_1 0).f0),.int .i64 ((rd_T47 l0_1 0).f1),.string ((rd_T47 l0_1 0).f2),.bool ((rd_T47 l0_1 0).f3),.int .i64 ((rd_T47 l0_1 0).f4),.slice A_z1 ((rd_T47 l0_1 0).f5).length c_z1,.slice A_z2 ((rd_T47 l0_1 0).f6).length c_z2]] rfl (za) ?_;(with_reducible refine (model_isPlan.calls ((rd_T47 l0_1 0).f0) ((rd_T47 l0_1 0).f1) ((rd_T47 l0_1 0).f2) ((rd_T47 l0_1 0).f3) ((rd_T47 l0_1 0).f4) _ _ ((rd_T47 l0_1 0).f5) _ _ ((rd_T47 l0_1 0).f6) false _ ?side1 ?side2 ?side3 ?side4 Az2.out).mono ?_);(case side1=>exact zc (Kd.C_below HR_z3.out HB.out));(case side2=>exact HC_z3.out);(case side3=>exact zc (Kd.C_below HR_z4.out HB.out));(case side4=>exact HC_z4.out);rintro e wz2 ⟨rfl,hb⟩;refine⟨_,rfl,?_⟩;replace BK101:=am (zw BK101.out hb);replace HB:=am (below_step (zb) hb);(try clear hb);(try clear hbz1);(try clear hk);(try clear hi)))
  go_ret;exact⟨zf,zb⟩):p:=h
theorem model_Is.calls(k:Nat)(A0_0:Option Addr)(c0_0:Nat)(l0_0:List ByteArray)(A0_1:Option Addr)(c0_1:Nat)(l0_1:List (S47))(r:Bool)(w:World)(hr0_0:Kd.C Kd.string w A0_0 l0_0.length l0_0)(hc0_0:l0_0.length≤c0_0)(hr0_1:Kd.C k47 w A0_1 l0_1.length l0_1)(hc0_1:l0_1.length≤c0_1)(h:model_Is.f k l0_0 l0_1=some r) :
  Calls Tryz.prog 62 #[.agg #[.slice A0_0 l0_0.length c0_0,.slice A0_1 l0_1.length c0_1]] w fun e w'=>e = .returned (.bool r)∧Below w.heap.size w w':=by
 have hu25:=Tryz.underlying25;have hu47:=Tryz.underlying47;have HR_z1:=am hr0_0;have HC_z1:=am hc0_0;clear hr0_0 hc0_0;have HR_z2:=am hr0_1;have HC_z2:=am hc0_1;clear hr0_1 hc0_1;have HB:=am (Below.refl w.heap.size w);have H:(if (l0_0.length:Int)>6 then (model_Is.j0 k true l0_0 l0_1) else (if (l0_1.length:Int)<1 then (model_Is.j0 k true l0_0 l0_1) else (if (l0_1.length:Int)>16 then (model_Is.j0 k true l0_0 l0_1) else ((model_areNames.f k l0_0).bind fun tz1=>(if tz1=true then ((model_ids.f k l0_0 l0_1).bind fun tz2=>((model_areNames.f k tz2).bind fun tz3=>(model_Is.j0 k (!tz3) l0_0 l0_1))) else (model_Is.j0 k true l0_0 l0_1))))))=some r:=h;clear h;have HCz1:=am H;clear H;go_enter Tryz.func62,Tryz.ntmps62;go_upto_region 1 with (first|((with_reducible refine gd_ 1 ?_);(try (refine gate_guard (by rfl) ?_;dsimp only));refine bx_ 1 #[.slice A0_0 l0_0.length c0_0,.slice A0_1 l0_1.length c0_1] 25 ?_;intro gb101 hg wz1 hbox hb;have BK101:=am (hbox);have GE101:=am (zg:w.heap.size≤gb101);replace HB:=am (below_step (zb) hb);clear hb hbox hg))
 (try simp only [Act.put,List.setIfInBounds_toArray,List.set_cons_zero,List.set_cons_succ])
 go_cut [30] (fun vz1 wc => ∃ (kq:Nat) (x30_1:Bool),vz1 = .bool x30_1∧Aside0 (model_Is.j0 kq x30_1 l0_0 l0_1=some r)∧Aside0 (kq≤k)∧Aside0 (wc.heap[gb101]? = some (.cells #[(.slice A0_0 l0_0.length c0_0),(.slice A0_1 l0_1.length c0_1)] 25 (0,0)))∧Aside0 (Below w.heap.size w wc))
 case first =>
  have H:=HCz1.out;clear HCz1;by_cases cz1:(l0_0.length:Int)>6
  ·
   rw [if_pos cz1] at H;have cbz1:decide (6<(l0_0.length:Int))=true:=Qb cz1;have cbz2:decide (6<l0_0.length)=true:=Qb (by omega);clear cz1
   (first|rw [cbz1] | (simp only [i64_w,i32_w];rw [cbz1])|skip)
   have H':=am H;clear H;obtain⟨hcz_z1,hcz_z2⟩:=cs2 BK101.out;go_wp2;go_meet
   case rel=>exact ⟨_,(true),(ze),H',⟨by first|omega|exact Nat.le_refl _⟩,⟨zl BK101.out⟩,⟨zb⟩⟩
  rw [if_neg cz1] at H;have cbz1:decide (6<(l0_0.length:Int))=false:=Qc cz1;have cbz2:decide (6<l0_0.length)=false:=Qc (by omega);clear cz1
  (first|rw [cbz1] | (simp only [i64_w,i32_w];rw [cbz1])|skip)
  by_cases cz2:(l0_1.length:Int)<1
  ·
   rw [if_pos cz2] at H;have cbz3:=Qb cz2;have cbz4:decide (l0_1.length<1)=true:=Qb (by omega);clear cz2;have H':=am H;clear H;obtain⟨hcz_z1,hcz_z2⟩:=cs2 BK101.out;go_wp2;go_meet
   case rel=>exact ⟨_,(true),(ze),H',⟨by first|omega|exact Nat.le_refl _⟩,⟨zl BK101.out⟩,⟨zb⟩⟩
  rw [if_neg cz2] at H;have cbz3:=Qc cz2;have cbz4:decide (l0_1.length<1)=false:=Qc (by omega);clear cz2;by_cases cz3:(l0_1.length:Int)>16
  ·
   rw [if_pos cz3] at H;have cbz5:decide (16<(l0_1.length:Int))=true:=Qb cz3;have cbz6:decide (16<l0_1.length)=true:=Qb (by omega);clear cz3;have H':=am H;clear H;obtain⟨hcz_z1,hcz_z2⟩:=cs2 BK101.out;go_wp2;go_meet
   case rel=>exact ⟨_,(true),(ze),H',⟨by first|omega|exact Nat.le_refl _⟩,⟨zl BK101.out⟩,⟨zb⟩⟩
  rw [if_neg cz3] at H;have cbz5:decide (16<(l0_1.length:Int))=false:=Qc cz3;have cbz6:decide (16<l0_1.length)=false:=Qc (by omega);clear cz3;replace H:=Qe H;obtain⟨tz1,Az1,H⟩:=H;have Az2:=am Az1;clear Az1;by_cases cz4:tz1=true
  ·
   subst cz4;have H1:((model_ids.f k l0_0 l0_1).bind fun tz2=>((model_areNames.f k tz2).bind fun tz3=>(model_Is.j0 k (!tz3) l0_0 l0_1)))=some r:=by rw [if_pos rfl] at H;exact H
   clear H;have H:=H1;clear H1;replace H:=Qe H;obtain⟨tz2,Az3,H⟩:=H;have Az4:=am Az3;clear Az3;replace H:=Qe H;obtain⟨tz3,Az5,H⟩:=H;have Az6:=am Az5;clear Az5;have H':=am H;clear H;obtain⟨hcz_z1,hcz_z2⟩:=cs2 BK101.out;go_wp2_with (first|(go_at_call 106;(with_reducible refine (model_areNames.calls k _ _ l0_0 true _ ?side1 ?side2 Az2.out).mono ?_);(case side1=>exact zc (Kd.C_below HR_z1.out HB.out));(case side2=>exact HC_z1.out);rintro e wz2 ⟨rfl,hb⟩;replace BK101:=am (zw BK101.out hb);replace HB:=am (below_step (zb) hb);(try clear hb);(try clear hbz1);(try clear hk);(try clear hi);obtain⟨hcz_z3,hcz_z4⟩:=cs2 BK101.out)|(go_at_call 107;(with_reducible refine (model_ids.calls k _ _ l0_0 _ _ l0_1 tz2 _ ?side1 ?side2 ?side3 ?side4 Az4.out).mono ?_);(case side1=>exact zc (Kd.C_below HR_z1.out HB.out));(case side2=>exact HC_z1.out);(case side3=>exact zc (Kd.C_below HR_z2.out HB.out));(case side4=>exact HC_z2.out);rintro e wz3 ⟨vz2,rfl,hoz1,hb⟩;have HOz1:=am (Kd.R_lower hoz1 (below_size (zb)));replace BK101:=am (zw BK101.out hb);replace HB:=am (below_step (zb) hb);(try clear hb);(try clear hbz1);(try clear hk);(try clear hi);(try clear hoz1);obtain⟨Aoz1,coz1,eoz1⟩:=Kd.R_slice HOz1.out;subst eoz1)|(go_at_call 106;(with_reducible refine (model_areNames.calls k _ _ tz2 tz3 _ ?side1 ?side2 Az6.out).mono ?_);(case side1=>exact zc (Kd.R_reads' HOz1.out).2.2);(case side2=>exact (Kd.R_reads' HOz1.out).2.1);rintro e wz4 ⟨rfl,hb⟩;replace HOz1:=am (Kd.R_below (zR HOz1.out) hb);replace BK101:=am (zw BK101.out hb);replace HB:=am (below_step (zb) hb);(try clear hb);(try clear hbz1);(try clear hk);(try clear hi)))
   go_meet
   case rel=>exact ⟨_,(!tz3),(ze),H',⟨by first|omega|exact Nat.le_refl _⟩,⟨zl BK101.out⟩,⟨zb⟩⟩
  replace cz4:=Qj cz4;subst cz4;have H1:(model_Is.j0 k true l0_0 l0_1)=some r:=by rw [if_neg (show ¬ (false=true) by decide)] at H;exact H
  clear H;have H:=H1;clear H1;have H':=am H;clear H;obtain⟨hcz_z1,hcz_z2⟩:=cs2 BK101.out;go_wp2_with (first|(go_at_call 106;(with_reducible refine (model_areNames.calls k _ _ l0_0 false _ ?side1 ?side2 Az2.out).mono ?_);(case side1=>exact zc (Kd.C_below HR_z1.out HB.out));(case side2=>exact HC_z1.out);rintro e wz2 ⟨rfl,hb⟩;replace BK101:=am (zw BK101.out hb);replace HB:=am (below_step (zb) hb);(try clear hb);(try clear hbz1);(try clear hk);(try clear hi)))
  go_meet
  case rel=>exact ⟨_,(true),(ze),H',⟨by first|omega|exact Nat.le_refl _⟩,⟨zl BK101.out⟩,⟨zb⟩⟩
 case rest =>
  clear HCz1;obtain⟨kq,x30_1,rfl,HA,HJ1,BK101,HB⟩:=hcut
  cases kq with
  | zero => exact absurd HA.out (by simp [model_Is.j0])
  | succ kjz1 =>
   have H:=HA.out;clear HA;simp only [model_Is.j0] at H;by_cases cz5:x30_1=true
   ·
    subst cz5;have H1:(some false)=some r:=by rw [if_pos rfl] at H;exact H
    clear H;have H:=H1;clear H1;obtain rfl:=Qd H;go_wp2;go_ret;exact⟨zf,zb⟩
   replace cz5:=Qj cz5;subst cz5;have H1:(if 0<(l0_1.length:Int) then ((model_isPlan.f ((rd_T47 l0_1 0).f0) ((rd_T47 l0_1 0).f1) ((rd_T47 l0_1 0).f2) ((rd_T47 l0_1 0).f3) ((rd_T47 l0_1 0).f4) ((rd_T47 l0_1 0).f5) ((rd_T47 l0_1 0).f6)).bind fun tz4=>(if tz4=true then ((model_stands.f kjz1 l0_0 l0_1).bind fun tz5=>(if tz5=true then ((api_Item_110.f kjz1 l0_1 l0_0 l0_1).bind fun tz6=>(some (!tz6))) else (some false))) else (some false))) else (none))=some r:=by rw [if_neg (show ¬ (false=true) by decide)] at H;exact H
   clear H;have H:=H1;clear H1;by_cases cz6:0<(l0_1.length:Int)
   ·
    rw [if_pos cz6] at H;have cbz7:=Qb cz6;have cbz8:decide (0<l0_1.length)=true:=Qb (by omega);clear cz6;replace H:=Qe H;obtain⟨tz4,Az1,H⟩:=H;have Az2:=am Az1;clear Az1;by_cases cz7:tz4=true
    ·
     subst cz7;have H1:((model_stands.f kjz1 l0_0 l0_1).bind fun tz5=>(if tz5=true then ((api_Item_110.f kjz1 l0_1 l0_0 l0_1).bind fun tz6=>(some (!tz6))) else (some false)))=some r:=by rw [if_pos rfl] at H;exact H
     clear H;have H:=H1;clear H1;replace H:=Qe H;obtain⟨tz5,Az3,H⟩:=H;have Az4:=am Az3;clear Az3;by_cases cz8:tz5=true
     ·
      subst cz8;have H1:((api_Item_110.f kjz1 l0_1 l0_0 l0_1).bind fun tz6=>(some (!tz6)))=some r:=by rw [if_pos rfl] at H;exact H
      clear H;have H:=H1;clear H1;replace H:=Qe H;obtain⟨tz6,Az5,H⟩:=H;have Az6:=am Az5;clear Az5;obtain rfl:=Qd H;obtain⟨hcz_z13,hcz_z14⟩:=cs2 BK101.out;exact model_Is.e0
     replace cz8:=Qj cz8;subst cz8;have H1:(some false)=some r:=by rw [if_neg (show ¬ (false=true) by decide)] at H;exact H
     clear H;have H:=H1;clear H1;obtain rfl:=Qd H;obtain⟨hcz_z13,hcz_z14⟩:=cs2 BK101.out;exact model_Is.e0
    replace cz7:=Qj cz7;subst cz7;have H1:(some false)=some r:=by rw [if_neg (show ¬ (false=true) by decide)] at H;exact H
    clear H;have H:=H1;clear H1;obtain rfl:=Qd H;obtain⟨hcz_z13,hcz_z14⟩:=cs2 BK101.out;exact model_Is.e0
   rw [if_neg cz6] at H;exact absurd H (by simp)
end Go.Proofs.YtpbembafpnknhaaGreat.Pr
