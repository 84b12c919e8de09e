/- Proof texts of one seat,in one file: the walks of functions and the lemmas under them,printed by programs and typed by hand. Put together by wip/bundle.py. -/
import Derived.Test.YtpbembafpnknhaaGreatRows
import Derived.Test.YtpbembafpnknhaaGreatBNormOnce0
import Derived.Test.YtpbembafpnknhaaGreatBNormOnce1
import Derived.Test.YtpbembafpnknhaaGreatBNormOnce2
import Derived.Test.YtpbembafpnknhaaGreatBNormOnce3
set_option maxHeartbeats 8000000
set_option maxRecDepth 100000
set_option linter.unusedVariables false
set_option linter.unusedSimpArgs false
set_option linter.unusedSectionVars false
namespace Go.Proofs.YtpbembafpnknhaaGreat.Pr
open Go.RowKit Go.Proofs.YtpbembafpnknhaaGreatW.PrintWords Go.Proofs.YtpbembafpnknhaaGreatW.PrintLast Go.Proofs.YtpbembafpnknhaaGreatW.PrintMore
attribute [local go_sem] max2_int min2_int max_two min_two max_three min_three max_four min_four
def sentryref4_Depth.l0:Nat→Int→Int→List ByteArray→List (S47)→Option (Int)
  | 0, _, _, _, _ => none
  | k+1,x1,x5,x102000,x102001=>if x1>0 then (if x5≤(x102001.length:Int) then (if 0≤x1 then (if x1<(x102001.length:Int) then ((sentryref4_Place.f k x102000 x102001 ((rd_T47 x102001 x1).f2)).bind fun t103=>(sentryref4_Depth.l0 k t103 (wrap64 (x5+1)) x102000 x102001)) else (none)) else (none)) else (if x1<0 then (some (-1)) else (if x5>(x102001.length:Int) then (some (-1)) else (some x5)))) else (if x1<0 then (some (-1)) else (if x5>(x102001.length:Int) then (some (-1)) else (some x5)))
def sentryref4_Depth.f(k:Nat)(l0_0:List ByteArray)(l0_1:List (S47))(a1:Int):Option (Int):=sentryref4_Depth.l0 k a1 0 l0_0 l0_1
def sentryref4_Depth.T3:Bool × List (List Nat × List Nat):=(true,[([],[]),([],[]),([1],[1]),([],[]),([2,3],[2,3]),([4],[4]),([5],[5]),([0,6],[0,6]),([7,7,0,1,2,3,4,5,6,7],[3,7])])
def sentryref4_Depth.B3:List Nat:=[0,0,2,0,14,30,62,127,255]
theorem sentryref4_Depth.tab3:rtab .any (opsOf Tryz.f122 3)=sentryref4_Depth.T3:=by kernel_rfl
theorem sentryref4_Depth.bits3:waitsOk sentryref4_Depth.T3.2 sentryref4_Depth.B3=true:=by kernel_rfl
theorem sentryref4_Depth.calls(k:Nat)(A0_0:Option Addr)(c0_0:Nat)(l0_0:List ByteArray)(A0_1:Option Addr)(c0_1:Nat)(l0_1:List (S47))(a1:Int)(r:Int)(w:World)(hr0_0:Kd.C Kd.string w A0_0 l0_0.length l0_0)(hc0_0:l0_0.length≤c0_0)(hr0_1:Kd.C k47 w A0_1 l0_1.length l0_1)(hc0_1:l0_1.length≤c0_1)(h:sentryref4_Depth.f k l0_0 l0_1 a1=some r) :
  Calls Tryz.prog 122 #[.agg #[.slice A0_0 l0_0.length c0_0,.slice A0_1 l0_1.length c0_1],.int .i64 a1] w fun e w'=>e = .returned (.int .i64 r)∧Below w.heap.size w w':=by
 have hu25:=Tryz.underlying25;have HR0_0:=am hr0_0;have HC0_0:=am hc0_0;clear hr0_0 hc0_0;have HR0_1:=am hr0_1;have HC0_1:=am hc0_1;clear hr0_1 hc0_1;have HB:=am (Below.refl w.heap.size w);have H:(sentryref4_Depth.l0 k a1 0 l0_0 l0_1)=some r:=h;clear h;have H':=am H;clear H;go_enter Tryz.func122,Tryz.ntmps122;go_wp2_with (first|((with_reducible refine gd_ 2 ?_);(try (refine gate_guard (by rfl) ?_;dsimp only));refine bx_ 2 #[.slice A0_0 l0_0.length c0_0,.slice A0_1 l0_1.length c0_1] 25 ?_;intro gb101 hg w3 hbox hb;have BK101:=am (hbox);have GE101:=am (zg:w.heap.size≤gb101);replace HB:=am (below_step (zb) hb);clear hb hbox hg))
 go_loopg [1,5] k (fun kq v1 v5 w' => ∃ (x1_1:Int) (x5_1:Int),v1 = .int .i64 x1_1∧v5 = .int .i64 x5_1∧Aside0 (sentryref4_Depth.l0 kq x1_1 x5_1 l0_0 l0_1=some r)∧Aside0 (kq≤k)∧Aside0 (w'.heap[gb101]? = some (.cells #[(.slice A0_0 l0_0.length c0_0),(.slice A0_1 l0_1.length c0_1)] 25 (0,0)))∧Aside0 (Below w.heap.size w w'))
 case atStart=>exact ⟨(a1),(0),(ze),(ze),H',⟨Nat.le_refl _⟩,⟨zl BK101.out⟩,⟨zb⟩⟩
 case round =>
  clear H';obtain⟨x1_1,x5_1,rfl,rfl,HA,HK1,BK101,HB⟩:=hrel
  cases gk with
  | zero => exact absurd HA.out (by simp [sentryref4_Depth.l0])
  | succ k1 =>
   have H:=HA.out;clear HA;simp only [sentryref4_Depth.l0] at H;by_cases c4:x1_1>0
   ·
    rw [if_pos c4] at H;have c4b0:decide (0<x1_1)=true:=Qb c4;clear c4;by_cases c5:x5_1≤(l0_1.length:Int)
    ·
     rw [if_pos c5] at H;have c5b0:=Qb c5;clear c5;by_cases c6:0≤x1_1
     ·
      rw [if_pos c6] at H;have c6b0:=Qb c6;clear c6;by_cases c7:x1_1<(l0_1.length:Int)
      ·
       rw [if_pos c7] at H;have c7b0:=Qb c7;clear c7;replace H:=Qe H;obtain⟨t103,A80,H⟩:=H;have A8:=am A80;clear A80;have H':=am H;clear H;obtain⟨hcz9_0,hcz9_1⟩:=cs2 BK101.out;try go_wp2
       replace BK101:=am (blk_drew BK101.out);replace HB:=am (below_drew1 HB.out);have p102:0≤(x1_1:Int):=Qo;have q102:x1_1<(l0_1.length:Int):=Qo;obtain⟨ad102,A102_5,c102_5,A102_6,c102_6,e102,hx102_0,hx102_1,hx102_2,hx102_3,hx102_4,hx102_5,hx102_6,hl102_5,hi102_5,hl102_6,hi102_6⟩:=at_T47 HR0_1.out x1_1 p102 q102;have hw102_6:=hx102_6;have hw102_5:=hx102_5;have hw102_4:=hx102_4;have hw102_3:=hx102_3;have hw102_2:=hx102_2;have hw102_1:=hx102_1;have hw102_0:=hx102_0;cases e102;replace hx102_0:=ba HB hx102_0;replace hx102_1:=ba HB hx102_1;replace hx102_2:=ba HB hx102_2;replace hx102_3:=ba HB hx102_3;replace hx102_4:=ba HB hx102_4;replace hx102_5:=ba HB hx102_5;replace hx102_6:=ba HB hx102_6;have HR102_5:=am hi102_5;have HC102_5:=am hl102_5;clear hi102_5 hl102_5;have HR102_6:=am hi102_6;have HC102_6:=am hl102_6;clear hi102_6 hl102_6;replace p102:=eq_true p102;replace q102:=eq_true q102;refine start_ (n:=9) (S:=fun w'=>w'.cell? ⟨gb101,0,none⟩=some (.slice A0_0 l0_0.length c0_0)∧w'.cell? ⟨gb101,1,none⟩=some (.slice (some ad102) l0_1.length c0_1)∧w'.cell? (ad102.add ((x1_1).toNat * 7))=some (.string ((rd_T47 l0_1 x1_1).f0))∧w'.cell? ⟨(ad102.add ((x1_1).toNat * 7)).block,(ad102.add ((x1_1).toNat * 7)).off+1,none⟩=some (.int .i64 ((rd_T47 l0_1 x1_1).f1))∧w'.cell? ⟨(ad102.add ((x1_1).toNat * 7)).block,(ad102.add ((x1_1).toNat * 7)).off+2,none⟩=some (.string ((rd_T47 l0_1 x1_1).f2))∧w'.cell? ⟨(ad102.add ((x1_1).toNat * 7)).block,(ad102.add ((x1_1).toNat * 7)).off+3,none⟩=some (.bool ((rd_T47 l0_1 x1_1).f3))∧w'.cell? ⟨(ad102.add ((x1_1).toNat * 7)).block,(ad102.add ((x1_1).toNat * 7)).off+4,none⟩=some (.int .i64 ((rd_T47 l0_1 x1_1).f4))∧w'.cell? ⟨(ad102.add ((x1_1).toNat * 7)).block,(ad102.add ((x1_1).toNat * 7)).off+5,none⟩=some (.slice A102_5 ((rd_T47 l0_1 x1_1).f5).length c102_5)∧w'.cell? ⟨(ad102.add ((x1_1).toNat * 7)).block,(ad102.add ((x1_1).toNat * 7)).off+6,none⟩=some (.slice A102_6 ((rd_T47 l0_1 x1_1).f6).length c102_6)) (ds:=[]) #[false,false,false,false,false,false,false,false,false] (by kernel_rfl) rfl rfl ⟨bc BK101 0,bc BK101 1,(bh HB hw102_0),(bh HB hw102_1),(bh HB hw102_2),(bh HB hw102_3),(bh HB hw102_4),(bh HB hw102_5),(bh HB hw102_6)⟩ (fun hHeld=>?_);refine with_tabW sentryref4_Depth.tab3 sentryref4_Depth.bits3 (fun HT_ HW_=>?_);generalize wr.drew=w10 at BK101 HB HR102_5 HR102_6 hx102_0 hx102_1 hx102_2 hx102_3 hx102_4 hx102_5 hx102_6 hHeld ⊢;refine pz_ 1 16 9 2 ?_;refine pz_ 3 18 9 10 ?_;refine tz_ 0 15 9 11 ?_;refine tz_ 2 17 9 15 ?_;refine pz_ 4 19 9 31 ?_;refine pz_ 5 20 9 63 ?_;refine tz_ 6 21 9 127 ?_;refine oz_ 7 22 9 255 (fun K hK=>?_);refine goes_ Tryz.func45 (by kernel_rfl) rfl #[.agg #[.slice A0_0 l0_0.length c0_0,.slice (some ad102) l0_1.length c0_1],.string ((rd_T47 l0_1 x1_1).f2)] (by rfl) rfl rfl (za) ?_;with_reducible refine (sentryref4_Place.calls k1 _ _ l0_0 _ _ l0_1 ((rd_T47 l0_1 x1_1).f2) t103 _ ?side1 ?side2 ?side3 ?side4 A8.out).mono ?_
       (case side1=>exact zc (Kd.C_below HR0_0.out HB.out))
       (case side2=>exact HC0_0.out)
       (case side3=>exact zc (Kd.C_below HR0_1.out HB.out))
       (case side4=>exact HC0_1.out)
       rintro e w11 ⟨rfl,hb⟩;refine⟨_,rfl,?_⟩;replace BK101:=am (zw BK101.out hb);replace HB:=am (below_step (zb) hb)
       (try clear hb)
       (try clear hb2)
       (try clear hk)
       (try clear hi)
       refine hK.out _ _ ⟨bc BK101 0,bc BK101 1,(bh HB hw102_0),(bh HB hw102_1),(bh HB hw102_2),(bh HB hw102_3),(bh HB hw102_4),(bh HB hw102_5),(bh HB hw102_6)⟩ (fun hHeld=>?_);clear hK K;refine nz_ 22 ?_;refine pz_ 8 1 9 511 ?_;refine done_ (done_of HT_.out (by kernel_rfl)) ?_;try go_wp2
       go_roundg k1
       case measure=>have:=HK1.out;omega
       case rel=>exact ⟨(t103),(wrap64 (x5_1+1)),(ze),(ze),H',⟨by have:=HK1.out;omega⟩,⟨zl BK101.out⟩,⟨zb⟩⟩
      rw [if_neg c7] at H;exact absurd H (by simp)
     rw [if_neg c6] at H;exact absurd H (by simp)
    rw [if_neg c5] at H;have c5b0:=Qc c5;clear c5;by_cases c12:x1_1<0
    ·
     rw [if_pos c12] at H;have c12b0:=Qb c12;clear c12;obtain rfl:=Qd H;obtain⟨hcz13_0,hcz13_1⟩:=cs2 BK101.out;go_wp2;go_ret;exact⟨zf,zb⟩
    rw [if_neg c12] at H;have c12b0:=Qc c12;clear c12;by_cases c14:x5_1>(l0_1.length:Int)
    ·
     rw [if_pos c14] at H;have c14b0:decide ((l0_1.length:Int)<x5_1)=true:=Qb c14;clear c14;obtain rfl:=Qd H;obtain⟨hcz15_0,hcz15_1⟩:=cs2 BK101.out;go_wp2;go_ret;exact⟨zf,zb⟩
    rw [if_neg c14] at H;have c14b0:decide ((l0_1.length:Int)<x5_1)=false:=Qc c14;clear c14;obtain rfl:=Qd H;obtain⟨hcz16_0,hcz16_1⟩:=cs2 BK101.out;go_wp2;go_ret;exact⟨zf,zb⟩
   rw [if_neg c4] at H;have c4b0:decide (0<x1_1)=false:=Qc c4;clear c4;by_cases c17:x1_1<0
   ·
    rw [if_pos c17] at H;have c17b0:=Qb c17;clear c17;obtain rfl:=Qd H;go_wp2;go_ret;exact⟨zf,zb⟩
   rw [if_neg c17] at H;have c17b0:=Qc c17;clear c17;by_cases c18:x5_1>(l0_1.length:Int)
   ·
    rw [if_pos c18] at H;have c18b0:decide ((l0_1.length:Int)<x5_1)=true:=Qb c18;clear c18;obtain rfl:=Qd H;obtain⟨hcz19_0,hcz19_1⟩:=cs2 BK101.out;go_wp2;go_ret;exact⟨zf,zb⟩
   rw [if_neg c18] at H;have c18b0:decide ((l0_1.length:Int)<x5_1)=false:=Qc c18;clear c18;obtain rfl:=Qd H;obtain⟨hcz20_0,hcz20_1⟩:=cs2 BK101.out;go_wp2;go_ret;exact⟨zf,zb⟩
theorem eqA78(d:Nat)(w:World)(x0 y0:ByteArray)(x1 y1:Int) :
    (Op.equalIn (d+2) 78 (.agg #[.string x0,.int .i64 x1]) (.agg #[.string y0,.int .i64 y1])).run Tryz.prog w = .ok (x0.toList == y0.toList&&(x1 == y1)) w:=by
  refine eqA_of Tryz.underlying78 (by kernel_rfl) ?_;refine eqf_cons (by rfl) (by go_simp;rfl) (by go_simp;rfl) (by go_simp) ?_;exact eqf_last (by rfl) (by go_simp;rfl) (by go_simp;rfl) (by go_simp)
def model_Kids.l0:Nat→ByteArray→List Int→List (S47)→Int→Int→Option (List Int)
  | 0, _, _, _, _, _ => none
  | k+1,x1,x5,x9,x10,x11=>if x11<x10 then (if 0≤x11 then (if x11<(x9.length:Int) then (if ((rd_T47 x9 x11).f2).toList=x1.toList then (if x5.length<17592186044416 then (model_Kids.l0 k x1 (x5 ++ [x11]) x9 x10 (wrap64 (x11+1))) else (none)) else (model_Kids.l0 k x1 x5 x9 x10 (wrap64 (x11+1)))) else (none)) else (none)) else (some x5)
def model_Kids.f(k:Nat)(l0_0:List ByteArray)(l0_1:List (S47))(a1:ByteArray):Option (List Int):=model_Kids.l0 k a1 ([]:List Int) l0_1 (l0_1.length:Int) 0
theorem model_Kids.mono_l:∀ k,(∀ y0 y1 y2 y3 y4,LeO (model_Kids.l0 k y0 y1 y2 y3 y4) (model_Kids.l0 (k+1) y0 y1 y2 y3 y4))
  | 0 => fun _ _ _ _ _ r h => by simp [model_Kids.l0] at h
  | k + 1 => by
    have ih0:=model_Kids.mono_l k;intro y0 y1 y2 y3 y4;unfold model_Kids.l0
    repeat' first
    | (with_reducible exact ih0 _ _ _ _ _)
    | (with_reducible exact LeO.refl _)
    | (with_reducible exact LeO.none _)
    | (with_reducible refine LeO.ite ?_ ?_)
    | (with_reducible refine LeO.bind ?_ (fun _ => ?_))
    | exact ih0 _ _ _ _ _
    | exact LeO.none _
    | refine LeO.ite ?_ ?_
    | refine LeO.bind ?_ (fun _=>?_)
theorem model_Kids.mono:∀ a0 a1 a2 k,LeO (model_Kids.f k a0 a1 a2) (model_Kids.f (k+1) a0 a1 a2):=by
  intro a0 a1 a2 k;have ih0:=model_Kids.mono_l k;unfold model_Kids.f
  repeat' first
      | (with_reducible exact ih0 _ _ _ _ _)
      | (with_reducible exact LeO.refl _)
      | (with_reducible exact LeO.none _)
      | (with_reducible refine LeO.ite ?_ ?_)
      | (with_reducible refine LeO.bind ?_ (fun _ => ?_))
      | exact ih0 _ _ _ _ _
      | exact LeO.none _
      | refine LeO.ite ?_ ?_
      | refine LeO.bind ?_ (fun _=>?_)
theorem model_Kids.calls(k : Nat)(A0_0 : Option Addr)(c0_0 : Nat)(l0_0 : List ByteArray)(A0_1 : Option Addr)(c0_1 : Nat)(l0_1 : List (S47))(a1 : ByteArray)(r : List Int)(w : World)(hr0_0 : Kd.C Kd.string w A0_0 l0_0.length l0_0)(hc0_0 : l0_0.length ≤ c0_0)(hr0_1 : Kd.C k47 w A0_1 l0_1.length l0_1)(hc0_1 : l0_1.length ≤ c0_1)(h : model_Kids.f k l0_0 l0_1 a1 = some r) :
  Calls Tryz.prog 127 #[.agg #[.slice A0_0 l0_0.length c0_0,.slice A0_1 l0_1.length c0_1],.string a1] w fun e w' => ∃ v0_:Value,e = .returned (v0_)∧Kd.R (Kd.int .i64) 3 w' w.heap.size (fun _=>True) v0_ r∧Below w.heap.size w w':=by
 have hu25:=Tryz.underlying25;have hu47:=Tryz.underlying47;have HR0_0:=am hr0_0;have HC0_0:=am hc0_0;clear hr0_0 hc0_0;have HR0_1:=am hr0_1;have HC0_1:=am hc0_1;clear hr0_1 hc0_1;have HB:=am (Below.refl w.heap.size w);have H:(model_Kids.l0 k a1 ([]:List Int) l0_1 (l0_1.length:Int) 0)=some r:=h;clear h;have H':=am H;clear H;go_enter Tryz.func127,Tryz.ntmps127;go_wp2_with (first|((with_reducible refine gd_ 2 ?_);refine bx_ 2 #[.slice A0_0 l0_0.length c0_0,.slice A0_1 l0_1.length c0_1] 25 ?_;intro gb101 hg w3 hbox hb;have BK101:=am (hbox);have GE101:=am (zg:w.heap.size≤gb101);replace HB:=am (below_step (zb) hb);clear hb hbox hg;obtain⟨hcz4_0,hcz4_1,hfz4_0,hfz4_1⟩:=cf2 BK101.out))
 go_loopg [5,11] k (fun kq v5 v11 w' => ∃ (x5_1:List Int) (x11_1:Int),v11 = .int .i64 x11_1∧Aside0 (model_Kids.l0 kq a1 x5_1 l0_1 (l0_1.length:Int) x11_1=some r)∧Aside0 (kq≤k)∧Aside0 (Kd.R (Kd.int .i64) 3 w' w.heap.size (fun _=>True) v5 x5_1)∧Aside0 (w'.heap[gb101]? = some (.cells #[(.slice A0_0 l0_0.length c0_0),(.slice A0_1 l0_1.length c0_1)] 25 (0,0)))∧Aside0 (Below w.heap.size w w'))
 case atStart=>exact ⟨(([]:List Int)),(0),(ze),H',⟨Nat.le_refl _⟩,⟨by first|exact Kd.R_nil _ _ _ _ _|exact Kd.N_nil _ _ _ _ _|exact Kd.V_nil _ _ _ _ _|exact Kd.Q_nil _ _ _ _ _|exact Kd.S_nil _ _ _ _ _⟩,⟨zl BK101.out⟩,⟨zb⟩⟩
 case round =>
  clear H';obtain⟨x5_1,x11_1,rfl,HA,HK1,HO_5,BK101,HB⟩:=hrel
  cases gk with
  | zero => exact absurd HA.out (by simp [model_Kids.l0])
  | succ k1 =>
   have H:=HA.out;clear HA;simp only [model_Kids.l0] at H;by_cases c5:x11_1<(l0_1.length:Int)
   ·
    rw [if_pos c5] at H;have c5b0:=Qb c5;clear c5;by_cases c6:0≤x11_1
    ·
     rw [if_pos c6] at H;have c6b0:=Qb c6;clear c6;by_cases c7:x11_1<(l0_1.length:Int)
     ·
      rw [if_pos c7] at H;have c7b0:=Qb c7;clear c7;by_cases c8:((rd_T47 l0_1 x11_1).f2).toList=a1.toList
      ·
       rw [if_pos c8] at H;have c8b0:=Qh c8;have c8b1:=Qf c8;clear c8;by_cases c9:x5_1.length<17592186044416
       ·
        rw [if_pos c9] at H;have LMc9:=am c9;clear c9;obtain⟨y104,hy104⟩:∃ y_:List Int,y_=(x5_1 ++ [x11_1]):=⟨_,rfl⟩;replace H:(model_Kids.l0 k1 a1 y104 l0_1 (l0_1.length:Int) (wrap64 (x11_1+1)))=some r:=by first|(rw [hy104];with_reducible exact H)|(have H2_:=(Option.bind_some _ _).symm.trans H;rw [hy104];with_reducible exact H2_)|(have H2_:=(Option.bind_some _ _).symm.trans H;with_reducible exact H2_)|with_reducible exact H|(rw [hy104];exact H)|exact H
        have Ny104:=am hy104;clear hy104;have H':=am H;clear H;have p102:0≤(x11_1:Int):=Qo;have q102:x11_1<(l0_1.length:Int):=Qo;obtain⟨ad102,A102_5,c102_5,A102_6,c102_6,e102,hx102_0,hx102_1,hx102_2,hx102_3,hx102_4,hx102_5,hx102_6,hl102_5,hi102_5,hl102_6,hi102_6⟩:=at_T47 HR0_1.out x11_1 p102 q102;cases e102;replace hx102_0:=ba HB hx102_0;replace hx102_1:=ba HB hx102_1;replace hx102_2:=ba HB hx102_2;replace hx102_3:=ba HB hx102_3;replace hx102_4:=ba HB hx102_4;replace hx102_5:=ba HB hx102_5;replace hx102_6:=ba HB hx102_6;have HR102_5:=am hi102_5;have HC102_5:=am hl102_5;clear hi102_5 hl102_5;have HR102_6:=am hi102_6;have HC102_6:=am hl102_6;clear hi102_6 hl102_6;replace p102:=eq_true p102;replace q102:=eq_true q102;go_wp2_with (first|((with_reducible refine gd_ 7 ?_);refine bx_ 7 #[.string (⟨#[]⟩:ByteArray),.int .i64 0,.string (⟨#[]⟩:ByteArray),.bool false,.int .i64 0,.slice none 0 0,.slice none 0 0] 47 ?_;intro gb103 hg w10 hbox hb;replace HO_5:=am (Kd.R_below (zR HO_5.out) hb);have BK103:=am (hbox);have GE103:=am (zg:w.heap.size≤gb103);replace HB:=am (below_step (zb) hb);have NB101_103:=am ((zn BK101.out:gb101≠gb103));replace BK101:=am (zw BK101.out hb);clear hb hbox hg;obtain⟨hcz12_0,hcz12_1,hcz12_2,hcz12_3,hcz12_4,hcz12_5,hcz12_6,hfz12_0,hfz12_1,hfz12_2,hfz12_3,hfz12_4,hfz12_5,hfz12_6⟩:=cf7 BK103.out)|((with_reducible refine gate_builtin (b:=.append) (xs:=#[.tmp 20,.tmp 22]) rfl ?_);at_builtin;refine Kd.R_append (Kd.int .i64) (w0:=w) w.heap.size rfl (.tmp 20) (.tmp 22) 51 3 (.int .i64 0) 8 rfl Tryz.underlying51 info3 rfl (by decide) (by omega) u5 x5_1 x11_1 [.int .i64 x11_1] (fun _=>True) (fun _=>False) rfl (by first|(go_simp;done)|(go_simp;rfl)) ?aP (fun _ hk=>hk.elim) ?aF ?aO ?aB ?aS ?aL ?_;(case aP=>exact rfl);(case aB=>exact (zb));(case aF=>exact (fun _ _=>trivial));(case aO=>exact (by refine zR ?_;exact Kd.R_mono (Kd.R_far (p:=⟨gb103,6,none⟩) (Kd.R_far (p:=⟨gb103,5,none⟩) (Kd.R_far (p:=⟨gb103,4,none⟩) (Kd.R_far (p:=⟨gb103,3,none⟩) (Kd.R_far (p:=⟨gb103,2,none⟩) (Kd.R_far (p:=⟨gb103,1,none⟩) (Kd.R_far (p:=⟨gb103,0,none⟩) (Kd.R_types HO_5.out BK103.out (by decide)) (fun _ hk=>hk.2) (.string ((rd_T47 l0_1 x11_1).f0))) (fun _ hk=>hk.2) (.int .i64 ((rd_T47 l0_1 x11_1).f1))) (fun _ hk=>hk.2) (.string ((rd_T47 l0_1 x11_1).f2))) (fun _ hk=>hk.2) (.bool ((rd_T47 l0_1 x11_1).f3))) (fun _ hk=>hk.2) (.int .i64 ((rd_T47 l0_1 x11_1).f4))) (fun _ hk=>hk.2) (.slice A102_5 ((rd_T47 l0_1 x11_1).f5).length c102_5)) (fun _ hk=>hk.2) (.slice A102_6 ((rd_T47 l0_1 x11_1).f6).length c102_6)) (fun _ hk=>trivial)));(case aS=>exact (below_size (zb)));(case aL=>have:=LMc9.out;omega);intro v105 w13 ho hb hg hat;rw [← Ny104.out] at ho;replace BK101:=am (blk_grown (g:=gb101) (o:=.cells #[.slice A0_0 l0_0.length c0_0,.slice (some ad102) l0_1.length c0_1] 25 (0,0)) (by refine zl ?_;refine blk_far ?_ NB101_103.out _;refine zl ?_;refine blk_far ?_ NB101_103.out _;refine zl ?_;refine blk_far ?_ NB101_103.out _;refine zl ?_;refine blk_far ?_ NB101_103.out _;refine zl ?_;refine blk_far ?_ NB101_103.out _;refine zl ?_;refine blk_far ?_ NB101_103.out _;refine zl ?_;refine blk_far ?_ NB101_103.out _;refine zl ?_;exact BK101.out) hg (Kd.R_ne HO_5.out BK101.out (by decide)));replace BK103:=am (blk_grown (g:=gb103) (o:=.cells #[.string ((rd_T47 l0_1 x11_1).f0),.int .i64 ((rd_T47 l0_1 x11_1).f1),.string ((rd_T47 l0_1 x11_1).f2),.bool ((rd_T47 l0_1 x11_1).f3),.int .i64 ((rd_T47 l0_1 x11_1).f4),.slice A102_5 ((rd_T47 l0_1 x11_1).f5).length c102_5,.slice A102_6 ((rd_T47 l0_1 x11_1).f6).length c102_6] 47 (0,0)) (by refine zl ?_;refine blk_put (cs:=#[.string ((rd_T47 l0_1 x11_1).f0),.int .i64 ((rd_T47 l0_1 x11_1).f1),.string ((rd_T47 l0_1 x11_1).f2),.bool ((rd_T47 l0_1 x11_1).f3),.int .i64 ((rd_T47 l0_1 x11_1).f4),.slice A102_5 ((rd_T47 l0_1 x11_1).f5).length c102_5,.slice none 0 0]) ?_ 6 _ rfl;refine zl ?_;refine blk_put (cs:=#[.string ((rd_T47 l0_1 x11_1).f0),.int .i64 ((rd_T47 l0_1 x11_1).f1),.string ((rd_T47 l0_1 x11_1).f2),.bool ((rd_T47 l0_1 x11_1).f3),.int .i64 ((rd_T47 l0_1 x11_1).f4),.slice none 0 0,.slice none 0 0]) ?_ 5 _ rfl;refine zl ?_;refine blk_put (cs:=#[.string ((rd_T47 l0_1 x11_1).f0),.int .i64 ((rd_T47 l0_1 x11_1).f1),.string ((rd_T47 l0_1 x11_1).f2),.bool ((rd_T47 l0_1 x11_1).f3),.int .i64 0,.slice none 0 0,.slice none 0 0]) ?_ 4 _ rfl;refine zl ?_;refine blk_put (cs:=#[.string ((rd_T47 l0_1 x11_1).f0),.int .i64 ((rd_T47 l0_1 x11_1).f1),.string ((rd_T47 l0_1 x11_1).f2),.bool false,.int .i64 0,.slice none 0 0,.slice none 0 0]) ?_ 3 _ rfl;refine zl ?_;refine blk_put (cs:=#[.string ((rd_T47 l0_1 x11_1).f0),.int .i64 ((rd_T47 l0_1 x11_1).f1),.string (⟨#[]⟩:ByteArray),.bool false,.int .i64 0,.slice none 0 0,.slice none 0 0]) ?_ 2 _ rfl;refine zl ?_;refine blk_put (cs:=#[.string ((rd_T47 l0_1 x11_1).f0),.int .i64 0,.string (⟨#[]⟩:ByteArray),.bool false,.int .i64 0,.slice none 0 0,.slice none 0 0]) ?_ 1 _ rfl;refine zl ?_;refine blk_put (cs:=#[.string (⟨#[]⟩:ByteArray),.int .i64 0,.string (⟨#[]⟩:ByteArray),.bool false,.int .i64 0,.slice none 0 0,.slice none 0 0]) ?_ 0 _ rfl;refine zl ?_;exact BK103.out) hg (Kd.R_ne HO_5.out BK103.out (by decide)));replace HB:=am (hb);have HO106:=am (ho);clear HO_5;clear ho hb hg hat))
        go_roundg k1
        case measure=>have:=HK1.out;omega
        case rel=>exact ⟨(y104),(wrap64 (x11_1+1)),(ze),H',⟨by have:=HK1.out;omega⟩,⟨zR HO106.out⟩,⟨zl BK101.out⟩,⟨zb⟩⟩
       rw [if_neg c9] at H;exact absurd H (by simp)
      rw [if_neg c8] at H;have c8b0:=Qg c8;have c8b1:=Qi c8;have H':=am H;clear H;have p102:0≤(x11_1:Int):=Qo;have q102:x11_1<(l0_1.length:Int):=Qo;obtain⟨ad102,A102_5,c102_5,A102_6,c102_6,e102,hx102_0,hx102_1,hx102_2,hx102_3,hx102_4,hx102_5,hx102_6,hl102_5,hi102_5,hl102_6,hi102_6⟩:=at_T47 HR0_1.out x11_1 p102 q102;cases e102;replace hx102_0:=ba HB hx102_0;replace hx102_1:=ba HB hx102_1;replace hx102_2:=ba HB hx102_2;replace hx102_3:=ba HB hx102_3;replace hx102_4:=ba HB hx102_4;replace hx102_5:=ba HB hx102_5;replace hx102_6:=ba HB hx102_6;have HR102_5:=am hi102_5;have HC102_5:=am hl102_5;clear hi102_5 hl102_5;have HR102_6:=am hi102_6;have HC102_6:=am hl102_6;clear hi102_6 hl102_6;replace p102:=eq_true p102;replace q102:=eq_true q102;go_wp2_with (first|((with_reducible refine gd_ 7 ?_);refine bx_ 7 #[.string (⟨#[]⟩:ByteArray),.int .i64 0,.string (⟨#[]⟩:ByteArray),.bool false,.int .i64 0,.slice none 0 0,.slice none 0 0] 47 ?_;intro gb103 hg w14 hbox hb;replace HO_5:=am (Kd.R_below (zR HO_5.out) hb);have BK103:=am (hbox);have GE103:=am (zg:w.heap.size≤gb103);replace HB:=am (below_step (zb) hb);have NB101_103:=am ((zn BK101.out:gb101≠gb103));replace BK101:=am (zw BK101.out hb);clear hb hbox hg;obtain⟨hcz16_0,hcz16_1,hcz16_2,hcz16_3,hcz16_4,hcz16_5,hcz16_6,hfz16_0,hfz16_1,hfz16_2,hfz16_3,hfz16_4,hfz16_5,hfz16_6⟩:=cf7 BK103.out))
      go_roundg k1
      case measure=>have:=HK1.out;omega
      case rel=>exact ⟨(x5_1),(wrap64 (x11_1+1)),(ze),H',⟨by have:=HK1.out;omega⟩,⟨by refine zR ?_;exact Kd.R_mono (Kd.R_far (p:=⟨gb103,6,none⟩) (Kd.R_far (p:=⟨gb103,5,none⟩) (Kd.R_far (p:=⟨gb103,4,none⟩) (Kd.R_far (p:=⟨gb103,3,none⟩) (Kd.R_far (p:=⟨gb103,2,none⟩) (Kd.R_far (p:=⟨gb103,1,none⟩) (Kd.R_far (p:=⟨gb103,0,none⟩) (Kd.R_types HO_5.out BK103.out (by decide)) (fun _ hk=>hk.2) (.string ((rd_T47 l0_1 x11_1).f0))) (fun _ hk=>hk.2) (.int .i64 ((rd_T47 l0_1 x11_1).f1))) (fun _ hk=>hk.2) (.string ((rd_T47 l0_1 x11_1).f2))) (fun _ hk=>hk.2) (.bool ((rd_T47 l0_1 x11_1).f3))) (fun _ hk=>hk.2) (.int .i64 ((rd_T47 l0_1 x11_1).f4))) (fun _ hk=>hk.2) (.slice A102_5 ((rd_T47 l0_1 x11_1).f5).length c102_5)) (fun _ hk=>hk.2) (.slice A102_6 ((rd_T47 l0_1 x11_1).f6).length c102_6)) (fun _ hk=>trivial)⟩,⟨by refine zl ?_;refine blk_far ?_ NB101_103.out _;refine zl ?_;refine blk_far ?_ NB101_103.out _;refine zl ?_;refine blk_far ?_ NB101_103.out _;refine zl ?_;refine blk_far ?_ NB101_103.out _;refine zl ?_;refine blk_far ?_ NB101_103.out _;refine zl ?_;refine blk_far ?_ NB101_103.out _;refine zl ?_;refine blk_far ?_ NB101_103.out _;refine zl ?_;exact BK101.out⟩,⟨zb⟩⟩
     rw [if_neg c7] at H;exact absurd H (by simp)
    rw [if_neg c6] at H;exact absurd H (by simp)
   rw [if_neg c5] at H;have c5b0:=Qc c5;clear c5;obtain rfl:=Qd H;go_wp2;go_ret;exact⟨_,zf,zR HO_5.out,zb⟩
def slices_Index_string_string.l0:Nat→List ByteArray→ByteArray→Int→Int→Option (Int)
  | 0, _, _, _, _ => none
  | k+1,x0,x1,x7,x8=>if x8<x7 then (if 0≤x8 then (if x8<(x0.length:Int) then (if x1.toList=(rdOf ByteArray.empty x0 x8).toList then (some x8) else (slices_Index_string_string.l0 k x0 x1 x7 (wrap64 (x8+1)))) else (none)) else (none)) else (some (-1))
def slices_Index_string_string.f(k:Nat)(l0:List ByteArray)(a1:ByteArray):Option (Int):=slices_Index_string_string.l0 k l0 a1 (l0.length:Int) 0
theorem slices_Index_string_string.mono_l:∀ k,(∀ y0 y1 y2 y3,LeO (slices_Index_string_string.l0 k y0 y1 y2 y3) (slices_Index_string_string.l0 (k+1) y0 y1 y2 y3))
  | 0 => fun _ _ _ _ r h => by simp [slices_Index_string_string.l0] at h
  | k + 1 => by
    have ih0:=slices_Index_string_string.mono_l k;intro y0 y1 y2 y3;unfold slices_Index_string_string.l0
    repeat' first
    | (with_reducible exact ih0 _ _ _ _)
    | (with_reducible exact LeO.refl _)
    | (with_reducible exact LeO.none _)
    | (with_reducible refine LeO.ite ?_ ?_)
    | (with_reducible refine LeO.bind ?_ (fun _ => ?_))
    | exact ih0 _ _ _ _
    | exact LeO.none _
    | refine LeO.ite ?_ ?_
    | refine LeO.bind ?_ (fun _=>?_)
theorem slices_Index_string_string.mono:∀ a0 a1 k,LeO (slices_Index_string_string.f k a0 a1) (slices_Index_string_string.f (k+1) a0 a1):=by
  intro a0 a1 k;have ih0:=slices_Index_string_string.mono_l k;unfold slices_Index_string_string.f
  repeat' first
      | (with_reducible exact ih0 _ _ _ _)
      | (with_reducible exact LeO.refl _)
      | (with_reducible exact LeO.none _)
      | (with_reducible refine LeO.ite ?_ ?_)
      | (with_reducible refine LeO.bind ?_ (fun _ => ?_))
      | exact ih0 _ _ _ _
      | exact LeO.none _
      | refine LeO.ite ?_ ?_
      | refine LeO.bind ?_ (fun _=>?_)
theorem slices_Index_string_string.calls(k:Nat)(A0:Option Addr)(c0:Nat)(l0:List ByteArray)(a1:ByteArray)(r:Int)(w:World)(hr0:Kd.C Kd.string w A0 l0.length l0)(hc0:l0.length≤c0)(h:slices_Index_string_string.f k l0 a1=some r) :
  Calls Tryz.prog 141 #[.slice A0 l0.length c0,.string a1] w fun e w'=>e = .returned (.int .i64 r)∧Drawn0 w w':=by
 have HR0:=am hr0;have HC0:=am hc0;clear hr0 hc0;have H:(slices_Index_string_string.l0 k l0 a1 (l0.length:Int) 0)=some r:=h;clear h;have H':=am H;clear H;go_enter Tryz.func141,Tryz.ntmps141;go_wp2;go_loopg [8] k (fun kq v8 w' => ∃ (x8_1:Int),v8 = .int .i64 x8_1∧Aside0 (slices_Index_string_string.l0 kq l0 a1 (l0.length:Int) x8_1=some r)∧Aside0 (kq≤k)∧Drawn0 w w')
 case atStart=>exact ⟨(0),(ze),H',⟨Nat.le_refl _⟩,zd⟩
 case round =>
  clear H';obtain⟨x8_1,rfl,HA,HK1,⟨m1,rfl⟩⟩:=hrel
  cases gk with
  | zero => exact absurd HA.out (by simp [slices_Index_string_string.l0])
  | succ k1 =>
   have H:=HA.out;clear HA;simp only [slices_Index_string_string.l0] at H;by_cases c3:x8_1<(l0.length:Int)
   ·
    rw [if_pos c3] at H;have c3b0:decide (x8_1<(l0.length:Int))=true:=Qb c3;clear c3;by_cases c4:0≤x8_1
    ·
     rw [if_pos c4] at H;have c4b0:decide (0≤x8_1)=true:=Qb c4;clear c4;by_cases c5:x8_1<(l0.length:Int)
     ·
      rw [if_pos c5] at H;have c5b0:decide (x8_1<(l0.length:Int))=true:=Qb c5;clear c5;by_cases c6:a1.toList=(rdOf ByteArray.empty l0 x8_1).toList
      ·
       rw [if_pos c6] at H;have c6b0:(a1.toList == (rdOf ByteArray.empty l0 x8_1).toList)=true:=Qh c6;have c6b1:(a1.toList != (rdOf ByteArray.empty l0 x8_1).toList)=false:=Qf c6;clear c6;obtain rfl:=Qd H;have p101:0≤(x8_1:Int):=Qo;have q101:x8_1<(l0.length:Int):=Qo;obtain⟨ad101,e101,hx101_0⟩:=Kd.at_string HR0.out x8_1 p101 q101;cases e101;replace p101:=eq_true p101;replace q101:=eq_true q101;go_wp2;go_ret;exact⟨ze,zd⟩
      rw [if_neg c6] at H;have c6b0:(a1.toList == (rdOf ByteArray.empty l0 x8_1).toList)=false:=Qg c6;have c6b1:(a1.toList != (rdOf ByteArray.empty l0 x8_1).toList)=true:=Qi c6;have H':=am H;clear H;have p101:0≤(x8_1:Int):=Qo;have q101:x8_1<(l0.length:Int):=Qo;obtain⟨ad101,e101,hx101_0⟩:=Kd.at_string HR0.out x8_1 p101 q101;cases e101;replace p101:=eq_true p101;replace q101:=eq_true q101;go_wp2;go_roundg k1
      case measure=>have:=HK1.out;omega
      case rel=>exact ⟨(wrap64 (x8_1+1)),(ze),H',⟨by have:=HK1.out;omega⟩,zd⟩
     rw [if_neg c5] at H;exact absurd H (by simp)
    rw [if_neg c4] at H;exact absurd H (by simp)
   rw [if_neg c3] at H;have c3b0:decide (x8_1<(l0.length:Int))=false:=Qc c3;clear c3;obtain rfl:=Qd H;go_wp2;go_ret;exact⟨ze,zd⟩
mutual
def model_Legal.j0:Nat→Int→Int→Bool→Option (Bool)
  | 0, _, _, _ => none
  | k+1,x0,x5,x6=>if x6=true then (if x0≥1 then (some (decide (x0≤5))) else (some false)) else (if x5=2 then (model_Legal.j1 k x0 x5 (x5 == 2)) else (model_Legal.j1 k x0 x5 (x5 == 3)))
def model_Legal.j1:Nat→Int→Int→Bool→Option (Bool)
  | 0, _, _, _ => none
  | k+1,x0,x5,x15=>if x15=true then (if x0=1 then (some true) else (some (x0 == 2))) else (if x5=4 then (if x0≥3 then (some (decide (x0≤5))) else (some false)) else (some false))
end
def model_Legal.f(k:Nat)(a0:Int)(a1:Int):Option (Bool):=if a1=1 then (model_Legal.j0 k a0 a1 (a1 == 1)) else (model_Legal.j0 k a0 a1 (a1 == 5))
theorem model_Legal.mono_l:∀ k,(∀ y0 y1 y2,LeO (model_Legal.j0 k y0 y1 y2) (model_Legal.j0 (k+1) y0 y1 y2))∧(∀ y0 y1 y2,LeO (model_Legal.j1 k y0 y1 y2) (model_Legal.j1 (k+1) y0 y1 y2))
  | 0 => ⟨fun _ _ _ r h => by simp [model_Legal.j0] at h, fun _ _ _ r h => by simp [model_Legal.j1] at h⟩
  | k + 1 => by
    obtain⟨ih0,ih1⟩:=model_Legal.mono_l k;refine⟨?_,?_⟩
    · intro y0 y1 y2
      unfold model_Legal.j0
      repeat' first
      | (with_reducible exact ih0 _ _ _)
      | (with_reducible exact ih1 _ _ _)
      | (with_reducible exact LeO.refl _)
      | (with_reducible exact LeO.none _)
      | (with_reducible refine LeO.ite ?_ ?_)
      | (with_reducible refine LeO.bind ?_ (fun _ => ?_))
      | exact ih0 _ _ _
      | exact ih1 _ _ _
      | exact LeO.none _
      | refine LeO.ite ?_ ?_
      | refine LeO.bind ?_ (fun _=>?_)
    intro y0 y1 y2;unfold model_Legal.j1
    repeat' first
    | (with_reducible exact ih0 _ _ _)
    | (with_reducible exact ih1 _ _ _)
    | (with_reducible exact LeO.refl _)
    | (with_reducible exact LeO.none _)
    | (with_reducible refine LeO.ite ?_ ?_)
    | (with_reducible refine LeO.bind ?_ (fun _ => ?_))
    | exact ih0 _ _ _
    | exact ih1 _ _ _
    | exact LeO.none _
    | refine LeO.ite ?_ ?_
    | refine LeO.bind ?_ (fun _=>?_)
theorem model_Legal.mono:∀ a0 a1 k,LeO (model_Legal.f k a0 a1) (model_Legal.f (k+1) a0 a1):=by
  intro a0 a1 k;obtain⟨ih0,ih1⟩:=model_Legal.mono_l k;unfold model_Legal.f
  repeat' first
      | (with_reducible exact ih0 _ _ _)
      | (with_reducible exact ih1 _ _ _)
      | (with_reducible exact LeO.refl _)
      | (with_reducible exact LeO.none _)
      | (with_reducible refine LeO.ite ?_ ?_)
      | (with_reducible refine LeO.bind ?_ (fun _ => ?_))
      | exact ih0 _ _ _
      | exact ih1 _ _ _
      | exact LeO.none _
      | refine LeO.ite ?_ ?_
      | refine LeO.bind ?_ (fun _=>?_)
theorem model_Legal.calls(k:Nat)(a0:Int)(a1:Int)(r:Bool)(w:World)(h:model_Legal.f k a0 a1=some r) :
  Calls Tryz.prog 271 #[.int .i64 a0,.int .i64 a1] w fun e w'=>e = .returned (.bool r)∧Drawn0 w w':=by
 have H:(if a1=1 then (model_Legal.j0 k a0 a1 (a1 == 1)) else (model_Legal.j0 k a0 a1 (a1 == 5)))=some r:=h;clear h;have HC3:=am H;clear H;go_enter Tryz.func271,Tryz.ntmps271;go_upto_if 6 with (fail)
 go_cut [6] (fun v6 wc => ∃ (kq:Nat) (x6_2:Bool),v6 = .bool x6_2∧Aside0 (model_Legal.j0 kq a0 a1 x6_2=some r)∧Aside0 (kq≤k)∧Drawn0 w wc)
 case first =>
  have H:=HC3.out;clear HC3;by_cases c4:a1=1
  ·
   rw [if_pos c4] at H;have c4b0:(a1 == 1)=true:=Qh c4;have c4b1:(a1 != 1)=false:=Qf c4;clear c4
   (first|rw [c4b0] | (simp only [i64_w,i32_w];rw [c4b0])|skip)
   have H':=am H;clear H;go_wp2;go_meet
   case rel=>exact ⟨_,((a1 == 1)),(ze),H',⟨by first|omega|exact Nat.le_refl _⟩,zd⟩
  rw [if_neg c4] at H;have c4b0:(a1 == 1)=false:=Qg c4;have c4b1:(a1 != 1)=true:=Qi c4
  (first|rw [c4b0] | (simp only [i64_w,i32_w];rw [c4b0])|skip)
  have H':=am H;clear H;go_wp2;go_meet
  case rel=>exact ⟨_,((a1 == 5)),(ze),H',⟨by first|omega|exact Nat.le_refl _⟩,zd⟩
 case rest =>
  clear HC3;try clear c4
  try clear c4b0
  try clear c4b1
  obtain⟨kq,x6_2,rfl,HA,HJ2,⟨mc2,rfl⟩⟩:=hcut
  cases kq with
  | zero => exact absurd HA.out (by simp [model_Legal.j0])
  | succ kj2 =>
   have H:=HA.out;clear HA;simp only [model_Legal.j0] at H;by_cases c5:x6_2=true
   ·
    subst c5;have H1:(if a0≥1 then (some (decide (a0≤5))) else (some false))=some r:=by rw [if_pos rfl] at H;exact H
    clear H;have H:=H1;clear H1;by_cases c6:a0≥1
    ·
     rw [if_pos c6] at H;have c6b0:decide (1≤a0)=true:=Qb c6;clear c6;obtain rfl:=Qd H;go_wp2;go_ret;exact⟨ze,zd⟩
    rw [if_neg c6] at H;have c6b0:decide (1≤a0)=false:=Qc c6;clear c6;obtain rfl:=Qd H;go_wp2;go_ret;exact⟨ze,zd⟩
   replace c5:=Qj c5;subst c5;have H1:(if a1=2 then (model_Legal.j1 kj2 a0 a1 (a1 == 2)) else (model_Legal.j1 kj2 a0 a1 (a1 == 3)))=some r:=by rw [if_neg (show ¬ (false=true) by decide)] at H;exact H
   clear H;have H:=H1;clear H1;have HC7:=am H;clear H;go_upto_if 15 with (fail)
   go_cut [15] (fun v15 wc => ∃ (kq:Nat) (x15_6:Bool),v15 = .bool x15_6∧Aside0 (model_Legal.j1 kq a0 a1 x15_6=some r)∧Aside0 (kq≤kj2)∧Drawn0 w wc)
   case first =>
    have H:=HC7.out;clear HC7;by_cases c8:a1=2
    ·
     rw [if_pos c8] at H;have c8b0:(a1 == 2)=true:=Qh c8;have c8b1:(a1 != 2)=false:=Qf c8;clear c8
     (first|rw [c8b0] | (simp only [i64_w,i32_w];rw [c8b0])|skip)
     have H':=am H;clear H;go_wp2;go_meet
     case rel=>exact ⟨_,((a1 == 2)),(ze),H',⟨by have:=HJ2.out;first|omega|exact Nat.le_refl _⟩,zd⟩
    rw [if_neg c8] at H;have c8b0:(a1 == 2)=false:=Qg c8;have c8b1:(a1 != 2)=true:=Qi c8
    (first|rw [c8b0] | (simp only [i64_w,i32_w];rw [c8b0])|skip)
    have H':=am H;clear H;go_wp2;go_meet
    case rel=>exact ⟨_,((a1 == 3)),(ze),H',⟨by have:=HJ2.out;first|omega|exact Nat.le_refl _⟩,zd⟩
   case rest =>
    clear HC7;try clear c4
    try clear c4b0
    try clear c4b1
    try clear c5
    try clear c6
    try clear c6b0
    try clear c8
    try clear c8b0
    try clear c8b1
    obtain⟨kq,x15_6,rfl,HA,HJ6,⟨mc6,rfl⟩⟩:=hcut
    cases kq with
    | zero => exact absurd HA.out (by simp [model_Legal.j1])
    | succ kj6 =>
     have H:=HA.out;clear HA;simp only [model_Legal.j1] at H;by_cases c9:x15_6=true
     ·
      subst c9;have H1:(if a0=1 then (some true) else (some (a0 == 2)))=some r:=by rw [if_pos rfl] at H;exact H
      clear H;have H:=H1;clear H1;by_cases c10:a0=1
      ·
       rw [if_pos c10] at H;have c10b0:(a0 == 1)=true:=Qh c10;have c10b1:(a0 != 1)=false:=Qf c10;clear c10;obtain rfl:=Qd H;go_wp2;go_ret;exact⟨ze,zd⟩
      rw [if_neg c10] at H;have c10b0:(a0 == 1)=false:=Qg c10;have c10b1:(a0 != 1)=true:=Qi c10;obtain rfl:=Qd H;go_wp2;go_ret;exact⟨ze,zd⟩
     replace c9:=Qj c9;subst c9;have H1:(if a1=4 then (if a0≥3 then (some (decide (a0≤5))) else (some false)) else (some false))=some r:=by rw [if_neg (show ¬ (false=true) by decide)] at H;exact H
     clear H;have H:=H1;clear H1;by_cases c11:a1=4
     ·
      rw [if_pos c11] at H;have c11b0:(a1 == 4)=true:=Qh c11;have c11b1:(a1 != 4)=false:=Qf c11;clear c11;by_cases c12:a0≥3
      ·
       rw [if_pos c12] at H;have c12b0:decide (3≤a0)=true:=Qb c12;clear c12;obtain rfl:=Qd H;go_wp2;go_ret;exact⟨ze,zd⟩
      rw [if_neg c12] at H;have c12b0:decide (3≤a0)=false:=Qc c12;clear c12;obtain rfl:=Qd H;go_wp2;go_ret;exact⟨ze,zd⟩
     rw [if_neg c11] at H;have c11b0:(a1 == 4)=false:=Qg c11;have c11b1:(a1 != 4)=true:=Qi c11;obtain rfl:=Qd H;go_wp2;go_ret;exact⟨ze,zd⟩
def model_ids.l0:Nat→List ByteArray→List (S47)→Int→Int→Option (List ByteArray)
  | 0, _, _, _, _ => none
  | k+1,x3,x7,x8,x9=>if x9<x8 then (if 0≤x9 then (if x9<(x7.length:Int) then (if x3.length<8796093022208 then (model_ids.l0 k (x3 ++ [(rd_T47 x7 x9).f0]) x7 x8 (wrap64 (x9+1))) else (none)) else (none)) else (none)) else (some x3)
def model_ids.f(k:Nat)(l0_0:List ByteArray)(l0_1:List (S47)):Option (List ByteArray):=model_ids.l0 k ([]:List ByteArray) l0_1 (l0_1.length:Int) 0
theorem model_ids.mono_l:∀ k,(∀ y0 y1 y2 y3,LeO (model_ids.l0 k y0 y1 y2 y3) (model_ids.l0 (k+1) y0 y1 y2 y3))
  | 0 => fun _ _ _ _ r h => by simp [model_ids.l0] at h
  | k + 1 => by
    have ih0:=model_ids.mono_l k;intro y0 y1 y2 y3;unfold model_ids.l0
    repeat' first
    | (with_reducible exact ih0 _ _ _ _)
    | (with_reducible exact LeO.refl _)
    | (with_reducible exact LeO.none _)
    | (with_reducible refine LeO.ite ?_ ?_)
    | (with_reducible refine LeO.bind ?_ (fun _ => ?_))
    | exact ih0 _ _ _ _
    | exact LeO.none _
    | refine LeO.ite ?_ ?_
    | refine LeO.bind ?_ (fun _=>?_)
theorem model_ids.mono:∀ a0 a1 k,LeO (model_ids.f k a0 a1) (model_ids.f (k+1) a0 a1):=by
  intro a0 a1 k;have ih0:=model_ids.mono_l k;unfold model_ids.f
  repeat' first
      | (with_reducible exact ih0 _ _ _ _)
      | (with_reducible exact LeO.refl _)
      | (with_reducible exact LeO.none _)
      | (with_reducible refine LeO.ite ?_ ?_)
      | (with_reducible refine LeO.bind ?_ (fun _ => ?_))
      | exact ih0 _ _ _ _
      | exact LeO.none _
      | refine LeO.ite ?_ ?_
      | refine LeO.bind ?_ (fun _=>?_)
theorem model_ids.calls(k:Nat)(A0_0:Option Addr)(c0_0:Nat)(l0_0:List ByteArray)(A0_1:Option Addr)(c0_1:Nat)(l0_1:List (S47))(r:List ByteArray)(w:World)(hr0_0:Kd.C Kd.string w A0_0 l0_0.length l0_0)(hc0_0:l0_0.length≤c0_0)(hr0_1:Kd.C k47 w A0_1 l0_1.length l0_1)(hc0_1:l0_1.length≤c0_1)(h:model_ids.f k l0_0 l0_1=some r) :
  Calls Tryz.prog 107 #[.agg #[.slice A0_0 l0_0.length c0_0,.slice A0_1 l0_1.length c0_1]] w fun e w' => ∃ v0_:Value,e = .returned (v0_)∧Kd.R Kd.string 9 w' w.heap.size (fun _=>True) v0_ r∧Below w.heap.size w w':=by
 have hu25:=Tryz.underlying25;have hu47:=Tryz.underlying47;have HR0_0:=am hr0_0;have HC0_0:=am hc0_0;clear hr0_0 hc0_0;have HR0_1:=am hr0_1;have HC0_1:=am hc0_1;clear hr0_1 hc0_1;have HB:=am (Below.refl w.heap.size w);have H:(model_ids.l0 k ([]:List ByteArray) l0_1 (l0_1.length:Int) 0)=some r:=h;clear h;have H':=am H;clear H;go_enter Tryz.func107,Tryz.ntmps107;go_wp2_with (first|((with_reducible refine gd_ 1 ?_);refine bx_ 1 #[.slice A0_0 l0_0.length c0_0,.slice A0_1 l0_1.length c0_1] 25 ?_;intro gb101 hg w2 hbox hb;have BK101:=am (hbox);have GE101:=am (zg:w.heap.size≤gb101);replace HB:=am (below_step (zb) hb);clear hb hbox hg;obtain⟨hcz3_0,hcz3_1,hfz3_0,hfz3_1⟩:=cf2 BK101.out))
 go_loopg [3,9] k (fun kq v3 v9 w' => ∃ (x3_1:List ByteArray) (x9_1:Int),v9 = .int .i64 x9_1∧Aside0 (model_ids.l0 kq x3_1 l0_1 (l0_1.length:Int) x9_1=some r)∧Aside0 (kq≤k)∧Aside0 (Kd.R Kd.string 9 w' w.heap.size (fun _=>True) v3 x3_1)∧Aside0 (w'.heap[gb101]? = some (.cells #[(.slice A0_0 l0_0.length c0_0),(.slice A0_1 l0_1.length c0_1)] 25 (0,0)))∧Aside0 (Below w.heap.size w w'))
 case atStart=>exact ⟨(([]:List ByteArray)),(0),(ze),H',⟨Nat.le_refl _⟩,⟨by first|exact Kd.R_nil _ _ _ _ _|exact Kd.N_nil _ _ _ _ _|exact Kd.V_nil _ _ _ _ _|exact Kd.Q_nil _ _ _ _ _|exact Kd.S_nil _ _ _ _ _⟩,⟨zl BK101.out⟩,⟨zb⟩⟩
 case round =>
  clear H';obtain⟨x3_1,x9_1,rfl,HA,HK1,HO_3,BK101,HB⟩:=hrel
  cases gk with
  | zero => exact absurd HA.out (by simp [model_ids.l0])
  | succ k1 =>
   have H:=HA.out;clear HA;simp only [model_ids.l0] at H;by_cases c4:x9_1<(l0_1.length:Int)
   ·
    rw [if_pos c4] at H;have c4b0:=Qb c4;clear c4;by_cases c5:0≤x9_1
    ·
     rw [if_pos c5] at H;have c5b0:=Qb c5;clear c5;by_cases c6:x9_1<(l0_1.length:Int)
     ·
      rw [if_pos c6] at H;have c6b0:=Qb c6;clear c6;by_cases c7:x3_1.length<8796093022208
      ·
       rw [if_pos c7] at H;have LMc7:=am c7;clear c7;obtain⟨y104,hy104⟩:∃ y_:List ByteArray,y_=(x3_1 ++ [(rd_T47 l0_1 x9_1).f0]):=⟨_,rfl⟩;replace H:(model_ids.l0 k1 y104 l0_1 (l0_1.length:Int) (wrap64 (x9_1+1)))=some r:=by first|(rw [hy104];with_reducible exact H)|(have H2_:=(Option.bind_some _ _).symm.trans H;rw [hy104];with_reducible exact H2_)|(have H2_:=(Option.bind_some _ _).symm.trans H;with_reducible exact H2_)|with_reducible exact H|(rw [hy104];exact H)|exact H
       have Ny104:=am hy104;clear hy104;have H':=am H;clear H;have p102:0≤(x9_1:Int):=Qo;have q102:x9_1<(l0_1.length:Int):=Qo;obtain⟨ad102,A102_5,c102_5,A102_6,c102_6,e102,hx102_0,hx102_1,hx102_2,hx102_3,hx102_4,hx102_5,hx102_6,hl102_5,hi102_5,hl102_6,hi102_6⟩:=at_T47 HR0_1.out x9_1 p102 q102;cases e102;replace hx102_0:=ba HB hx102_0;replace hx102_1:=ba HB hx102_1;replace hx102_2:=ba HB hx102_2;replace hx102_3:=ba HB hx102_3;replace hx102_4:=ba HB hx102_4;replace hx102_5:=ba HB hx102_5;replace hx102_6:=ba HB hx102_6;have HR102_5:=am hi102_5;have HC102_5:=am hl102_5;clear hi102_5 hl102_5;have HR102_6:=am hi102_6;have HC102_6:=am hl102_6;clear hi102_6 hl102_6;replace p102:=eq_true p102;replace q102:=eq_true q102;go_wp2_with (first|((with_reducible refine gd_ 5 ?_);refine bx_ 5 #[.string (⟨#[]⟩:ByteArray),.int .i64 0,.string (⟨#[]⟩:ByteArray),.bool false,.int .i64 0,.slice none 0 0,.slice none 0 0] 47 ?_;intro gb103 hg w8 hbox hb;replace HO_3:=am (Kd.R_below (zR HO_3.out) hb);have BK103:=am (hbox);have GE103:=am (zg:w.heap.size≤gb103);replace HB:=am (below_step (zb) hb);have NB101_103:=am ((zn BK101.out:gb101≠gb103));replace BK101:=am (zw BK101.out hb);clear hb hbox hg;obtain⟨hcz10_0,hcz10_1,hcz10_2,hcz10_3,hcz10_4,hcz10_5,hcz10_6,hfz10_0,hfz10_1,hfz10_2,hfz10_3,hfz10_4,hfz10_5,hfz10_6⟩:=cf7 BK103.out)|((with_reducible refine gate_builtin (b:=.append) (xs:=#[.tmp 13,.tmp 16]) rfl ?_);at_builtin;refine Kd.R_append Kd.string (w0:=w) w.heap.size rfl (.tmp 13) (.tmp 16) 22 9 (.string ⟨#[]⟩) 16 rfl Tryz.underlying22 info9 rfl (by decide) (by omega) u3 x3_1 ((rd_T47 l0_1 x9_1).f0) [.string ((rd_T47 l0_1 x9_1).f0)] (fun _=>True) (fun _=>False) rfl (by first|(go_simp;done)|(go_simp;rfl)) ?aP (fun _ hk=>hk.elim) ?aF ?aO ?aB ?aS ?aL ?_;(case aP=>exact rfl);(case aB=>exact (zb));(case aF=>exact (fun _ _=>trivial));(case aO=>exact (by refine zR ?_;exact Kd.R_mono (Kd.R_far (p:=⟨gb103,6,none⟩) (Kd.R_far (p:=⟨gb103,5,none⟩) (Kd.R_far (p:=⟨gb103,4,none⟩) (Kd.R_far (p:=⟨gb103,3,none⟩) (Kd.R_far (p:=⟨gb103,2,none⟩) (Kd.R_far (p:=⟨gb103,1,none⟩) (Kd.R_far (p:=⟨gb103,0,none⟩) (Kd.R_types HO_3.out BK103.out (by decide)) (fun _ hk=>hk.2) (.string ((rd_T47 l0_1 x9_1).f0))) (fun _ hk=>hk.2) (.int .i64 ((rd_T47 l0_1 x9_1).f1))) (fun _ hk=>hk.2) (.string ((rd_T47 l0_1 x9_1).f2))) (fun _ hk=>hk.2) (.bool ((rd_T47 l0_1 x9_1).f3))) (fun _ hk=>hk.2) (.int .i64 ((rd_T47 l0_1 x9_1).f4))) (fun _ hk=>hk.2) (.slice A102_5 ((rd_T47 l0_1 x9_1).f5).length c102_5)) (fun _ hk=>hk.2) (.slice A102_6 ((rd_T47 l0_1 x9_1).f6).length c102_6)) (fun _ hk=>trivial)));(case aS=>exact (below_size (zb)));(case aL=>have:=LMc7.out;omega);intro v105 w11 ho hb hg hat;rw [← Ny104.out] at ho;replace BK101:=am (blk_grown (g:=gb101) (o:=.cells #[.slice A0_0 l0_0.length c0_0,.slice (some ad102) l0_1.length c0_1] 25 (0,0)) (by refine zl ?_;refine blk_far ?_ NB101_103.out _;refine zl ?_;refine blk_far ?_ NB101_103.out _;refine zl ?_;refine blk_far ?_ NB101_103.out _;refine zl ?_;refine blk_far ?_ NB101_103.out _;refine zl ?_;refine blk_far ?_ NB101_103.out _;refine zl ?_;refine blk_far ?_ NB101_103.out _;refine zl ?_;refine blk_far ?_ NB101_103.out _;refine zl ?_;exact BK101.out) hg (Kd.R_ne HO_3.out BK101.out (by decide)));replace BK103:=am (blk_grown (g:=gb103) (o:=.cells #[.string ((rd_T47 l0_1 x9_1).f0),.int .i64 ((rd_T47 l0_1 x9_1).f1),.string ((rd_T47 l0_1 x9_1).f2),.bool ((rd_T47 l0_1 x9_1).f3),.int .i64 ((rd_T47 l0_1 x9_1).f4),.slice A102_5 ((rd_T47 l0_1 x9_1).f5).length c102_5,.slice A102_6 ((rd_T47 l0_1 x9_1).f6).length c102_6] 47 (0,0)) (by refine zl ?_;refine blk_put (cs:=#[.string ((rd_T47 l0_1 x9_1).f0),.int .i64 ((rd_T47 l0_1 x9_1).f1),.string ((rd_T47 l0_1 x9_1).f2),.bool ((rd_T47 l0_1 x9_1).f3),.int .i64 ((rd_T47 l0_1 x9_1).f4),.slice A102_5 ((rd_T47 l0_1 x9_1).f5).length c102_5,.slice none 0 0]) ?_ 6 _ rfl;refine zl ?_;refine blk_put (cs:=#[.string ((rd_T47 l0_1 x9_1).f0),.int .i64 ((rd_T47 l0_1 x9_1).f1),.string ((rd_T47 l0_1 x9_1).f2),.bool ((rd_T47 l0_1 x9_1).f3),.int .i64 ((rd_T47 l0_1 x9_1).f4),.slice none 0 0,.slice none 0 0]) ?_ 5 _ rfl;refine zl ?_;refine blk_put (cs:=#[.string ((rd_T47 l0_1 x9_1).f0),.int .i64 ((rd_T47 l0_1 x9_1).f1),.string ((rd_T47 l0_1 x9_1).f2),.bool ((rd_T47 l0_1 x9_1).f3),.int .i64 0,.slice none 0 0,.slice none 0 0]) ?_ 4 _ rfl;refine zl ?_;refine blk_put (cs:=#[.string ((rd_T47 l0_1 x9_1).f0),.int .i64 ((rd_T47 l0_1 x9_1).f1),.string ((rd_T47 l0_1 x9_1).f2),.bool false,.int .i64 0,.slice none 0 0,.slice none 0 0]) ?_ 3 _ rfl;refine zl ?_;refine blk_put (cs:=#[.string ((rd_T47 l0_1 x9_1).f0),.int .i64 ((rd_T47 l0_1 x9_1).f1),.string (⟨#[]⟩:ByteArray),.bool false,.int .i64 0,.slice none 0 0,.slice none 0 0]) ?_ 2 _ rfl;refine zl ?_;refine blk_put (cs:=#[.string ((rd_T47 l0_1 x9_1).f0),.int .i64 0,.string (⟨#[]⟩:ByteArray),.bool false,.int .i64 0,.slice none 0 0,.slice none 0 0]) ?_ 1 _ rfl;refine zl ?_;refine blk_put (cs:=#[.string (⟨#[]⟩:ByteArray),.int .i64 0,.string (⟨#[]⟩:ByteArray),.bool false,.int .i64 0,.slice none 0 0,.slice none 0 0]) ?_ 0 _ rfl;refine zl ?_;exact BK103.out) hg (Kd.R_ne HO_3.out BK103.out (by decide)));replace HB:=am (hb);have HO106:=am (ho);clear HO_3;clear ho hb hg hat))
       go_roundg k1
       case measure=>have:=HK1.out;omega
       case rel=>exact ⟨(y104),(wrap64 (x9_1+1)),(ze),H',⟨by have:=HK1.out;omega⟩,⟨zR HO106.out⟩,⟨zl BK101.out⟩,⟨zb⟩⟩
      rw [if_neg c7] at H;exact absurd H (by simp)
     rw [if_neg c6] at H;exact absurd H (by simp)
    rw [if_neg c5] at H;exact absurd H (by simp)
   rw [if_neg c4] at H;have c4b0:=Qc c4;clear c4;obtain rfl:=Qd H;go_wp2;go_ret;exact⟨_,zf,zR HO_3.out,zb⟩
def model_isPlan.f(a0_0:ByteArray)(a0_1:Int)(a0_2:ByteArray)(a0_3:Bool)(a0_4:Int)(l0_5:List (S29))(l0_6:List (S29)):Option (Bool):=if a0_1=1 then (if a0_2.toList=([]:List UInt8) then (if a0_3=true then (some false) else (some ((wrap64 ((l0_5.length:Int)+(l0_6.length:Int))) == 0))) else (some false)) else (some false)
theorem model_isPlan.calls(a0_0:ByteArray)(a0_1:Int)(a0_2:ByteArray)(a0_3:Bool)(a0_4:Int)(A0_5:Option Addr)(c0_5:Nat)(l0_5:List (S29))(A0_6:Option Addr)(c0_6:Nat)(l0_6:List (S29))(r:Bool)(w:World)(hr0_5:Kd.C k29 w A0_5 l0_5.length l0_5)(hc0_5:l0_5.length≤c0_5)(hr0_6:Kd.C k29 w A0_6 l0_6.length l0_6)(hc0_6:l0_6.length≤c0_6)(h:model_isPlan.f a0_0 a0_1 a0_2 a0_3 a0_4 l0_5 l0_6=some r) :
  Calls Tryz.prog 108 #[.agg #[.string a0_0,.int .i64 a0_1,.string a0_2,.bool a0_3,.int .i64 a0_4,.slice A0_5 l0_5.length c0_5,.slice A0_6 l0_6.length c0_6]] w fun e w'=>e = .returned (.bool r)∧Below w.heap.size w w':=by
 have hu47:=Tryz.underlying47;have HR0_5:=am hr0_5;have HC0_5:=am hc0_5;clear hr0_5 hc0_5;have HR0_6:=am hr0_6;have HC0_6:=am hc0_6;clear hr0_6 hc0_6;have HB:=am (Below.refl w.heap.size w);have H:(if a0_1=1 then (if a0_2.toList=([]:List UInt8) then (if a0_3=true then (some false) else (some ((wrap64 ((l0_5.length:Int)+(l0_6.length:Int))) == 0))) else (some false)) else (some false))=some r:=h;clear h;by_cases c2:a0_1=1
 ·
  rw [if_pos c2] at H;have c2b0:(a0_1 == 1)=true:=Qh c2;have c2b1:(a0_1 != 1)=false:=Qf c2;clear c2;by_cases c3:a0_2.toList=([]:List UInt8)
  ·
   rw [if_pos c3] at H;have c3b0:(a0_2.toList == ([]:List UInt8))=true:=Qh c3;have c3b1:(a0_2.toList != ([]:List UInt8))=false:=Qf c3;clear c3;by_cases c4:a0_3=true
   ·
    subst c4;have H1:(some false)=some r:=by rw [if_pos rfl] at H;exact H
    clear H;have H:=H1;clear H1;obtain rfl:=Qd H;go_enter Tryz.func108,Tryz.ntmps108;go_wp2_with (first|((with_reducible refine gd_ 1 ?_);(try (refine gate_guard (by rfl) ?_;dsimp only));refine bx_ 1 #[.string a0_0,.int .i64 a0_1,.string a0_2,.bool true,.int .i64 a0_4,.slice A0_5 l0_5.length c0_5,.slice A0_6 l0_6.length c0_6] 47 ?_;intro gb101 hg w5 hbox hb;have BK101:=am (hbox);have GW101:=am (zg:w.heap.size≤gb101);have GE101:=am (zg:w.heap.size≤gb101);replace HB:=am (below_step (zb) hb);clear hb hbox hg;obtain⟨hcz6_0,hcz6_1,hcz6_2,hcz6_3,hcz6_4,hcz6_5,hcz6_6,hfz6_0,hfz6_1,hfz6_2,hfz6_3,hfz6_4,hfz6_5,hfz6_6⟩:=cf7 BK101.out))
    go_ret;exact⟨zf,zb⟩
   replace c4:=Qj c4;subst c4;have H1:(some ((wrap64 ((l0_5.length:Int)+(l0_6.length:Int))) == 0))=some r:=by rw [if_neg (show ¬ (false=true) by decide)] at H;exact H
   clear H;have H:=H1;clear H1;obtain rfl:=Qd H;go_enter Tryz.func108,Tryz.ntmps108;go_wp2_with (first|((with_reducible refine gd_ 1 ?_);(try (refine gate_guard (by rfl) ?_;dsimp only));refine bx_ 1 #[.string a0_0,.int .i64 a0_1,.string a0_2,.bool false,.int .i64 a0_4,.slice A0_5 l0_5.length c0_5,.slice A0_6 l0_6.length c0_6] 47 ?_;intro gb101 hg w7 hbox hb;have BK101:=am (hbox);have GW101:=am (zg:w.heap.size≤gb101);have GE101:=am (zg:w.heap.size≤gb101);replace HB:=am (below_step (zb) hb);clear hb hbox hg;obtain⟨hcz8_0,hcz8_1,hcz8_2,hcz8_3,hcz8_4,hcz8_5,hcz8_6,hfz8_0,hfz8_1,hfz8_2,hfz8_3,hfz8_4,hfz8_5,hfz8_6⟩:=cf7 BK101.out))
   go_ret;exact⟨zf,zb⟩
  rw [if_neg c3] at H;have c3b0:(a0_2.toList == ([]:List UInt8))=false:=Qg c3;have c3b1:(a0_2.toList != ([]:List UInt8))=true:=Qi c3;obtain rfl:=Qd H;go_enter Tryz.func108,Tryz.ntmps108;go_wp2_with (first|((with_reducible refine gd_ 1 ?_);(try (refine gate_guard (by rfl) ?_;dsimp only));refine bx_ 1 #[.string a0_0,.int .i64 a0_1,.string a0_2,.bool a0_3,.int .i64 a0_4,.slice A0_5 l0_5.length c0_5,.slice A0_6 l0_6.length c0_6] 47 ?_;intro gb101 hg w9 hbox hb;have BK101:=am (hbox);have GW101:=am (zg:w.heap.size≤gb101);have GE101:=am (zg:w.heap.size≤gb101);replace HB:=am (below_step (zb) hb);clear hb hbox hg;obtain⟨hcz10_0,hcz10_1,hcz10_2,hcz10_3,hcz10_4,hcz10_5,hcz10_6,hfz10_0,hfz10_1,hfz10_2,hfz10_3,hfz10_4,hfz10_5,hfz10_6⟩:=cf7 BK101.out))
  go_ret;exact⟨zf,zb⟩
 rw [if_neg c2] at H;have c2b0:(a0_1 == 1)=false:=Qg c2;have c2b1:(a0_1 != 1)=true:=Qi c2;obtain rfl:=Qd H;go_enter Tryz.func108,Tryz.ntmps108;go_wp2_with (first|((with_reducible refine gd_ 1 ?_);(try (refine gate_guard (by rfl) ?_;dsimp only));refine bx_ 1 #[.string a0_0,.int .i64 a0_1,.string a0_2,.bool a0_3,.int .i64 a0_4,.slice A0_5 l0_5.length c0_5,.slice A0_6 l0_6.length c0_6] 47 ?_;intro gb101 hg w11 hbox hb;have BK101:=am (hbox);have GW101:=am (zg:w.heap.size≤gb101);have GE101:=am (zg:w.heap.size≤gb101);replace HB:=am (below_step (zb) hb);clear hb hbox hg;obtain⟨hcz12_0,hcz12_1,hcz12_2,hcz12_3,hcz12_4,hcz12_5,hcz12_6,hfz12_0,hfz12_1,hfz12_2,hfz12_3,hfz12_4,hfz12_5,hfz12_6⟩:=cf7 BK101.out))
 go_ret;exact⟨zf,zb⟩
theorem R_full_step{ops:Array Oper}{o:Oper}{a:Act}{Kc:Act→World→Prop}{Q:Exit→Act→World→Prop}{E:Prop}{w0 W:World}(base:Nat)(hg:o.guard=none)(s x:Operand)(ho:o.op = .call { callee:=.builtin .append,args:=#[s,x],argTypes:=#[22,22] })(A:Option Addr)(c:Nat)(xs:List ByteArray)(p:ByteArray)(hs:a.eval s = .slice A xs.length xs.length)(hx:a.eval x = .slice (some ⟨W.heap.size,0,none⟩) 1 1)(HO:Kd.R Kd.string 9 W base (fun _=>True) (.slice A xs.length c) xs)(HB:Below base w0 W)(hbase:base≤W.heap.size)(hl:(xs.length+1) * 16≤140737488355328)(h:∀ v1 w1,Kd.R Kd.string 9 w1 base (fun _=>True) v1 (xs ++ [p])→Below base w0 w1→W.grownBy w1 (Value.slice A xs.length c).ownBlock→(v1.ownBlock=(Value.slice A xs.length c).ownBlock∨∃ b,v1.ownBlock=some b∧W.heap.size≤b)→Kc (a.put o.dst v1) w1) :
    if Region.wanted o (yielded ops a.tmps)=true then Oper.wp Tryz.prog o a (W.alloc (.cells #[.string p] 9)) Kc Q else E:=by
  have hown:=Kd.own_of_R HO;have hinf:(Tryz.prog.info? 9).map (fun i=>(i.zero,i.size,i.bytes))=some (some (.string ⟨#[]⟩),1,16):=info9;obtain⟨i0,hi,hzz⟩:=Option.map_eq_some_iff.1 hinf;simp only [Prod.mk.injEq] at hzz;obtain⟨hz0,hz1,hz2⟩:=hzz;have hlen:(encs Value.string xs).length=xs.length * 1:=by rw [encs_length,Nat.mul_one]
  have hsz:(W.alloc (.cells #[.string p] 9)).heap.size=W.heap.size+1:=Array.size_push _;refine step_append_grows (w:=W.alloc (.cells #[.string p] 9)) hg s x 22 ho 9 i0 (.string ⟨#[]⟩) 1 16 Tryz.underlying22 hi hz0 hz1 hz2 rfl (by decide) A xs.length xs.length (encs Value.string xs) hs ?_ hlen ?_ ⟨W.heap.size,0,none⟩ 1 1 [.string p] hx rfl ?_ (fun u hu=>by simp at hu;subst hu;rfl) (by omega) (by simp only [maxLen];omega) (by omega) ?_
  · intro hA
    subst hA;rcases hown.2 with ⟨he,h0⟩ | ⟨_,_,_,he,_⟩
    · exact ⟨h0,h0⟩
    cases he
  · intro b hb j u hu
    subst hb;have hlt:j<xs.length:=by have:=(List.getElem?_eq_some_iff.1 hu).1;rwa [encs_length] at this
    obtain⟨g,cap,hv,_,hlt2⟩:=hown.form (by omega);injection hv with hv1 hv2 hv3;injection hv1 with hv1;subst hv1;have h1:=hown.cells (g:=g) rfl j u hu;exact(World.cell?_alloc_lt _ _ _ (Qk _ _ h1)).trans h1
  · intro j u hu
    cases j with
    | zero =>
      have e:u = .string p:=by simpa using hu.symm
      subst e
      exact (blk_cell (blk_new W _) 0).trans rfl
    | succ j=>simp at hu
  intro v' w' ho' hgr;have hgr2:W.grownBy w' (Value.slice A xs.length c).ownBlock:=by
    have h3:W.grownBy w' none:=(World.grownBy_alloc W _ none).trans hgr;exact⟨h3.os,h3.tape,h3.output,h3.size,fun k hk _=>h3.block k hk (by simp)⟩
  have hb:∃ b,v'.ownBlock=some b∧W.heap.size≤b:=by
    obtain⟨g,cap,rfl,hb,_⟩:=ho'.form (by omega);exact⟨g,rfl,by rw [hsz] at hb;omega⟩
  refine h v' w' ?_ ?_ hgr2 (.inr hb)
  · have h5 : Kd.R Kd.string 9 w' (W.alloc (.cells #[.string p] 9)).heap.size (fun _ => True) v' (xs ++ [p]) := Kd.R_of_own (by
      have:encs Value.string (xs ++ [p])=encs Value.string xs ++ [.string p]:=by simp [encs]
      rw [this,List.length_append];exact ho') (fun _ _=>trivial)
    exact Kd.R_lower h5 (by rw [hsz];omega)
  exact(HB.alloc hbase _).grown hgr (by rw [hsz];omega) (by intro k hk;cases hk)
def slices_Equal_string_string.l0:Nat→List ByteArray→List ByteArray→Int→Int→Option (Bool)
  | 0, _, _, _, _ => none
  | k+1,x0,x1,x12,x13=>if x13<x12 then (if 0≤x13 then (if x13<(x0.length:Int) then (if x13<(x1.length:Int) then (if (rdOf ByteArray.empty x0 x13).toList=(rdOf ByteArray.empty x1 x13).toList then (slices_Equal_string_string.l0 k x0 x1 x12 (wrap64 (x13+1))) else (some false)) else (none)) else (none)) else (none)) else (some true)
def slices_Equal_string_string.f(k:Nat)(l0:List ByteArray)(l1:List ByteArray):Option (Bool):=if (l0.length:Int)=(l1.length:Int) then (slices_Equal_string_string.l0 k l0 l1 (l0.length:Int) 0) else (some false)
theorem slices_Equal_string_string.mono_l:∀ k,(∀ y0 y1 y2 y3,LeO (slices_Equal_string_string.l0 k y0 y1 y2 y3) (slices_Equal_string_string.l0 (k+1) y0 y1 y2 y3))
  | 0 => fun _ _ _ _ r h => by simp [slices_Equal_string_string.l0] at h
  | k + 1 => by
    have ih0:=slices_Equal_string_string.mono_l k;intro y0 y1 y2 y3;unfold slices_Equal_string_string.l0
    repeat' first
    | (with_reducible exact ih0 _ _ _ _)
    | (with_reducible exact LeO.refl _)
    | (with_reducible exact LeO.none _)
    | (with_reducible refine LeO.ite ?_ ?_)
    | (with_reducible refine LeO.bind ?_ (fun _ => ?_))
    | exact ih0 _ _ _ _
    | exact LeO.none _
    | refine LeO.ite ?_ ?_
    | refine LeO.bind ?_ (fun _=>?_)
theorem slices_Equal_string_string.mono:∀ a0 a1 k,LeO (slices_Equal_string_string.f k a0 a1) (slices_Equal_string_string.f (k+1) a0 a1):=by
  intro a0 a1 k;have ih0:=slices_Equal_string_string.mono_l k;unfold slices_Equal_string_string.f
  repeat' first
      | (with_reducible exact ih0 _ _ _ _)
      | (with_reducible exact LeO.refl _)
      | (with_reducible exact LeO.none _)
      | (with_reducible refine LeO.ite ?_ ?_)
      | (with_reducible refine LeO.bind ?_ (fun _ => ?_))
      | exact ih0 _ _ _ _
      | exact LeO.none _
      | refine LeO.ite ?_ ?_
      | refine LeO.bind ?_ (fun _=>?_)
theorem slices_Equal_string_string.calls(k : Nat)(A0 : Option Addr)(c0 : Nat)(l0 : List ByteArray)(A1 : Option Addr)(c1 : Nat)(l1 : List ByteArray)(r : Bool)(w : World)(hr0 : Kd.C Kd.string w A0 l0.length l0)(hc0 : l0.length ≤ c0)(hr1 : Kd.C Kd.string w A1 l1.length l1)(hc1 : l1.length ≤ c1)(h : slices_Equal_string_string.f k l0 l1 = some r) :
  Calls Tryz.prog 113 #[.slice A0 l0.length c0,.slice A1 l1.length c1] w fun e w'=>e = .returned (.bool r)∧Drawn0 w w':=by
 have HR0:=am hr0;have HC0:=am hc0;clear hr0 hc0;have HR1:=am hr1;have HC1:=am hc1;clear hr1 hc1;have H:(if (l0.length:Int)=(l1.length:Int) then (slices_Equal_string_string.l0 k l0 l1 (l0.length:Int) 0) else (some false))=some r:=h;clear h;by_cases c3:(l0.length:Int)=(l1.length:Int)
 ·
  rw [if_pos c3] at H;have c3b0:((l0.length:Int) == (l1.length:Int))=true:=Qh c3;have c3b1:((l0.length:Int) != (l1.length:Int))=false:=Qf c3;have c3b2:(l0.length == l1.length)=true:=by first|simpa using c3|(simp at c3 ⊢;omega)
  clear c3;have H':=am H;clear H;go_enter Tryz.func113,Tryz.ntmps113;go_wp2;repeat (go_quiet (fail);try go_wp2)
  go_loopg [13] k (fun kq v13 w' => ∃ (x13_1:Int),v13 = .int .i64 x13_1∧Aside0 (slices_Equal_string_string.l0 kq l0 l1 (l0.length:Int) x13_1=some r)∧Aside0 (kq≤k)∧Drawn0 w w')
  case atStart=>exact ⟨(0),(ze),H',⟨Nat.le_refl _⟩,zd⟩
  case round =>
   clear H';try clear c1
   try clear c3
   try clear c3b0
   try clear c3b1
   try clear c3b2
   obtain⟨x13_1,rfl,HA,HK1,⟨m1,rfl⟩⟩:=hrel
   cases gk with
   | zero => exact absurd HA.out (by simp [slices_Equal_string_string.l0])
   | succ k1 =>
    have H:=HA.out;clear HA;simp only [slices_Equal_string_string.l0] at H;by_cases c4:x13_1<(l0.length:Int)
    ·
     rw [if_pos c4] at H;have c4b0:decide (x13_1<(l0.length:Int))=true:=Qb c4;clear c4;by_cases c5:0≤x13_1
     ·
      rw [if_pos c5] at H;have c5b0:decide (0≤x13_1)=true:=Qb c5;clear c5;by_cases c6:x13_1<(l0.length:Int)
      ·
       rw [if_pos c6] at H;have c6b0:decide (x13_1<(l0.length:Int))=true:=Qb c6;clear c6;by_cases c7:x13_1<(l1.length:Int)
       ·
        rw [if_pos c7] at H;have c7b0:decide (x13_1<(l1.length:Int))=true:=Qb c7;clear c7;by_cases c8:(rdOf ByteArray.empty l0 x13_1).toList=(rdOf ByteArray.empty l1 x13_1).toList
        ·
         rw [if_pos c8] at H;have c8b0:((rdOf ByteArray.empty l0 x13_1).toList == (rdOf ByteArray.empty l1 x13_1).toList)=true:=Qh c8;have c8b1:((rdOf ByteArray.empty l0 x13_1).toList != (rdOf ByteArray.empty l1 x13_1).toList)=false:=Qf c8;clear c8;have H':=am H;clear H;have p101:0≤(x13_1:Int):=Qo;have q101:x13_1<(l0.length:Int):=Qo;obtain⟨ad101,e101,hx101_0⟩:=Kd.at_string HR0.out x13_1 p101 q101;cases e101;replace p101:=eq_true p101;replace q101:=eq_true q101;have p102:0≤(x13_1:Int):=Qo;have q102:x13_1<(l1.length:Int):=Qo;obtain⟨ad102,e102,hx102_0⟩:=Kd.at_string HR1.out x13_1 p102 q102;cases e102;replace p102:=eq_true p102;replace q102:=eq_true q102;go_wp2;repeat (go_quiet (fail);try go_wp2)
         go_roundg k1
         case measure=>have:=HK1.out;omega
         case rel=>exact ⟨(wrap64 (x13_1+1)),(ze),H',⟨by have:=HK1.out;omega⟩,zd⟩
        rw [if_neg c8] at H;have c8b0:((rdOf ByteArray.empty l0 x13_1).toList == (rdOf ByteArray.empty l1 x13_1).toList)=false:=Qg c8;have c8b1:((rdOf ByteArray.empty l0 x13_1).toList != (rdOf ByteArray.empty l1 x13_1).toList)=true:=Qi c8;obtain rfl:=Qd H;have p101:0≤(x13_1:Int):=Qo;have q101:x13_1<(l0.length:Int):=Qo;obtain⟨ad101,e101,hx101_0⟩:=Kd.at_string HR0.out x13_1 p101 q101;cases e101;replace p101:=eq_true p101;replace q101:=eq_true q101;have p102:0≤(x13_1:Int):=Qo;have q102:x13_1<(l1.length:Int):=Qo;obtain⟨ad102,e102,hx102_0⟩:=Kd.at_string HR1.out x13_1 p102 q102;cases e102;replace p102:=eq_true p102;replace q102:=eq_true q102;go_wp2;repeat (go_quiet (fail);try go_wp2)
        go_ret;exact⟨ze,zd⟩
       rw [if_neg c7] at H;exact absurd H (by simp)
      rw [if_neg c6] at H;exact absurd H (by simp)
     rw [if_neg c5] at H;exact absurd H (by simp)
    rw [if_neg c4] at H;have c4b0:decide (x13_1<(l0.length:Int))=false:=Qc c4;clear c4;obtain rfl:=Qd H;go_wp2;repeat (go_quiet (fail);try go_wp2)
    go_ret;exact⟨ze,zd⟩
 rw [if_neg c3] at H;have c3b0:((l0.length:Int) == (l1.length:Int))=false:=Qg c3;have c3b1:((l0.length:Int) != (l1.length:Int))=true:=Qi c3;have c3b2:(l0.length == l1.length)=false:=by first|simpa using c3|(simp at c3 ⊢;omega)
 obtain rfl:=Qd H;go_enter Tryz.func113,Tryz.ntmps113;go_wp2;repeat (go_quiet (fail);try go_wp2)
 go_ret;exact⟨ze,zd⟩
attribute [local go_sem high] eqA93
def api_Cond_231.l0:Nat→List (S93)→List (S93)→Int→Int→Option (Bool)
  | 0, _, _, _, _ => none
  | k+1,x0,x1,x12,x13=>if x13<x12 then (if 0≤x13 then (if x13<(x0.length:Int) then (if x13<(x1.length:Int) then (if (!((((rd_T93 x0 x13).f0).toList) == (((rd_T93 x1 x13).f0).toList))||(!((((rd_T93 x0 x13).f1).toList) == (((rd_T93 x1 x13).f1).toList))||(!(((rd_T93 x0 x13).f2) == ((rd_T93 x1 x13).f2)))))=true then (some false) else (api_Cond_231.l0 k x0 x1 x12 (wrap64 (x13+1)))) else (none)) else (none)) else (none)) else (some true)
def api_Cond_231.f(k:Nat)(l0:List (S93))(l1:List (S93)):Option (Bool):=if (l0.length:Int)=(l1.length:Int) then (api_Cond_231.l0 k l0 l1 (l0.length:Int) 0) else (some false)
theorem api_Cond_231.mono_l:∀ k,(∀ y0 y1 y2 y3,LeO (api_Cond_231.l0 k y0 y1 y2 y3) (api_Cond_231.l0 (k+1) y0 y1 y2 y3))
  | 0 => fun _ _ _ _ r h => by simp [api_Cond_231.l0] at h
  | k + 1 => by
    have ih0:=api_Cond_231.mono_l k;intro y0 y1 y2 y3;unfold api_Cond_231.l0
    repeat' first
    | (with_reducible exact ih0 _ _ _ _)
    | (with_reducible exact LeO.refl _)
    | (with_reducible exact LeO.none _)
    | (with_reducible refine LeO.ite ?_ ?_)
    | (with_reducible refine LeO.bind ?_ (fun _ => ?_))
    | exact ih0 _ _ _ _
    | exact LeO.none _
    | refine LeO.ite ?_ ?_
    | refine LeO.bind ?_ (fun _=>?_)
theorem api_Cond_231.mono:∀ a0 a1 k,LeO (api_Cond_231.f k a0 a1) (api_Cond_231.f (k+1) a0 a1):=by
  intro a0 a1 k;have ih0:=api_Cond_231.mono_l k;unfold api_Cond_231.f
  repeat' first
      | (with_reducible exact ih0 _ _ _ _)
      | (with_reducible exact LeO.refl _)
      | (with_reducible exact LeO.none _)
      | (with_reducible refine LeO.ite ?_ ?_)
      | (with_reducible refine LeO.bind ?_ (fun _ => ?_))
      | exact ih0 _ _ _ _
      | exact LeO.none _
      | refine LeO.ite ?_ ?_
      | refine LeO.bind ?_ (fun _=>?_)
theorem api_Cond_231.calls(k : Nat)(A0 : Option Addr)(c0 : Nat)(l0 : List (S93))(A1 : Option Addr)(c1 : Nat)(l1 : List (S93))(r : Bool)(w : World)(hr0 : Kd.C k93 w A0 l0.length l0)(hc0 : l0.length ≤ c0)(hr1 : Kd.C k93 w A1 l1.length l1)(hc1 : l1.length ≤ c1)(h : api_Cond_231.f k l0 l1 = some r) :
  Calls Tryz.prog 231 #[.slice A0 l0.length c0,.slice A1 l1.length c1] w fun e w'=>e = .returned (.bool r)∧Drawn0 w w':=by
 have hu93:=Tryz.underlying93;have HR0:=am hr0;have HC0:=am hc0;clear hr0 hc0;have HR1:=am hr1;have HC1:=am hc1;clear hr1 hc1;have H:(if (l0.length:Int)=(l1.length:Int) then (api_Cond_231.l0 k l0 l1 (l0.length:Int) 0) else (some false))=some r:=h;clear h;by_cases c3:(l0.length:Int)=(l1.length:Int)
 ·
  rw [if_pos c3] at H;have c3b0:((l0.length:Int) == (l1.length:Int))=true:=Qh c3;have c3b1:((l0.length:Int) != (l1.length:Int))=false:=Qf c3;have c3b2:(l0.length == l1.length)=true:=by first|simpa using c3|(simp at c3 ⊢;omega)
  clear c3;have H':=am H;clear H;go_enter Tryz.func231,Tryz.ntmps231;go_wp2;repeat (go_quiet (fail);try go_wp2)
  go_loopg [13] k (fun kq v13 w' => ∃ (x13_1:Int),v13 = .int .i64 x13_1∧Aside0 (api_Cond_231.l0 kq l0 l1 (l0.length:Int) x13_1=some r)∧Aside0 (kq≤k)∧Drawn0 w w')
  case atStart=>exact ⟨(0),(ze),H',⟨Nat.le_refl _⟩,zd⟩
  case round =>
   clear H';try clear c1
   try clear c3
   try clear c3b0
   try clear c3b1
   try clear c3b2
   obtain⟨x13_1,rfl,HA,HK1,⟨m1,rfl⟩⟩:=hrel
   cases gk with
   | zero => exact absurd HA.out (by simp [api_Cond_231.l0])
   | succ k1 =>
    have H:=HA.out;clear HA;simp only [api_Cond_231.l0] at H;by_cases c4:x13_1<(l0.length:Int)
    ·
     rw [if_pos c4] at H;have c4b0:decide (x13_1<(l0.length:Int))=true:=Qb c4;clear c4;by_cases c5:0≤x13_1
     ·
      rw [if_pos c5] at H;have c5b0:decide (0≤x13_1)=true:=Qb c5;clear c5;by_cases c6:x13_1<(l0.length:Int)
      ·
       rw [if_pos c6] at H;have c6b0:decide (x13_1<(l0.length:Int))=true:=Qb c6;clear c6;by_cases c7:x13_1<(l1.length:Int)
       ·
        rw [if_pos c7] at H;have c7b0:decide (x13_1<(l1.length:Int))=true:=Qb c7;clear c7;by_cases c8:(!((((rd_T93 l0 x13_1).f0).toList) == (((rd_T93 l1 x13_1).f0).toList))||(!((((rd_T93 l0 x13_1).f1).toList) == (((rd_T93 l1 x13_1).f1).toList))||(!(((rd_T93 l0 x13_1).f2) == ((rd_T93 l1 x13_1).f2)))))=true
        ·
         rw [if_pos c8] at H;have c8b0:(!((((rd_T93 l0 x13_1).f0).toList) == (((rd_T93 l1 x13_1).f0).toList))||(!((((rd_T93 l0 x13_1).f1).toList) == (((rd_T93 l1 x13_1).f1).toList))||(!(((rd_T93 l0 x13_1).f2) == ((rd_T93 l1 x13_1).f2)))))=true:=c8;clear c8;obtain rfl:=Qd H;have p101:0≤(x13_1:Int):=Qo;have q101:x13_1<(l0.length:Int):=Qo;obtain⟨ad101,e101,hx101_0,hx101_1,hx101_2⟩:=at_T93 HR0.out x13_1 p101 q101;cases e101;replace p101:=eq_true p101;replace q101:=eq_true q101;have p102:0≤(x13_1:Int):=Qo;have q102:x13_1<(l1.length:Int):=Qo;obtain⟨ad102,e102,hx102_0,hx102_1,hx102_2⟩:=at_T93 HR1.out x13_1 p102 q102;cases e102;replace p102:=eq_true p102;replace q102:=eq_true q102;go_wp2;repeat (go_quiet (fail);try go_wp2)
         go_ret;exact⟨ze,zd⟩
        rw [if_neg c8] at H;have c8b0:(!((((rd_T93 l0 x13_1).f0).toList) == (((rd_T93 l1 x13_1).f0).toList))||(!((((rd_T93 l0 x13_1).f1).toList) == (((rd_T93 l1 x13_1).f1).toList))||(!(((rd_T93 l0 x13_1).f2) == ((rd_T93 l1 x13_1).f2)))))=false:=by simpa using c8
        clear c8;have H':=am H;clear H;have p101:0≤(x13_1:Int):=Qo;have q101:x13_1<(l0.length:Int):=Qo;obtain⟨ad101,e101,hx101_0,hx101_1,hx101_2⟩:=at_T93 HR0.out x13_1 p101 q101;cases e101;replace p101:=eq_true p101;replace q101:=eq_true q101;have p102:0≤(x13_1:Int):=Qo;have q102:x13_1<(l1.length:Int):=Qo;obtain⟨ad102,e102,hx102_0,hx102_1,hx102_2⟩:=at_T93 HR1.out x13_1 p102 q102;cases e102;replace p102:=eq_true p102;replace q102:=eq_true q102;go_wp2;repeat (go_quiet (fail);try go_wp2)
        go_roundg k1
        case measure=>have:=HK1.out;omega
        case rel=>exact ⟨(wrap64 (x13_1+1)),(ze),H',⟨by have:=HK1.out;omega⟩,zd⟩
       rw [if_neg c7] at H;exact absurd H (by simp)
      rw [if_neg c6] at H;exact absurd H (by simp)
     rw [if_neg c5] at H;exact absurd H (by simp)
    rw [if_neg c4] at H;have c4b0:decide (x13_1<(l0.length:Int))=false:=Qc c4;clear c4;obtain rfl:=Qd H;go_wp2;repeat (go_quiet (fail);try go_wp2)
    go_ret;exact⟨ze,zd⟩
 rw [if_neg c3] at H;have c3b0:((l0.length:Int) == (l1.length:Int))=false:=Qg c3;have c3b1:((l0.length:Int) != (l1.length:Int))=true:=Qi c3;have c3b2:(l0.length == l1.length)=false:=by first|simpa using c3|(simp at c3 ⊢;omega)
 obtain rfl:=Qd H;go_enter Tryz.func231,Tryz.ntmps231;go_wp2;repeat (go_quiet (fail);try go_wp2)
 go_ret;exact⟨ze,zd⟩
end Go.Proofs.YtpbembafpnknhaaGreat.Pr
namespace Go.Proofs.YtpbembafpnknhaaGreat.Pr
open Go.RowKit Go.Proofs.YtpbembafpnknhaaGreatW.PrintWords Go.Proofs.YtpbembafpnknhaaGreatW.PrintLast Go.Proofs.YtpbembafpnknhaaGreatW.PrintMore
attribute [local go_sem] max2_int min2_int max_two min_two max_three min_three max_four min_four
def sentryref4_SameTexts.l0:Nat→List ByteArray→List ByteArray→Int→Option (Bool)
  | 0, _, _, _ => none
  | k+1,x0,x1,x5=>if x5<(x0.length:Int) then (if 0≤x5 then (if x5<(x1.length:Int) then (if (rdOf ByteArray.empty x0 x5).toList=(rdOf ByteArray.empty x1 x5).toList then (sentryref4_SameTexts.l0 k x0 x1 (wrap64 (x5+1))) else (some false)) else (none)) else (none)) else (some true)
def sentryref4_SameTexts.f(k:Nat)(l0:List ByteArray)(l1:List ByteArray):Option (Bool):=if (l0.length:Int)=(l1.length:Int) then (sentryref4_SameTexts.l0 k l0 l1 0) else (some false)
theorem sentryref4_SameTexts.calls(k : Nat)(A0 : Option Addr)(c0 : Nat)(l0 : List ByteArray)(A1 : Option Addr)(c1 : Nat)(l1 : List ByteArray)(r : Bool)(w : World)(hr0 : Kd.C Kd.string w A0 l0.length l0)(hc0 : l0.length ≤ c0)(hr1 : Kd.C Kd.string w A1 l1.length l1)(hc1 : l1.length ≤ c1)(h : sentryref4_SameTexts.f k l0 l1 = some r) :
  Calls Tryz.prog 76 #[.slice A0 l0.length c0,.slice A1 l1.length c1] w fun e w'=>e = .returned (.bool r)∧Drawn0 w w':=by
 have HR0:=am hr0;have HC0:=am hc0;clear hr0 hc0;have HR1:=am hr1;have HC1:=am hc1;clear hr1 hc1;have H:(if (l0.length:Int)=(l1.length:Int) then (sentryref4_SameTexts.l0 k l0 l1 0) else (some false))=some r:=h;clear h;by_cases c3:(l0.length:Int)=(l1.length:Int)
 ·
  rw [if_pos c3] at H;have c3b0:((l0.length:Int) == (l1.length:Int))=true:=Qh c3;have c3b1:((l0.length:Int) != (l1.length:Int))=false:=Qf c3;have c3b2:(l0.length == l1.length)=true:=by first|simpa using c3|(simp at c3 ⊢;omega)
  clear c3;have H':=am H;clear H;go_enter Tryz.func76,Tryz.ntmps76;go_wp2;repeat (go_quiet (fail);try go_wp2)
  go_loopg [5] k (fun kq v5 w' => ∃ (x5_1:Int),v5 = .int .i64 x5_1∧Aside0 (sentryref4_SameTexts.l0 kq l0 l1 x5_1=some r)∧Aside0 (kq≤k)∧Drawn0 w w')
  case atStart=>exact ⟨(0),(ze),H',⟨Nat.le_refl _⟩,zd⟩
  case round =>
   clear H';try clear c1
   try clear c3
   try clear c3b0
   try clear c3b1
   try clear c3b2
   obtain⟨x5_1,rfl,HA,HK1,⟨m1,rfl⟩⟩:=hrel
   cases gk with
   | zero => exact absurd HA.out (by simp [sentryref4_SameTexts.l0])
   | succ k1 =>
    have H:=HA.out;clear HA;simp only [sentryref4_SameTexts.l0] at H;by_cases c4:x5_1<(l0.length:Int)
    ·
     rw [if_pos c4] at H;have c4b0:decide (x5_1<(l0.length:Int))=true:=Qb c4;clear c4;by_cases c5:0≤x5_1
     ·
      rw [if_pos c5] at H;have c5b0:decide (0≤x5_1)=true:=Qb c5;clear c5;by_cases c6:x5_1<(l1.length:Int)
      ·
       rw [if_pos c6] at H;have c6b0:decide (x5_1<(l1.length:Int))=true:=Qb c6;clear c6;by_cases c7:(rdOf ByteArray.empty l0 x5_1).toList=(rdOf ByteArray.empty l1 x5_1).toList
       ·
        rw [if_pos c7] at H;have c7b0:((rdOf ByteArray.empty l0 x5_1).toList == (rdOf ByteArray.empty l1 x5_1).toList)=true:=Qh c7;have c7b1:((rdOf ByteArray.empty l0 x5_1).toList != (rdOf ByteArray.empty l1 x5_1).toList)=false:=Qf c7;clear c7;have H':=am H;clear H;have p101:0≤(x5_1:Int):=Qo;have q101:x5_1<(l0.length:Int):=Qo;obtain⟨ad101,e101,hx101_0⟩:=Kd.at_string HR0.out x5_1 p101 q101;cases e101;replace p101:=eq_true p101;replace q101:=eq_true q101;have p102:0≤(x5_1:Int):=Qo;have q102:x5_1<(l1.length:Int):=Qo;obtain⟨ad102,e102,hx102_0⟩:=Kd.at_string HR1.out x5_1 p102 q102;cases e102;replace p102:=eq_true p102;replace q102:=eq_true q102;go_wp2;repeat (go_quiet (fail);try go_wp2)
        go_roundg k1
        case measure=>have:=HK1.out;omega
        case rel=>exact ⟨(wrap64 (x5_1+1)),(ze),H',⟨by have:=HK1.out;omega⟩,zd⟩
       rw [if_neg c7] at H;have c7b0:((rdOf ByteArray.empty l0 x5_1).toList == (rdOf ByteArray.empty l1 x5_1).toList)=false:=Qg c7;have c7b1:((rdOf ByteArray.empty l0 x5_1).toList != (rdOf ByteArray.empty l1 x5_1).toList)=true:=Qi c7;obtain rfl:=Qd H;have p101:0≤(x5_1:Int):=Qo;have q101:x5_1<(l0.length:Int):=Qo;obtain⟨ad101,e101,hx101_0⟩:=Kd.at_string HR0.out x5_1 p101 q101;cases e101;replace p101:=eq_true p101;replace q101:=eq_true q101;have p102:0≤(x5_1:Int):=Qo;have q102:x5_1<(l1.length:Int):=Qo;obtain⟨ad102,e102,hx102_0⟩:=Kd.at_string HR1.out x5_1 p102 q102;cases e102;replace p102:=eq_true p102;replace q102:=eq_true q102;go_wp2;repeat (go_quiet (fail);try go_wp2)
       go_ret;exact⟨ze,zd⟩
      rw [if_neg c6] at H;exact absurd H (by simp)
     rw [if_neg c5] at H;exact absurd H (by simp)
    rw [if_neg c4] at H;have c4b0:decide (x5_1<(l0.length:Int))=false:=Qc c4;clear c4;obtain rfl:=Qd H;go_wp2;repeat (go_quiet (fail);try go_wp2)
    go_ret;exact⟨ze,zd⟩
 rw [if_neg c3] at H;have c3b0:((l0.length:Int) == (l1.length:Int))=false:=Qg c3;have c3b1:((l0.length:Int) != (l1.length:Int))=true:=Qi c3;have c3b2:(l0.length == l1.length)=false:=by first|simpa using c3|(simp at c3 ⊢;omega)
 obtain rfl:=Qd H;go_enter Tryz.func76,Tryz.ntmps76;go_wp2;repeat (go_quiet (fail);try go_wp2)
 go_ret;exact⟨ze,zd⟩
end Go.Proofs.YtpbembafpnknhaaGreat.Pr
