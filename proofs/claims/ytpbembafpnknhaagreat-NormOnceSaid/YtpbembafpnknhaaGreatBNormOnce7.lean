/- Proof texts of one seat,in one file: the walks of functions and the lemmas under them,printed by programs and typed by hand. Put together by wip/bundle.py. -/
import Derived.Test.YtpbembafpnknhaaGreatRows
import Derived.Test.YtpbembafpnknhaaGreatBNormOnce0
import Derived.Test.YtpbembafpnknhaaGreatBNormOnce1
import Derived.Test.YtpbembafpnknhaaGreatBNormOnce3
import Derived.Test.YtpbembafpnknhaaGreatBNormOnce4
set_option maxHeartbeats 8000000
set_option maxRecDepth 100000
set_option linter.unusedVariables false
set_option linter.unusedSimpArgs false
set_option linter.unusedSectionVars false
namespace Go.Proofs.YtpbembafpnknhaaGreat.Pr
open Go.RowKit Go.Proofs.YtpbembafpnknhaaGreatW.PrintWords Go.Proofs.YtpbembafpnknhaaGreatW.PrintLast Go.Proofs.YtpbembafpnknhaaGreatW.PrintMore
attribute [local go_sem] max2_int min2_int max_two min_two max_three min_three max_four min_four
attribute [local go_sem high] eqA78
mutual
def sentryref4_sentry.j0:Nat→Bool→List ByteArray→List (S47)→List (S78)→List (S93)→Option (Bool)
  | 0, _, _, _, _, _ => none
  | k+1,x29,x102000,x102001,x103000,x103001=>if x29=true then (some false) else (sentryref4_sentry.l0 k 0 x102000 x102001 x103000 x103001)
def sentryref4_sentry.l0:Nat→Int→List ByteArray→List (S47)→List (S78)→List (S93)→Option (Bool)
  | 0, _, _, _, _, _ => none
  | k+1,x5,x102000,x102001,x103000,x103001=>if x5<(x103000.length:Int) then (if 0≤x5 then ((sentryref4_Place.f k x102000 x102001 ((rd_T78 x103000 x5).f0)).bind fun t104=>(if t104<0 then (sentryref4_sentry.j2 k x5 true x102000 x102001 x103000 x103001) else (if 0≤t104 then (if t104<(x102001.length:Int) then ((sentryref4_Legal.f k ((rd_T47 x102001 t104).f1) ((rd_T78 x103000 x5).f1)).bind fun t107=>(sentryref4_sentry.j2 k x5 (!t107) x102000 x102001 x103000 x103001)) else (none)) else (none)))) else (none)) else (sentryref4_sentry.l2 k 0 x102000 x102001 x103000 x103001)
def sentryref4_sentry.j2:Nat→Int→Bool→List ByteArray→List (S47)→List (S78)→List (S93)→Option (Bool)
  | 0, _, _, _, _, _, _ => none
  | k+1,x5,x62,x102000,x102001,x103000,x103001=>if x62=true then (some false) else (sentryref4_sentry.l1 k x5 0 x102000 x102001 x103000 x103001)
def sentryref4_sentry.l1:Nat→Int→Int→List ByteArray→List (S47)→List (S78)→List (S93)→Option (Bool)
  | 0, _, _, _, _, _, _ => none
  | k+1,x5,x7,x102000,x102001,x103000,x103001=>if x7<x5 then (if 0≤x7 then (if x7<(x103000.length:Int) then (if 0≤x5 then (if x5<(x103000.length:Int) then (if ((((rd_T78 x103000 x7).f0).toList) == (((rd_T78 x103000 x5).f0).toList)&&(((rd_T78 x103000 x7).f1) == ((rd_T78 x103000 x5).f1)))=true then (some false) else (sentryref4_sentry.l1 k x5 (wrap64 (x7+1)) x102000 x102001 x103000 x103001)) else (none)) else (none)) else (none)) else (none)) else (sentryref4_sentry.l0 k (wrap64 (x5+1)) x102000 x102001 x103000 x103001)
def sentryref4_sentry.l2:Nat→Int→List ByteArray→List (S47)→List (S78)→List (S93)→Option (Bool)
  | 0, _, _, _, _, _ => none
  | k+1,x8,x102000,x102001,x103000,x103001=>if x8<(x103001.length:Int) then (if 0≤x8 then ((sentryref4_File.f k x102000 ((rd_T93 x103001 x8).f0)).bind fun t112=>(if t112=true then ((sentryref4_Op.f k ((rd_T93 x103001 x8).f1)).bind fun t113=>(if t113<0 then (some false) else (if ((rd_T93 x103001 x8).f2)<(-1000000) then (some false) else (if ((rd_T93 x103001 x8).f2)>1000000 then (some false) else (sentryref4_sentry.l2 k (wrap64 (x8+1)) x102000 x102001 x103000 x103001))))) else (some false))) else (none)) else (some true)
end
def sentryref4_sentry.f(k:Nat)(l0_0:List ByteArray)(l0_1:List (S47))(l1_0:List (S78))(l1_1:List (S93)):Option (Bool):=if (l1_0.length:Int)>3 then (sentryref4_sentry.j0 k true l0_0 l0_1 l1_0 l1_1) else (if (l1_1.length:Int)>2 then (sentryref4_sentry.j0 k true l0_0 l0_1 l1_0 l1_1) else (sentryref4_sentry.j0 k ((wrap64 ((l1_0.length:Int)+(l1_1.length:Int))) == 0) l0_0 l0_1 l1_0 l1_1))
def sentryref4_sentry.T6:Bool × List (List Nat × List Nat):=(true,[([],[]),([],[]),([1],[1]),([],[]),([2,3],[2,3]),([4],[4]),([5],[5]),([0,6],[0,6]),([7,7,0,1,2,3,4,5,6,7],[7])])
def sentryref4_sentry.B6:List Nat:=[0,0,2,0,14,30,62,127,255]
theorem sentryref4_sentry.tab6:rtab .any (opsOf Tryz.f123 6)=sentryref4_sentry.T6:=by kernel_rfl
theorem sentryref4_sentry.bits6:waitsOk sentryref4_sentry.T6.2 sentryref4_sentry.B6=true:=by kernel_rfl
def sentryref4_sentry.T7:Bool × List (List Nat × List Nat):=(true,[([],[]),([0],[0]),([1],[1]),([2],[2]),([3,2],[2,3]),([2],[2]),([4,5,2],[2,4,5]),([6,2],[2,6]),([7,2],[2,7]),([2],[2]),([9,2],[2,9]),([2],[2]),([10,11,2],[2,10,11]),([12,2],[2,12]),([13,2],[2,13]),([8,14,2,2],[2,8,14]),([15,2],[2,15]),([2,16],[2,16])])
def sentryref4_sentry.B7:List Nat:=[0,1,3,7,15,7,63,127,255,7,519,7,3591,7687,15879,32767,65535,131071]
theorem sentryref4_sentry.tab7:rtab .any (opsOf Tryz.f123 7)=sentryref4_sentry.T7:=by kernel_rfl
theorem sentryref4_sentry.bits7:waitsOk sentryref4_sentry.T7.2 sentryref4_sentry.B7=true:=by kernel_rfl
def sentryref4_sentry.T12:Bool × List (List Nat × List Nat):=(true,[([],[]),([0],[0]),([],[]),([1,2],[1,2]),([3],[3]),([],[]),([5],[5]),([],[]),([6,7],[6,7]),([8],[8]),([4,9],[4,9])])
def sentryref4_sentry.B12:List Nat:=[0,1,0,7,15,0,32,0,224,480,1023]
theorem sentryref4_sentry.tab12:rtab .any (opsOf Tryz.f123 12)=sentryref4_sentry.T12:=by kernel_rfl
theorem sentryref4_sentry.bits12:waitsOk sentryref4_sentry.T12.2 sentryref4_sentry.B12=true:=by kernel_rfl
theorem sentryref4_sentry.calls(k : Nat)(A0_0 : Option Addr)(c0_0 : Nat)(l0_0 : List ByteArray)(A0_1 : Option Addr)(c0_1 : Nat)(l0_1 : List (S47))(A1_0 : Option Addr)(c1_0 : Nat)(l1_0 : List (S78))(A1_1 : Option Addr)(c1_1 : Nat)(l1_1 : List (S93))(r : Bool)(w : World)(hr0_0 : Kd.C Kd.string w A0_0 l0_0.length l0_0)(hc0_0 : l0_0.length ≤ c0_0)(hr0_1 : Kd.C k47 w A0_1 l0_1.length l0_1)(hc0_1 : l0_1.length ≤ c0_1)(hr1_0 : Kd.C k78 w A1_0 l1_0.length l1_0)(hc1_0 : l1_0.length ≤ c1_0)(hr1_1 : Kd.C k93 w A1_1 l1_1.length l1_1)(hc1_1 : l1_1.length ≤ c1_1)(h : sentryref4_sentry.f k l0_0 l0_1 l1_0 l1_1 = some r) :
  Calls Tryz.prog 123 #[.agg #[.slice A0_0 l0_0.length c0_0,.slice A0_1 l0_1.length c0_1],.agg #[.slice A1_0 l1_0.length c1_0,.slice A1_1 l1_1.length c1_1]] w fun e w'=>e = .returned (.bool r)∧Below w.heap.size w w':=by
 have hu25:=Tryz.underlying25;have hu29:=Tryz.underlying29;have hu78:=Tryz.underlying78;have hu93:=Tryz.underlying93;have HR0_0:=am hr0_0;have HC0_0:=am hc0_0;clear hr0_0 hc0_0;have HR0_1:=am hr0_1;have HC0_1:=am hc0_1;clear hr0_1 hc0_1;have HR1_0:=am hr1_0;have HC1_0:=am hc1_0;clear hr1_0 hc1_0;have HR1_1:=am hr1_1;have HC1_1:=am hc1_1;clear hr1_1 hc1_1;have HB:=am (Below.refl w.heap.size w);have H:(if (l1_0.length:Int)>3 then (sentryref4_sentry.j0 k true l0_0 l0_1 l1_0 l1_1) else (if (l1_1.length:Int)>2 then (sentryref4_sentry.j0 k true l0_0 l0_1 l1_0 l1_1) else (sentryref4_sentry.j0 k ((wrap64 ((l1_0.length:Int)+(l1_1.length:Int))) == 0) l0_0 l0_1 l1_0 l1_1)))=some r:=h;clear h;have HC3:=am H;clear H;go_enter Tryz.func123,Tryz.ntmps123;go_upto_region 1 with (first|((with_reducible refine gd_ 2 ?_);(try (refine gate_guard (by rfl) ?_;dsimp only));refine bx_ 2 #[.slice A0_0 l0_0.length c0_0,.slice A0_1 l0_1.length c0_1] 25 ?_;intro gb101 hg w4 hbox hb;have BK101:=am (hbox);have GE101:=am (zg:w.heap.size≤gb101);replace HB:=am (below_step (zb) hb);clear hb hbox hg)|((with_reducible refine gd_ 3 ?_);(try (refine gate_guard (by rfl) ?_;dsimp only));refine bx_ 3 #[.slice A1_0 l1_0.length c1_0,.slice A1_1 l1_1.length c1_1] 29 ?_;intro gb102 hg w5 hbox hb;have BK102:=am (hbox);have GE102:=am (zg:w.heap.size≤gb102);replace HB:=am (below_step (zb) hb);have NB101_102:=am ((zn BK101.out:gb101≠gb102));have NB102_101:=am ((zm BK101.out:gb102≠gb101));replace BK101:=am (zw BK101.out hb);clear hb hbox hg))
 (try simp only [Act.put,List.setIfInBounds_toArray,List.set_cons_zero,List.set_cons_succ])
 go_cut [29] (fun v29 wc => ∃ (kq:Nat) (x29_2:Bool),v29 = .bool x29_2∧Aside0 (sentryref4_sentry.j0 kq x29_2 l0_0 l0_1 l1_0 l1_1=some r)∧Aside0 (kq≤k)∧Aside0 (wc.heap[gb101]? = some (.cells #[(.slice A0_0 l0_0.length c0_0),(.slice A0_1 l0_1.length c0_1)] 25 (0,0)))∧Aside0 (wc.heap[gb102]? = some (.cells #[(.slice A1_0 l1_0.length c1_0),(.slice A1_1 l1_1.length c1_1)] 29 (0,0)))∧Aside0 (Below w.heap.size w wc))
 case first =>
  have H:=HC3.out;clear HC3;by_cases c6:(l1_0.length:Int)>3
  ·
   rw [if_pos c6] at H;have c6b0:decide (3<(l1_0.length:Int))=true:=Qb c6;have c6b1:decide (3<l1_0.length)=true:=Qb (by omega);clear c6
   (first|rw [c6b0] | (simp only [i64_w,i32_w];rw [c6b0])|skip)
   have H':=am H;clear H;have hnb7:=NB102_101.out;have hnc7:=NB101_102.out;obtain⟨hcz8_0,hcz8_1,hfz8_0,hfz8_1⟩:=cf2 BK102.out;go_wp2;go_meet
   case rel=>exact ⟨_,(true),(ze),H',⟨by first|omega|exact Nat.le_refl _⟩,⟨zl BK101.out⟩,⟨zl BK102.out⟩,⟨zb⟩⟩
  rw [if_neg c6] at H;have c6b0:decide (3<(l1_0.length:Int))=false:=Qc c6;have c6b1:decide (3<l1_0.length)=false:=Qc (by omega);clear c6
  (first|rw [c6b0] | (simp only [i64_w,i32_w];rw [c6b0])|skip)
  by_cases c9:(l1_1.length:Int)>2
  ·
   rw [if_pos c9] at H;have c9b0:decide (2<(l1_1.length:Int))=true:=Qb c9;have c9b1:decide (2<l1_1.length)=true:=Qb (by omega);clear c9;have H':=am H;clear H;have hnb10:=NB102_101.out;have hnc10:=NB101_102.out;obtain⟨hcz11_0,hcz11_1,hfz11_0,hfz11_1⟩:=cf2 BK102.out;go_wp2;go_meet
   case rel=>exact ⟨_,(true),(ze),H',⟨by first|omega|exact Nat.le_refl _⟩,⟨zl BK101.out⟩,⟨zl BK102.out⟩,⟨zb⟩⟩
  rw [if_neg c9] at H;have c9b0:decide (2<(l1_1.length:Int))=false:=Qc c9;have c9b1:decide (2<l1_1.length)=false:=Qc (by omega);clear c9;have H':=am H;clear H;have hnb12:=NB102_101.out;have hnc12:=NB101_102.out;obtain⟨hcz13_0,hcz13_1,hfz13_0,hfz13_1⟩:=cf2 BK102.out;go_wp2;go_meet
  case rel=>exact ⟨_,(((wrap64 ((l1_0.length:Int)+(l1_1.length:Int))) == 0)),(ze),H',⟨by first|omega|exact Nat.le_refl _⟩,⟨zl BK101.out⟩,⟨zl BK102.out⟩,⟨zb⟩⟩
 case rest =>
  clear HC3;obtain⟨kq,x29_2,rfl,HA,HJ2,BK101,BK102,HB⟩:=hcut
  cases kq with
  | zero => exact absurd HA.out (by simp [sentryref4_sentry.j0])
  | succ kj2 =>
   have H:=HA.out;clear HA;simp only [sentryref4_sentry.j0] at H;by_cases c14:x29_2=true
   ·
    subst c14;have H1:(some false)=some r:=by rw [if_pos rfl] at H;exact H
    clear H;have H:=H1;clear H1;obtain rfl:=Qd H;go_wp2;go_ret;exact⟨zf,zb⟩
   replace c14:=Qj c14;subst c14;have H1:(sentryref4_sentry.l0 kj2 0 l0_0 l0_1 l1_0 l1_1)=some r:=by rw [if_neg (show ¬ (false=true) by decide)] at H;exact H
   clear H;have H:=H1;clear H1;have H':=am H;clear H;go_wp2;go_loopg [5] kj2 (fun kq v5 w' => ∃ (x5_2:Int),v5 = .int .i64 x5_2∧Aside0 (sentryref4_sentry.l0 kq x5_2 l0_0 l0_1 l1_0 l1_1=some r)∧Aside0 (kq≤kj2)∧Aside0 (w'.heap[gb101]? = some (.cells #[(.slice A0_0 l0_0.length c0_0),(.slice A0_1 l0_1.length c0_1)] 25 (0,0)))∧Aside0 (w'.heap[gb102]? = some (.cells #[(.slice A1_0 l1_0.length c1_0),(.slice A1_1 l1_1.length c1_1)] 29 (0,0)))∧Aside0 (Below w.heap.size w w'))
   case atStart=>exact ⟨(0),(ze),H',⟨Nat.le_refl _⟩,⟨zl BK101.out⟩,⟨zl BK102.out⟩,⟨zb⟩⟩
   case round =>
    clear H';obtain⟨x5_2,rfl,HA,HK2,BK101,BK102,HB⟩:=hrel
    cases gk with
    | zero => exact absurd HA.out (by simp [sentryref4_sentry.l0])
    | succ k2 =>
     have H:=HA.out;clear HA;simp only [sentryref4_sentry.l0] at H;by_cases c15:x5_2<(l1_0.length:Int)
     ·
      rw [if_pos c15] at H;have c15b0:=Qb c15;clear c15;by_cases c16:0≤x5_2
      ·
       rw [if_pos c16] at H;have c16b0:=Qb c16;clear c16;replace H:=Qe H;obtain⟨t104,A170,H⟩:=H;have A17:=am A170;clear A170;have HC18:=am H;clear H;have hnb19:=NB102_101.out;have hnc19:=NB101_102.out;obtain⟨hcz20_0,hcz20_1,hfz20_0,hfz20_1⟩:=cf2 BK102.out;try go_wp2
       replace BK101:=am (blk_drew BK101.out);replace BK102:=am (blk_drew BK102.out);replace HB:=am (below_drew1 HB.out);have p103:0≤(x5_2:Int):=Qo;have q103:x5_2<(l1_0.length:Int):=Qo;obtain⟨ad103,e103,hx103_0,hx103_1⟩:=at_T78 HR1_0.out x5_2 p103 q103;have hw103_1:=hx103_1;have hw103_0:=hx103_0;cases e103;replace hx103_0:=ba HB hx103_0;replace hx103_1:=ba HB hx103_1;replace p103:=eq_true p103;replace q103:=eq_true q103;refine start_ (n:=9) (S:=fun w'=>w'.cell? ⟨gb101,0,none⟩=some (.slice A0_0 l0_0.length c0_0)∧w'.cell? ⟨gb101,1,none⟩=some (.slice A0_1 l0_1.length c0_1)∧w'.cell? ⟨gb102,0,none⟩=some (.slice (some ad103) l1_0.length c1_0)∧w'.cell? ⟨gb102,1,none⟩=some (.slice A1_1 l1_1.length c1_1)∧w'.cell? (ad103.add ((x5_2).toNat * 2))=some (.string ((rd_T78 l1_0 x5_2).f0))∧w'.cell? ⟨(ad103.add ((x5_2).toNat * 2)).block,(ad103.add ((x5_2).toNat * 2)).off+1,none⟩=some (.int .i64 ((rd_T78 l1_0 x5_2).f1))) (ds:=[]) #[false,false,false,false,false,false,false,false,false] (by kernel_rfl) rfl rfl ⟨bc BK101 0,bc BK101 1,bc BK102 0,bc BK102 1,(bh HB hw103_0),(bh HB hw103_1)⟩ (fun hHeld=>?_);refine with_tabW sentryref4_sentry.tab6 sentryref4_sentry.bits6 (fun HT_ HW_=>?_);generalize wr.drew=w21 at BK101 BK102 HB hx103_0 hx103_1 hHeld ⊢;refine pz_ 1 38 9 2 ?_;refine pz_ 3 40 9 10 ?_;refine tz_ 0 37 9 11 ?_;refine tz_ 2 39 9 15 ?_;refine pz_ 4 41 9 31 ?_;refine pz_ 5 42 9 63 ?_;refine tz_ 6 43 9 127 ?_;refine oz_ 7 44 9 255 (fun K hK=>?_);refine goes_ Tryz.func45 (by kernel_rfl) rfl #[.agg #[.slice A0_0 l0_0.length c0_0,.slice A0_1 l0_1.length c0_1],.string ((rd_T78 l1_0 x5_2).f0)] (by rfl) rfl rfl (za) ?_;with_reducible refine (sentryref4_Place.calls k2 _ _ l0_0 _ _ l0_1 ((rd_T78 l1_0 x5_2).f0) t104 _ ?side1 ?side2 ?side3 ?side4 A17.out).mono ?_
       (case side1=>exact zc (Kd.C_below HR0_0.out HB.out))
       (case side2=>exact HC0_0.out)
       (case side3=>exact zc (Kd.C_below HR0_1.out HB.out))
       (case side4=>exact HC0_1.out)
       rintro e w22 ⟨rfl,hb⟩;refine⟨_,rfl,?_⟩;replace BK101:=am (zw BK101.out hb);replace BK102:=am (zw BK102.out hb);replace HB:=am (below_step (zb) hb)
       (try clear hb)
       (try clear hb2)
       (try clear hk)
       (try clear hi)
       refine hK.out _ _ ⟨bc BK101 0,bc BK101 1,bc BK102 0,bc BK102 1,(bh HB hw103_0),(bh HB hw103_1)⟩ (fun hHeld=>?_);clear hK K;refine nz_ 44 ?_;refine pz_ 8 6 9 511 ?_;refine done_ (done_of HT_.out (by kernel_rfl)) ?_;go_upto_region 7 with (fail)
       go_cut [62] (fun v62 wc => ∃ (kq:Nat) (x62_17:Bool),v62 = .bool x62_17∧Aside0 (sentryref4_sentry.j2 kq x5_2 x62_17 l0_0 l0_1 l1_0 l1_1=some r)∧Aside0 (kq≤k2)∧Aside0 (wc.heap[gb101]? = some (.cells #[(.slice A0_0 l0_0.length c0_0),(.slice A0_1 l0_1.length c0_1)] 25 (0,0)))∧Aside0 (wc.heap[gb102]? = some (.cells #[(.slice (some ad103) l1_0.length c1_0),(.slice A1_1 l1_1.length c1_1)] 29 (0,0)))∧Aside0 (Below w.heap.size w wc))
       case first =>
        have H:=HC18.out;clear HC18;by_cases c23:t104<0
        ·
         rw [if_pos c23] at H;have c23b0:=Qb c23;clear c23
         (first|rw [c23b0] | (simp only [i64_w,i32_w];rw [c23b0])|skip)
         have H':=am H;clear H;try go_wp2
         replace BK101:=am (blk_drew BK101.out);replace BK102:=am (blk_drew BK102.out);replace HB:=am (below_drew1 HB.out);refine start_ (n:=18) (S:=fun w'=>True) (ds:=[]) #[false,false,false,false,false,false,false,false,false,false,false,false,false,false,false,false,false,false] (by kernel_rfl) rfl rfl trivial (fun hHeld=>?_);refine with_tabW sentryref4_sentry.tab7 sentryref4_sentry.bits7 (fun HT_ HW_=>?_);generalize w22.drew=w24 at BK101 BK102 HB hHeld ⊢;refine pz_ 0 45 18 1 ?_;refine pz_ 1 46 18 3 ?_;refine pz_ 2 47 18 7 ?_;refine pu_ 3 48 18 15 ?_;refine pu_ 4 49 18 31 ?_;refine pu_ 5 50 18 63 ?_;refine pu_ 6 51 18 127 ?_;refine pu_ 7 52 18 255 ?_;refine pu_ 8 53 18 511 ?_;refine pu_ 9 54 18 1023 ?_;refine pu_ 10 55 18 2047 ?_;refine pu_ 11 56 18 4095 ?_;refine pu_ 12 57 18 8191 ?_;refine pu_ 13 58 18 16383 ?_;refine pu_ 14 59 18 32767 ?_;refine pu_ 15 60 18 65535 ?_;refine pu_ 16 61 18 131071 ?_;refine pz_ 17 62 18 262143 ?_;refine done_ (done_of HT_.out (by kernel_rfl)) ?_;try go_wp2
         go_meet
         case rel=>exact ⟨_,(true),(ze),H',⟨by have:=HJ2.out;have:=HK2.out;first|omega|exact Nat.le_refl _⟩,⟨zl BK101.out⟩,⟨zl BK102.out⟩,⟨zb⟩⟩
        rw [if_neg c23] at H;have c23b0:=Qc c23;clear c23
        (first|rw [c23b0] | (simp only [i64_w,i32_w];rw [c23b0])|skip)
        by_cases c25:0≤t104
        ·
         rw [if_pos c25] at H;have c25b0:=Qb c25;clear c25;by_cases c26:t104<(l0_1.length:Int)
         ·
          rw [if_pos c26] at H;have c26b0:=Qb c26;clear c26;replace H:=Qe H;obtain⟨t107,A270,H⟩:=H;have A27:=am A270;clear A270;have H':=am H;clear H;try go_wp2
          replace BK101:=am (blk_drew BK101.out);replace BK102:=am (blk_drew BK102.out);replace HB:=am (below_drew1 HB.out);have p105:0≤(t104:Int):=Qo;have q105:t104<(l0_1.length:Int):=Qo;obtain⟨ad105,A105_5,c105_5,A105_6,c105_6,e105,hx105_0,hx105_1,hx105_2,hx105_3,hx105_4,hx105_5,hx105_6,hl105_5,hi105_5,hl105_6,hi105_6⟩:=at_T47 HR0_1.out t104 p105 q105;have hw105_6:=hx105_6;have hw105_5:=hx105_5;have hw105_4:=hx105_4;have hw105_3:=hx105_3;have hw105_2:=hx105_2;have hw105_1:=hx105_1;have hw105_0:=hx105_0;cases e105;replace hx105_0:=ba HB hx105_0;replace hx105_1:=ba HB hx105_1;replace hx105_2:=ba HB hx105_2;replace hx105_3:=ba HB hx105_3;replace hx105_4:=ba HB hx105_4;replace hx105_5:=ba HB hx105_5;replace hx105_6:=ba HB hx105_6;have HR105_5:=am hi105_5;have HC105_5:=am hl105_5;clear hi105_5 hl105_5;have HR105_6:=am hi105_6;have HC105_6:=am hl105_6;clear hi105_6 hl105_6;replace p105:=eq_true p105;replace q105:=eq_true q105;have p106:0≤(x5_2:Int):=Qo;have q106:x5_2<(l1_0.length:Int):=Qo;obtain⟨ad106,e106,hx106_0,hx106_1⟩:=at_T78 HR1_0.out x5_2 p106 q106;have hw106_1:=hx106_1;have hw106_0:=hx106_0;obtain rfl:ad103=ad106:=(by injection e106);replace hx106_0:=ba HB hx106_0;replace hx106_1:=ba HB hx106_1;replace p106:=eq_true p106;replace q106:=eq_true q106;refine start_ (n:=18) (S:=fun w'=>w'.cell? ⟨gb101,0,none⟩=some (.slice A0_0 l0_0.length c0_0)∧w'.cell? ⟨gb101,1,none⟩=some (.slice (some ad105) l0_1.length c0_1)∧w'.cell? ⟨gb102,0,none⟩=some (.slice (some ad103) l1_0.length c1_0)∧w'.cell? ⟨gb102,1,none⟩=some (.slice A1_1 l1_1.length c1_1)∧w'.cell? (ad105.add ((t104).toNat * 7))=some (.string ((rd_T47 l0_1 t104).f0))∧w'.cell? ⟨(ad105.add ((t104).toNat * 7)).block,(ad105.add ((t104).toNat * 7)).off+1,none⟩=some (.int .i64 ((rd_T47 l0_1 t104).f1))∧w'.cell? ⟨(ad105.add ((t104).toNat * 7)).block,(ad105.add ((t104).toNat * 7)).off+2,none⟩=some (.string ((rd_T47 l0_1 t104).f2))∧w'.cell? ⟨(ad105.add ((t104).toNat * 7)).block,(ad105.add ((t104).toNat * 7)).off+3,none⟩=some (.bool ((rd_T47 l0_1 t104).f3))∧w'.cell? ⟨(ad105.add ((t104).toNat * 7)).block,(ad105.add ((t104).toNat * 7)).off+4,none⟩=some (.int .i64 ((rd_T47 l0_1 t104).f4))∧w'.cell? ⟨(ad105.add ((t104).toNat * 7)).block,(ad105.add ((t104).toNat * 7)).off+5,none⟩=some (.slice A105_5 ((rd_T47 l0_1 t104).f5).length c105_5)∧w'.cell? ⟨(ad105.add ((t104).toNat * 7)).block,(ad105.add ((t104).toNat * 7)).off+6,none⟩=some (.slice A105_6 ((rd_T47 l0_1 t104).f6).length c105_6)∧w'.cell? (ad103.add ((x5_2).toNat * 2))=some (.string ((rd_T78 l1_0 x5_2).f0))∧w'.cell? ⟨(ad103.add ((x5_2).toNat * 2)).block,(ad103.add ((x5_2).toNat * 2)).off+1,none⟩=some (.int .i64 ((rd_T78 l1_0 x5_2).f1))) (ds:=[]) #[false,false,false,false,false,false,false,false,false,false,false,false,false,false,false,false,false,false] (by kernel_rfl) rfl rfl ⟨bc BK101 0,bc BK101 1,bc BK102 0,bc BK102 1,(bh HB hw105_0),(bh HB hw105_1),(bh HB hw105_2),(bh HB hw105_3),(bh HB hw105_4),(bh HB hw105_5),(bh HB hw105_6),(bh HB hw106_0),(bh HB hw106_1)⟩ (fun hHeld=>?_);refine with_tabW sentryref4_sentry.tab7 sentryref4_sentry.bits7 (fun HT_ HW_=>?_);generalize w22.drew=w28 at BK101 BK102 HB HR105_5 HR105_6 hx105_0 hx105_1 hx105_2 hx105_3 hx105_4 hx105_5 hx105_6 hx106_0 hx106_1 hHeld ⊢;refine pz_ 0 45 18 1 ?_;refine pz_ 1 46 18 3 ?_;refine pz_ 2 47 18 7 ?_;refine pz_ 3 48 18 15 ?_;refine pz_ 5 50 18 47 ?_;refine pz_ 9 54 18 559 ?_;refine pz_ 11 56 18 2607 ?_;refine tz_ 4 49 18 2623 ?_;refine pz_ 6 51 18 2687 ?_;refine pz_ 7 52 18 2815 ?_;refine tz_ 8 53 18 3071 ?_;refine tz_ 10 55 18 4095 ?_;refine pz_ 12 57 18 8191 ?_;refine pz_ 13 58 18 16383 ?_;refine tz_ 14 59 18 32767 ?_;refine oz_ 15 60 18 65535 (fun K hK=>?_);refine goes_ Tryz.func161 (by kernel_rfl) rfl #[.int .i64 ((rd_T47 l0_1 t104).f1),.int .i64 ((rd_T78 l1_0 x5_2).f1)] (by rfl) rfl rfl (za) ?_;with_reducible refine (sentryref4_Legal.calls k2 ((rd_T47 l0_1 t104).f1) ((rd_T78 l1_0 x5_2).f1) t107 _ A27.out).mono ?_
          rintro e w' ⟨rfl,⟨nd,rfl⟩⟩;refine⟨_,rfl,?_⟩;refine hK.out _ _ ⟨bc BK101 0,bc BK101 1,bc BK102 0,bc BK102 1,(bh HB hw105_0),(bh HB hw105_1),(bh HB hw105_2),(bh HB hw105_3),(bh HB hw105_4),(bh HB hw105_5),(bh HB hw105_6),(bh HB hw106_0),(bh HB hw106_1)⟩ (fun hHeld=>?_);clear hK K;refine nz_ 60 ?_;refine pz_ 16 61 18 131071 ?_;refine pz_ 17 62 18 262143 ?_;refine done_ (done_of HT_.out (by kernel_rfl)) ?_;try go_wp2
          go_meet
          case rel=>exact ⟨_,(!t107),(ze),H',⟨by have:=HJ2.out;have:=HK2.out;first|omega|exact Nat.le_refl _⟩,⟨zl BK101.out⟩,⟨zl BK102.out⟩,⟨zb⟩⟩
         rw [if_neg c26] at H;exact absurd H (by simp)
        rw [if_neg c25] at H;exact absurd H (by simp)
       case rest =>
        clear HC18;obtain⟨kq,x62_17,rfl,HA,HJ17,BK101,BK102,HB⟩:=hcut
        cases kq with
        | zero => exact absurd HA.out (by simp [sentryref4_sentry.j2])
        | succ kj17 =>
         have H:=HA.out;clear HA;simp only [sentryref4_sentry.j2] at H;by_cases c29:x62_17=true
         ·
          subst c29;have H1:(some false)=some r:=by rw [if_pos rfl] at H;exact H
          clear H;have H:=H1;clear H1;obtain rfl:=Qd H;go_wp2;go_ret;exact⟨zf,zb⟩
         replace c29:=Qj c29;subst c29;have H1:(sentryref4_sentry.l1 kj17 x5_2 0 l0_0 l0_1 l1_0 l1_1)=some r:=by rw [if_neg (show ¬ (false=true) by decide)] at H;exact H
         clear H;have H:=H1;clear H1;have H':=am H;clear H;go_wp2;go_loopg [7] kj17 (fun kq v7 w' => ∃ (x7_4:Int),v7 = .int .i64 x7_4∧Aside0 (sentryref4_sentry.l1 kq x5_2 x7_4 l0_0 l0_1 l1_0 l1_1=some r)∧Aside0 (kq≤kj17)∧Aside0 (w'.heap[gb101]? = some (.cells #[(.slice A0_0 l0_0.length c0_0),(.slice A0_1 l0_1.length c0_1)] 25 (0,0)))∧Aside0 (w'.heap[gb102]? = some (.cells #[(.slice (some ad103) l1_0.length c1_0),(.slice A1_1 l1_1.length c1_1)] 29 (0,0)))∧Aside0 (Below w.heap.size w w'))
         case atStart=>exact ⟨(0),(ze),H',⟨Nat.le_refl _⟩,⟨zl BK101.out⟩,⟨zl BK102.out⟩,⟨zb⟩⟩
         case round =>
          clear H';obtain⟨x7_4,rfl,HA,HK4,BK101,BK102,HB⟩:=hrel
          cases gk with
          | zero => exact absurd HA.out (by simp [sentryref4_sentry.l1])
          | succ k4 =>
           have H:=HA.out;clear HA;simp only [sentryref4_sentry.l1] at H;by_cases c30:x7_4<x5_2
           ·
            rw [if_pos c30] at H;have c30b0:=Qb c30;clear c30;by_cases c31:0≤x7_4
            ·
             rw [if_pos c31] at H;have c31b0:=Qb c31;clear c31;by_cases c32:x7_4<(l1_0.length:Int)
             ·
              rw [if_pos c32] at H;have c32b0:=Qb c32;clear c32;by_cases c33:0≤x5_2
              ·
               rw [if_pos c33] at H;have c33b0:=Qb c33;clear c33;by_cases c34:x5_2<(l1_0.length:Int)
               ·
                rw [if_pos c34] at H;have c34b0:=Qb c34;clear c34;by_cases c35:((((rd_T78 l1_0 x7_4).f0).toList) == (((rd_T78 l1_0 x5_2).f0).toList)&&(((rd_T78 l1_0 x7_4).f1) == ((rd_T78 l1_0 x5_2).f1)))=true
                ·
                 rw [if_pos c35] at H;have c35b0:((((rd_T78 l1_0 x7_4).f0).toList) == (((rd_T78 l1_0 x5_2).f0).toList)&&(((rd_T78 l1_0 x7_4).f1) == ((rd_T78 l1_0 x5_2).f1)))=true:=c35
                 (try (have c35b1:decide ((((rd_T78 l1_0 x7_4).f0).toList)=(((rd_T78 l1_0 x5_2).f0).toList)&&(((rd_T78 l1_0 x7_4).f1) == ((rd_T78 l1_0 x5_2).f1)))=true:=by simpa using c35))
                 (try (have c35b2:((((rd_T78 l1_0 x7_4).f0).toList) == (((rd_T78 l1_0 x5_2).f0).toList)&&(((rd_T78 l1_0 x7_4).f1) == ((rd_T78 l1_0 x5_2).f1)))=true:=by simpa using c35))
                 clear c35;obtain rfl:=Qd H;try go_wp2
                 replace BK101:=am (blk_drew BK101.out);replace BK102:=am (blk_drew BK102.out);replace HB:=am (below_drew1 HB.out);have p108:0≤(x7_4:Int):=Qo;have q108:x7_4<(l1_0.length:Int):=Qo;obtain⟨ad108,e108,hx108_0,hx108_1⟩:=at_T78 HR1_0.out x7_4 p108 q108;have hw108_1:=hx108_1;have hw108_0:=hx108_0;obtain rfl:ad103=ad108:=(by injection e108);replace hx108_0:=ba HB hx108_0;replace hx108_1:=ba HB hx108_1;replace p108:=eq_true p108;replace q108:=eq_true q108;have p109:0≤(x5_2:Int):=Qo;have q109:x5_2<(l1_0.length:Int):=Qo;obtain⟨ad109,e109,hx109_0,hx109_1⟩:=at_T78 HR1_0.out x5_2 p109 q109;have hw109_1:=hx109_1;have hw109_0:=hx109_0;obtain rfl:ad103=ad109:=(by injection e109);replace hx109_0:=ba HB hx109_0;replace hx109_1:=ba HB hx109_1;replace p109:=eq_true p109;replace q109:=eq_true q109;refine start_ (n:=11) (S:=fun w'=>w'.cell? ⟨gb102,0,none⟩=some (.slice (some ad103) l1_0.length c1_0)∧w'.cell? ⟨gb102,1,none⟩=some (.slice A1_1 l1_1.length c1_1)∧w'.cell? (ad103.add ((x7_4).toNat * 2))=some (.string ((rd_T78 l1_0 x7_4).f0))∧w'.cell? ⟨(ad103.add ((x7_4).toNat * 2)).block,(ad103.add ((x7_4).toNat * 2)).off+1,none⟩=some (.int .i64 ((rd_T78 l1_0 x7_4).f1))∧w'.cell? (ad103.add ((x5_2).toNat * 2))=some (.string ((rd_T78 l1_0 x5_2).f0))∧w'.cell? ⟨(ad103.add ((x5_2).toNat * 2)).block,(ad103.add ((x5_2).toNat * 2)).off+1,none⟩=some (.int .i64 ((rd_T78 l1_0 x5_2).f1))) (ds:=[]) #[false,false,false,false,false,false,false,false,false,false,false] (by kernel_rfl) rfl rfl ⟨bc BK102 0,bc BK102 1,(bh HB hw108_0),(bh HB hw108_1),(bh HB hw109_0),(bh HB hw109_1)⟩ (fun hHeld=>?_);refine with_tabW sentryref4_sentry.tab12 sentryref4_sentry.bits12 (fun HT_ HW_=>?_);generalize wr.drew=w36 at BK101 BK102 HB hx108_0 hx108_1 hx109_0 hx109_1 hHeld ⊢;refine pz_ 0 68 11 1 ?_;refine pz_ 2 70 11 5 ?_;refine pz_ 5 73 11 37 ?_;refine pz_ 7 75 11 165 ?_;refine tz_ 1 69 11 167 ?_;refine pz_ 3 71 11 175 ?_;refine tz_ 4 72 11 191 ?_;refine tz_ 6 74 11 255 ?_;refine pz_ 8 76 11 511 ?_;refine tz_ 9 77 11 1023 ?_;refine pz_ 10 78 11 2047 ?_;refine done_ (done_of HT_.out (by kernel_rfl)) ?_;try go_wp2
                 go_ret;exact⟨zf,zb⟩
                rw [if_neg c35] at H;have c35b0:((((rd_T78 l1_0 x7_4).f0).toList) == (((rd_T78 l1_0 x5_2).f0).toList)&&(((rd_T78 l1_0 x7_4).f1) == ((rd_T78 l1_0 x5_2).f1)))=false:=by simpa using c35
                (try (have c35b1:decide ((((rd_T78 l1_0 x7_4).f0).toList)=(((rd_T78 l1_0 x5_2).f0).toList)&&(((rd_T78 l1_0 x7_4).f1) == ((rd_T78 l1_0 x5_2).f1)))=false:=by simpa using c35))
                (try (have c35b2:((((rd_T78 l1_0 x7_4).f0).toList) == (((rd_T78 l1_0 x5_2).f0).toList)&&(((rd_T78 l1_0 x7_4).f1) == ((rd_T78 l1_0 x5_2).f1)))=false:=by simpa using c35))
                (try (have c35b3:¬ ((((rd_T78 l1_0 x7_4).f0).toList)=(((rd_T78 l1_0 x5_2).f0).toList)&&(((rd_T78 l1_0 x7_4).f1) == ((rd_T78 l1_0 x5_2).f1))):=by simpa using c35))
                clear c35;have H':=am H;clear H;try go_wp2
                replace BK101:=am (blk_drew BK101.out);replace BK102:=am (blk_drew BK102.out);replace HB:=am (below_drew1 HB.out);have p108:0≤(x7_4:Int):=Qo;have q108:x7_4<(l1_0.length:Int):=Qo;obtain⟨ad108,e108,hx108_0,hx108_1⟩:=at_T78 HR1_0.out x7_4 p108 q108;have hw108_1:=hx108_1;have hw108_0:=hx108_0;obtain rfl:ad103=ad108:=(by injection e108);replace hx108_0:=ba HB hx108_0;replace hx108_1:=ba HB hx108_1;replace p108:=eq_true p108;replace q108:=eq_true q108;have p109:0≤(x5_2:Int):=Qo;have q109:x5_2<(l1_0.length:Int):=Qo;obtain⟨ad109,e109,hx109_0,hx109_1⟩:=at_T78 HR1_0.out x5_2 p109 q109;have hw109_1:=hx109_1;have hw109_0:=hx109_0;obtain rfl:ad103=ad109:=(by injection e109);replace hx109_0:=ba HB hx109_0;replace hx109_1:=ba HB hx109_1;replace p109:=eq_true p109;replace q109:=eq_true q109;refine start_ (n:=11) (S:=fun w'=>w'.cell? ⟨gb102,0,none⟩=some (.slice (some ad103) l1_0.length c1_0)∧w'.cell? ⟨gb102,1,none⟩=some (.slice A1_1 l1_1.length c1_1)∧w'.cell? (ad103.add ((x7_4).toNat * 2))=some (.string ((rd_T78 l1_0 x7_4).f0))∧w'.cell? ⟨(ad103.add ((x7_4).toNat * 2)).block,(ad103.add ((x7_4).toNat * 2)).off+1,none⟩=some (.int .i64 ((rd_T78 l1_0 x7_4).f1))∧w'.cell? (ad103.add ((x5_2).toNat * 2))=some (.string ((rd_T78 l1_0 x5_2).f0))∧w'.cell? ⟨(ad103.add ((x5_2).toNat * 2)).block,(ad103.add ((x5_2).toNat * 2)).off+1,none⟩=some (.int .i64 ((rd_T78 l1_0 x5_2).f1))) (ds:=[]) #[false,false,false,false,false,false,false,false,false,false,false] (by kernel_rfl) rfl rfl ⟨bc BK102 0,bc BK102 1,(bh HB hw108_0),(bh HB hw108_1),(bh HB hw109_0),(bh HB hw109_1)⟩ (fun hHeld=>?_);refine with_tabW sentryref4_sentry.tab12 sentryref4_sentry.bits12 (fun HT_ HW_=>?_);generalize wr.drew=w37 at BK101 BK102 HB hx108_0 hx108_1 hx109_0 hx109_1 hHeld ⊢;refine pz_ 0 68 11 1 ?_;refine pz_ 2 70 11 5 ?_;refine pz_ 5 73 11 37 ?_;refine pz_ 7 75 11 165 ?_;refine tz_ 1 69 11 167 ?_;refine pz_ 3 71 11 175 ?_;refine tz_ 4 72 11 191 ?_;refine tz_ 6 74 11 255 ?_;refine pz_ 8 76 11 511 ?_;refine tz_ 9 77 11 1023 ?_;refine pz_ 10 78 11 2047 ?_;refine done_ (done_of HT_.out (by kernel_rfl)) ?_;try go_wp2
                go_roundg k4
                case measure=>have:=HJ2.out;have:=HK2.out;have:=HJ17.out;have:=HK4.out;omega
                case rel=>exact ⟨(wrap64 (x7_4+1)),(ze),H',⟨by have:=HJ2.out;have:=HK2.out;have:=HJ17.out;have:=HK4.out;omega⟩,⟨zl BK101.out⟩,⟨zl BK102.out⟩,⟨zb⟩⟩
               rw [if_neg c34] at H;exact absurd H (by simp)
              rw [if_neg c33] at H;exact absurd H (by simp)
             rw [if_neg c32] at H;exact absurd H (by simp)
            rw [if_neg c31] at H;exact absurd H (by simp)
           rw [if_neg c30] at H;have c30b0:=Qc c30;clear c30;have H':=am H;clear H;go_wp2;go_roundg k4
           case measure=>have:=HJ2.out;have:=HK2.out;have:=HJ17.out;have:=HK4.out;omega
           case rel=>exact ⟨(wrap64 (x5_2+1)),(ze),H',⟨by have:=HJ2.out;have:=HK2.out;have:=HJ17.out;have:=HK4.out;omega⟩,⟨zl BK101.out⟩,⟨zl BK102.out⟩,⟨zb⟩⟩
      rw [if_neg c16] at H;exact absurd H (by simp)
     rw [if_neg c15] at H;have c15b0:=Qc c15;clear c15;have H':=am H;clear H;have hnb38:=NB102_101.out;have hnc38:=NB101_102.out;obtain⟨hcz39_0,hcz39_1,hfz39_0,hfz39_1⟩:=cf2 BK102.out;go_wp2;go_loopg [8] k2 (fun kq v8 w' => ∃ (x8_3:Int),v8 = .int .i64 x8_3∧Aside0 (sentryref4_sentry.l2 kq x8_3 l0_0 l0_1 l1_0 l1_1=some r)∧Aside0 (kq≤k2)∧Aside0 (w'.heap[gb101]? = some (.cells #[(.slice A0_0 l0_0.length c0_0),(.slice A0_1 l0_1.length c0_1)] 25 (0,0)))∧Aside0 (w'.heap[gb102]? = some (.cells #[(.slice A1_0 l1_0.length c1_0),(.slice A1_1 l1_1.length c1_1)] 29 (0,0)))∧Aside0 (Below w.heap.size w w'))
     case atStart=>exact ⟨(0),(ze),H',⟨Nat.le_refl _⟩,⟨zl BK101.out⟩,⟨zl BK102.out⟩,⟨zb⟩⟩
     case round =>
      clear H';obtain⟨x8_3,rfl,HA,HK3,BK101,BK102,HB⟩:=hrel
      cases gk with
      | zero => exact absurd HA.out (by simp [sentryref4_sentry.l2])
      | succ k3 =>
       have H:=HA.out;clear HA;simp only [sentryref4_sentry.l2] at H;by_cases c40:x8_3<(l1_1.length:Int)
       ·
        rw [if_pos c40] at H;have c40b0:=Qb c40;clear c40;by_cases c41:0≤x8_3
        ·
         rw [if_pos c41] at H;have c41b0:=Qb c41;clear c41;replace H:=Qe H;obtain⟨t112,A420,H⟩:=H;have A42:=am A420;clear A420;by_cases c43:t112=true
         ·
          subst c43;have H1:((sentryref4_Op.f k3 ((rd_T93 l1_1 x8_3).f1)).bind fun t113=>(if t113<0 then (some false) else (if ((rd_T93 l1_1 x8_3).f2)<(-1000000) then (some false) else (if ((rd_T93 l1_1 x8_3).f2)>1000000 then (some false) else (sentryref4_sentry.l2 k3 (wrap64 (x8_3+1)) l0_0 l0_1 l1_0 l1_1)))))=some r:=by rw [if_pos rfl] at H;exact H
          clear H;have H:=H1;clear H1;replace H:=Qe H;obtain⟨t113,A440,H⟩:=H;have A44:=am A440;clear A440;by_cases c45:t113<0
          ·
           rw [if_pos c45] at H;have c45b0:=Qb c45;clear c45;obtain rfl:=Qd H;have hnb46:=NB102_101.out;have hnc46:=NB101_102.out;obtain⟨hcz47_0,hcz47_1,hfz47_0,hfz47_1⟩:=cf2 BK102.out;have p110:0≤(x8_3:Int):=Qo;have q110:x8_3<(l1_1.length:Int):=Qo;obtain⟨ad110,e110,hx110_0,hx110_1,hx110_2⟩:=at_T93 HR1_1.out x8_3 p110 q110;cases e110;replace hx110_0:=ba HB hx110_0;replace hx110_1:=ba HB hx110_1;replace hx110_2:=ba HB hx110_2;replace p110:=eq_true p110;replace q110:=eq_true q110;go_wp2_with (first|((with_reducible refine gd_ 9 ?_);(try (refine gate_guard (by rfl) ?_;dsimp only));refine bx_ 9 #[.string (⟨#[]⟩:ByteArray),.string (⟨#[]⟩:ByteArray),.int .i64 0] 93 ?_;intro gb111 hg w48 hbox hb;have BK111:=am (hbox);have GE111:=am (zg:w.heap.size≤gb111);replace HB:=am (below_step (zb) hb);have NB101_111:=am ((zn BK101.out:gb101≠gb111));have NB111_101:=am ((zm BK101.out:gb111≠gb101));replace BK101:=am (zw BK101.out hb);have NB102_111:=am ((zn BK102.out:gb102≠gb111));have NB111_102:=am ((zm BK102.out:gb111≠gb102));replace BK102:=am (zw BK102.out hb);clear hb hbox hg;have hnb49:=NB111_101.out;have hnc49:=NB101_111.out;have hnb50:=NB111_102.out;have hnc50:=NB102_111.out;obtain⟨hcz51_0,hcz51_1,hcz51_2,hfz51_0,hfz51_1,hfz51_2⟩:=cf3 BK111.out;obtain⟨hcz52_0,hcz52_1,hfz52_0,hfz52_1⟩:=cf2 BK101.out)|((with_reducible refine gc_ 73 ?_);refine goesL_ (some 95) rfl rfl Tryz.func73 (by kernel_rfl) rfl #[.slice A0_0 l0_0.length c0_0,.string ((rd_T93 l1_1 x8_3).f0)] rfl (za) ?_;(with_reducible refine (sentryref4_File.calls k3 _ _ l0_0 ((rd_T93 l1_1 x8_3).f0) true _ ?side1 ?side2 A42.out).mono ?_);(case side1=>exact Kd.C_below HR0_0.out (zb));(case side2=>exact HC0_0.out);rintro e w' ⟨rfl,⟨nd,rfl⟩⟩;refine⟨_,rfl,?_⟩)|(go_at_call 162;(with_reducible refine (sentryref4_Op.calls k3 ((rd_T93 l1_1 x8_3).f1) t113 _ A44.out).mono ?_);rintro e w53 ⟨rfl,hb⟩;replace BK101:=am (blk_below (g:=gb101) (o:=.cells #[.slice A0_0 l0_0.length c0_0,.slice A0_1 l0_1.length c0_1] 25 (0,0)) (by refine zl ?_;refine blk_far ?_ NB101_111.out _;refine zl ?_;refine blk_far ?_ NB101_111.out _;refine zl ?_;refine blk_far ?_ NB101_111.out _;refine zl ?_;exact BK101.out) hb);replace BK102:=am (blk_below (g:=gb102) (o:=.cells #[.slice A1_0 l1_0.length c1_0,.slice (some ad110) l1_1.length c1_1] 29 (0,0)) (by refine zl ?_;refine blk_far ?_ NB102_111.out _;refine zl ?_;refine blk_far ?_ NB102_111.out _;refine zl ?_;refine blk_far ?_ NB102_111.out _;refine zl ?_;exact BK102.out) hb);replace BK111:=am (blk_below (g:=gb111) (o:=.cells #[.string ((rd_T93 l1_1 x8_3).f0),.string ((rd_T93 l1_1 x8_3).f1),.int .i64 ((rd_T93 l1_1 x8_3).f2)] 93 (0,0)) (by refine zl ?_;refine blk_put (cs:=#[.string ((rd_T93 l1_1 x8_3).f0),.string ((rd_T93 l1_1 x8_3).f1),.int .i64 0]) ?_ 2 _ rfl;refine zl ?_;refine blk_put (cs:=#[.string ((rd_T93 l1_1 x8_3).f0),.string (⟨#[]⟩:ByteArray),.int .i64 0]) ?_ 1 _ rfl;refine zl ?_;refine blk_put (cs:=#[.string (⟨#[]⟩:ByteArray),.string (⟨#[]⟩:ByteArray),.int .i64 0]) ?_ 0 _ rfl;refine zl ?_;exact BK111.out) hb);replace HB:=am (below_step (zb) hb);(try clear hb);(try clear hb2);(try clear hk);(try clear hi)))
           go_ret;exact⟨zf,zb⟩
          rw [if_neg c45] at H;have c45b0:=Qc c45;clear c45;by_cases c54:((rd_T93 l1_1 x8_3).f2)<(-1000000)
          ·
           rw [if_pos c54] at H;have c54b0:=Qb c54;clear c54;obtain rfl:=Qd H;have hnb55:=NB102_101.out;have hnc55:=NB101_102.out;obtain⟨hcz56_0,hcz56_1,hfz56_0,hfz56_1⟩:=cf2 BK102.out;have p110:0≤(x8_3:Int):=Qo;have q110:x8_3<(l1_1.length:Int):=Qo;obtain⟨ad110,e110,hx110_0,hx110_1,hx110_2⟩:=at_T93 HR1_1.out x8_3 p110 q110;cases e110;replace hx110_0:=ba HB hx110_0;replace hx110_1:=ba HB hx110_1;replace hx110_2:=ba HB hx110_2;replace p110:=eq_true p110;replace q110:=eq_true q110;go_wp2_with (first|((with_reducible refine gd_ 9 ?_);(try (refine gate_guard (by rfl) ?_;dsimp only));refine bx_ 9 #[.string (⟨#[]⟩:ByteArray),.string (⟨#[]⟩:ByteArray),.int .i64 0] 93 ?_;intro gb111 hg w57 hbox hb;have BK111:=am (hbox);have GE111:=am (zg:w.heap.size≤gb111);replace HB:=am (below_step (zb) hb);have NB101_111:=am ((zn BK101.out:gb101≠gb111));have NB111_101:=am ((zm BK101.out:gb111≠gb101));replace BK101:=am (zw BK101.out hb);have NB102_111:=am ((zn BK102.out:gb102≠gb111));have NB111_102:=am ((zm BK102.out:gb111≠gb102));replace BK102:=am (zw BK102.out hb);clear hb hbox hg;have hnb58:=NB111_101.out;have hnc58:=NB101_111.out;have hnb59:=NB111_102.out;have hnc59:=NB102_111.out;obtain⟨hcz60_0,hcz60_1,hcz60_2,hfz60_0,hfz60_1,hfz60_2⟩:=cf3 BK111.out;obtain⟨hcz61_0,hcz61_1,hfz61_0,hfz61_1⟩:=cf2 BK101.out)|((with_reducible refine gc_ 73 ?_);refine goesL_ (some 95) rfl rfl Tryz.func73 (by kernel_rfl) rfl #[.slice A0_0 l0_0.length c0_0,.string ((rd_T93 l1_1 x8_3).f0)] rfl (za) ?_;(with_reducible refine (sentryref4_File.calls k3 _ _ l0_0 ((rd_T93 l1_1 x8_3).f0) true _ ?side1 ?side2 A42.out).mono ?_);(case side1=>exact Kd.C_below HR0_0.out (zb));(case side2=>exact HC0_0.out);rintro e w' ⟨rfl,⟨nd,rfl⟩⟩;refine⟨_,rfl,?_⟩)|(go_at_call 162;(with_reducible refine (sentryref4_Op.calls k3 ((rd_T93 l1_1 x8_3).f1) t113 _ A44.out).mono ?_);rintro e w62 ⟨rfl,hb⟩;replace BK101:=am (blk_below (g:=gb101) (o:=.cells #[.slice A0_0 l0_0.length c0_0,.slice A0_1 l0_1.length c0_1] 25 (0,0)) (by refine zl ?_;refine blk_far ?_ NB101_111.out _;refine zl ?_;refine blk_far ?_ NB101_111.out _;refine zl ?_;refine blk_far ?_ NB101_111.out _;refine zl ?_;exact BK101.out) hb);replace BK102:=am (blk_below (g:=gb102) (o:=.cells #[.slice A1_0 l1_0.length c1_0,.slice (some ad110) l1_1.length c1_1] 29 (0,0)) (by refine zl ?_;refine blk_far ?_ NB102_111.out _;refine zl ?_;refine blk_far ?_ NB102_111.out _;refine zl ?_;refine blk_far ?_ NB102_111.out _;refine zl ?_;exact BK102.out) hb);replace BK111:=am (blk_below (g:=gb111) (o:=.cells #[.string ((rd_T93 l1_1 x8_3).f0),.string ((rd_T93 l1_1 x8_3).f1),.int .i64 ((rd_T93 l1_1 x8_3).f2)] 93 (0,0)) (by refine zl ?_;refine blk_put (cs:=#[.string ((rd_T93 l1_1 x8_3).f0),.string ((rd_T93 l1_1 x8_3).f1),.int .i64 0]) ?_ 2 _ rfl;refine zl ?_;refine blk_put (cs:=#[.string ((rd_T93 l1_1 x8_3).f0),.string (⟨#[]⟩:ByteArray),.int .i64 0]) ?_ 1 _ rfl;refine zl ?_;refine blk_put (cs:=#[.string (⟨#[]⟩:ByteArray),.string (⟨#[]⟩:ByteArray),.int .i64 0]) ?_ 0 _ rfl;refine zl ?_;exact BK111.out) hb);replace HB:=am (below_step (zb) hb);(try clear hb);(try clear hb2);(try clear hk);(try clear hi);obtain⟨hcz63_0,hcz63_1,hcz63_2,hfz63_0,hfz63_1,hfz63_2⟩:=cf3 BK111.out))
           go_ret;exact⟨zf,zb⟩
          rw [if_neg c54] at H;have c54b0:=Qc c54;clear c54;by_cases c64:((rd_T93 l1_1 x8_3).f2)>1000000
          ·
           rw [if_pos c64] at H;have c64b0:decide (1000000<((rd_T93 l1_1 x8_3).f2))=true:=Qb c64;clear c64;obtain rfl:=Qd H;have hnb65:=NB102_101.out;have hnc65:=NB101_102.out;obtain⟨hcz66_0,hcz66_1,hfz66_0,hfz66_1⟩:=cf2 BK102.out;have p110:0≤(x8_3:Int):=Qo;have q110:x8_3<(l1_1.length:Int):=Qo;obtain⟨ad110,e110,hx110_0,hx110_1,hx110_2⟩:=at_T93 HR1_1.out x8_3 p110 q110;cases e110;replace hx110_0:=ba HB hx110_0;replace hx110_1:=ba HB hx110_1;replace hx110_2:=ba HB hx110_2;replace p110:=eq_true p110;replace q110:=eq_true q110;go_wp2_with (first|((with_reducible refine gd_ 9 ?_);(try (refine gate_guard (by rfl) ?_;dsimp only));refine bx_ 9 #[.string (⟨#[]⟩:ByteArray),.string (⟨#[]⟩:ByteArray),.int .i64 0] 93 ?_;intro gb111 hg w67 hbox hb;have BK111:=am (hbox);have GE111:=am (zg:w.heap.size≤gb111);replace HB:=am (below_step (zb) hb);have NB101_111:=am ((zn BK101.out:gb101≠gb111));have NB111_101:=am ((zm BK101.out:gb111≠gb101));replace BK101:=am (zw BK101.out hb);have NB102_111:=am ((zn BK102.out:gb102≠gb111));have NB111_102:=am ((zm BK102.out:gb111≠gb102));replace BK102:=am (zw BK102.out hb);clear hb hbox hg;have hnb68:=NB111_101.out;have hnc68:=NB101_111.out;have hnb69:=NB111_102.out;have hnc69:=NB102_111.out;obtain⟨hcz70_0,hcz70_1,hcz70_2,hfz70_0,hfz70_1,hfz70_2⟩:=cf3 BK111.out;obtain⟨hcz71_0,hcz71_1,hfz71_0,hfz71_1⟩:=cf2 BK101.out)|((with_reducible refine gc_ 73 ?_);refine goesL_ (some 95) rfl rfl Tryz.func73 (by kernel_rfl) rfl #[.slice A0_0 l0_0.length c0_0,.string ((rd_T93 l1_1 x8_3).f0)] rfl (za) ?_;(with_reducible refine (sentryref4_File.calls k3 _ _ l0_0 ((rd_T93 l1_1 x8_3).f0) true _ ?side1 ?side2 A42.out).mono ?_);(case side1=>exact Kd.C_below HR0_0.out (zb));(case side2=>exact HC0_0.out);rintro e w' ⟨rfl,⟨nd,rfl⟩⟩;refine⟨_,rfl,?_⟩)|(go_at_call 162;(with_reducible refine (sentryref4_Op.calls k3 ((rd_T93 l1_1 x8_3).f1) t113 _ A44.out).mono ?_);rintro e w72 ⟨rfl,hb⟩;replace BK101:=am (blk_below (g:=gb101) (o:=.cells #[.slice A0_0 l0_0.length c0_0,.slice A0_1 l0_1.length c0_1] 25 (0,0)) (by refine zl ?_;refine blk_far ?_ NB101_111.out _;refine zl ?_;refine blk_far ?_ NB101_111.out _;refine zl ?_;refine blk_far ?_ NB101_111.out _;refine zl ?_;exact BK101.out) hb);replace BK102:=am (blk_below (g:=gb102) (o:=.cells #[.slice A1_0 l1_0.length c1_0,.slice (some ad110) l1_1.length c1_1] 29 (0,0)) (by refine zl ?_;refine blk_far ?_ NB102_111.out _;refine zl ?_;refine blk_far ?_ NB102_111.out _;refine zl ?_;refine blk_far ?_ NB102_111.out _;refine zl ?_;exact BK102.out) hb);replace BK111:=am (blk_below (g:=gb111) (o:=.cells #[.string ((rd_T93 l1_1 x8_3).f0),.string ((rd_T93 l1_1 x8_3).f1),.int .i64 ((rd_T93 l1_1 x8_3).f2)] 93 (0,0)) (by refine zl ?_;refine blk_put (cs:=#[.string ((rd_T93 l1_1 x8_3).f0),.string ((rd_T93 l1_1 x8_3).f1),.int .i64 0]) ?_ 2 _ rfl;refine zl ?_;refine blk_put (cs:=#[.string ((rd_T93 l1_1 x8_3).f0),.string (⟨#[]⟩:ByteArray),.int .i64 0]) ?_ 1 _ rfl;refine zl ?_;refine blk_put (cs:=#[.string (⟨#[]⟩:ByteArray),.string (⟨#[]⟩:ByteArray),.int .i64 0]) ?_ 0 _ rfl;refine zl ?_;exact BK111.out) hb);replace HB:=am (below_step (zb) hb);(try clear hb);(try clear hb2);(try clear hk);(try clear hi);obtain⟨hcz73_0,hcz73_1,hcz73_2,hfz73_0,hfz73_1,hfz73_2⟩:=cf3 BK111.out))
           go_ret;exact⟨zf,zb⟩
          rw [if_neg c64] at H;have c64b0:decide (1000000<((rd_T93 l1_1 x8_3).f2))=false:=Qc c64;clear c64;have H':=am H;clear H;have hnb74:=NB102_101.out;have hnc74:=NB101_102.out;obtain⟨hcz75_0,hcz75_1,hfz75_0,hfz75_1⟩:=cf2 BK102.out;have p110:0≤(x8_3:Int):=Qo;have q110:x8_3<(l1_1.length:Int):=Qo;obtain⟨ad110,e110,hx110_0,hx110_1,hx110_2⟩:=at_T93 HR1_1.out x8_3 p110 q110;cases e110;replace hx110_0:=ba HB hx110_0;replace hx110_1:=ba HB hx110_1;replace hx110_2:=ba HB hx110_2;replace p110:=eq_true p110;replace q110:=eq_true q110;go_wp2_with (first|((with_reducible refine gd_ 9 ?_);(try (refine gate_guard (by rfl) ?_;dsimp only));refine bx_ 9 #[.string (⟨#[]⟩:ByteArray),.string (⟨#[]⟩:ByteArray),.int .i64 0] 93 ?_;intro gb111 hg w76 hbox hb;have BK111:=am (hbox);have GE111:=am (zg:w.heap.size≤gb111);replace HB:=am (below_step (zb) hb);have NB101_111:=am ((zn BK101.out:gb101≠gb111));have NB111_101:=am ((zm BK101.out:gb111≠gb101));replace BK101:=am (zw BK101.out hb);have NB102_111:=am ((zn BK102.out:gb102≠gb111));have NB111_102:=am ((zm BK102.out:gb111≠gb102));replace BK102:=am (zw BK102.out hb);clear hb hbox hg;have hnb77:=NB111_101.out;have hnc77:=NB101_111.out;have hnb78:=NB111_102.out;have hnc78:=NB102_111.out;obtain⟨hcz79_0,hcz79_1,hcz79_2,hfz79_0,hfz79_1,hfz79_2⟩:=cf3 BK111.out;obtain⟨hcz80_0,hcz80_1,hfz80_0,hfz80_1⟩:=cf2 BK101.out)|((with_reducible refine gc_ 73 ?_);refine goesL_ (some 95) rfl rfl Tryz.func73 (by kernel_rfl) rfl #[.slice A0_0 l0_0.length c0_0,.string ((rd_T93 l1_1 x8_3).f0)] rfl (za) ?_;(with_reducible refine (sentryref4_File.calls k3 _ _ l0_0 ((rd_T93 l1_1 x8_3).f0) true _ ?side1 ?side2 A42.out).mono ?_);(case side1=>exact Kd.C_below HR0_0.out (zb));(case side2=>exact HC0_0.out);rintro e w' ⟨rfl,⟨nd,rfl⟩⟩;refine⟨_,rfl,?_⟩)|(go_at_call 162;(with_reducible refine (sentryref4_Op.calls k3 ((rd_T93 l1_1 x8_3).f1) t113 _ A44.out).mono ?_);rintro e w81 ⟨rfl,hb⟩;replace BK101:=am (blk_below (g:=gb101) (o:=.cells #[.slice A0_0 l0_0.length c0_0,.slice A0_1 l0_1.length c0_1] 25 (0,0)) (by refine zl ?_;refine blk_far ?_ NB101_111.out _;refine zl ?_;refine blk_far ?_ NB101_111.out _;refine zl ?_;refine blk_far ?_ NB101_111.out _;refine zl ?_;exact BK101.out) hb);replace BK102:=am (blk_below (g:=gb102) (o:=.cells #[.slice A1_0 l1_0.length c1_0,.slice (some ad110) l1_1.length c1_1] 29 (0,0)) (by refine zl ?_;refine blk_far ?_ NB102_111.out _;refine zl ?_;refine blk_far ?_ NB102_111.out _;refine zl ?_;refine blk_far ?_ NB102_111.out _;refine zl ?_;exact BK102.out) hb);replace BK111:=am (blk_below (g:=gb111) (o:=.cells #[.string ((rd_T93 l1_1 x8_3).f0),.string ((rd_T93 l1_1 x8_3).f1),.int .i64 ((rd_T93 l1_1 x8_3).f2)] 93 (0,0)) (by refine zl ?_;refine blk_put (cs:=#[.string ((rd_T93 l1_1 x8_3).f0),.string ((rd_T93 l1_1 x8_3).f1),.int .i64 0]) ?_ 2 _ rfl;refine zl ?_;refine blk_put (cs:=#[.string ((rd_T93 l1_1 x8_3).f0),.string (⟨#[]⟩:ByteArray),.int .i64 0]) ?_ 1 _ rfl;refine zl ?_;refine blk_put (cs:=#[.string (⟨#[]⟩:ByteArray),.string (⟨#[]⟩:ByteArray),.int .i64 0]) ?_ 0 _ rfl;refine zl ?_;exact BK111.out) hb);replace HB:=am (below_step (zb) hb);(try clear hb);(try clear hb2);(try clear hk);(try clear hi);obtain⟨hcz82_0,hcz82_1,hcz82_2,hfz82_0,hfz82_1,hfz82_2⟩:=cf3 BK111.out))
          go_roundg k3
          case measure=>have:=HJ2.out;have:=HK2.out;have:=HK3.out;omega
          case rel=>exact ⟨(wrap64 (x8_3+1)),(ze),H',⟨by have:=HJ2.out;have:=HK2.out;have:=HK3.out;omega⟩,⟨zl BK101.out⟩,⟨zl BK102.out⟩,⟨zb⟩⟩
         replace c43:=Qj c43;subst c43;have H1:(some false)=some r:=by rw [if_neg (show ¬ (false=true) by decide)] at H;exact H
         clear H;have H:=H1;clear H1;obtain rfl:=Qd H;have hnb83:=NB102_101.out;have hnc83:=NB101_102.out;obtain⟨hcz84_0,hcz84_1,hfz84_0,hfz84_1⟩:=cf2 BK102.out;have p110:0≤(x8_3:Int):=Qo;have q110:x8_3<(l1_1.length:Int):=Qo;obtain⟨ad110,e110,hx110_0,hx110_1,hx110_2⟩:=at_T93 HR1_1.out x8_3 p110 q110;cases e110;replace hx110_0:=ba HB hx110_0;replace hx110_1:=ba HB hx110_1;replace hx110_2:=ba HB hx110_2;replace p110:=eq_true p110;replace q110:=eq_true q110;go_wp2_with (first|((with_reducible refine gd_ 9 ?_);(try (refine gate_guard (by rfl) ?_;dsimp only));refine bx_ 9 #[.string (⟨#[]⟩:ByteArray),.string (⟨#[]⟩:ByteArray),.int .i64 0] 93 ?_;intro gb111 hg w85 hbox hb;have BK111:=am (hbox);have GE111:=am (zg:w.heap.size≤gb111);replace HB:=am (below_step (zb) hb);have NB101_111:=am ((zn BK101.out:gb101≠gb111));have NB111_101:=am ((zm BK101.out:gb111≠gb101));replace BK101:=am (zw BK101.out hb);have NB102_111:=am ((zn BK102.out:gb102≠gb111));have NB111_102:=am ((zm BK102.out:gb111≠gb102));replace BK102:=am (zw BK102.out hb);clear hb hbox hg;have hnb86:=NB111_101.out;have hnc86:=NB101_111.out;have hnb87:=NB111_102.out;have hnc87:=NB102_111.out;obtain⟨hcz88_0,hcz88_1,hcz88_2,hfz88_0,hfz88_1,hfz88_2⟩:=cf3 BK111.out;obtain⟨hcz89_0,hcz89_1,hfz89_0,hfz89_1⟩:=cf2 BK101.out)|((with_reducible refine gc_ 73 ?_);refine goesL_ (some 95) rfl rfl Tryz.func73 (by kernel_rfl) rfl #[.slice A0_0 l0_0.length c0_0,.string ((rd_T93 l1_1 x8_3).f0)] rfl (za) ?_;(with_reducible refine (sentryref4_File.calls k3 _ _ l0_0 ((rd_T93 l1_1 x8_3).f0) false _ ?side1 ?side2 A42.out).mono ?_);(case side1=>exact Kd.C_below HR0_0.out (zb));(case side2=>exact HC0_0.out);rintro e w' ⟨rfl,⟨nd,rfl⟩⟩;refine⟨_,rfl,?_⟩))
         go_ret;exact⟨zf,zb⟩
        rw [if_neg c41] at H;exact absurd H (by simp)
       rw [if_neg c40] at H;have c40b0:=Qc c40;clear c40;obtain rfl:=Qd H;have hnb90:=NB102_101.out;have hnc90:=NB101_102.out;obtain⟨hcz91_0,hcz91_1,hfz91_0,hfz91_1⟩:=cf2 BK102.out;go_wp2;go_ret;exact⟨zf,zb⟩
def api_On_272.l0:Nat→List (S78)→Int→Int→ByteArray→Int→Option (Int)
  | 0, _, _, _, _, _ => none
  | k+1,x0,x7,x8,x102000,x102001=>if x8<x7 then (if 0≤x8 then (if x8<(x0.length:Int) then (if (x102000.toList == (((rd_T78 x0 x8).f0).toList)&&(x102001 == ((rd_T78 x0 x8).f1)))=true then (some x8) else (api_On_272.l0 k x0 x7 (wrap64 (x8+1)) x102000 x102001)) else (none)) else (none)) else (some (-1))
def api_On_272.f(k:Nat)(l0:List (S78))(a1_0:ByteArray)(a1_1:Int):Option (Int):=api_On_272.l0 k l0 (l0.length:Int) 0 a1_0 a1_1
theorem api_On_272.mono_l:∀ k,(∀ y0 y1 y2 y3 y4,LeO (api_On_272.l0 k y0 y1 y2 y3 y4) (api_On_272.l0 (k+1) y0 y1 y2 y3 y4))
  | 0 => fun _ _ _ _ _ r h => by simp [api_On_272.l0] at h
  | k + 1 => by
    have ih0:=api_On_272.mono_l k;intro y0 y1 y2 y3 y4;unfold api_On_272.l0
    repeat' first
    | (with_reducible exact ih0 _ _ _ _ _)
    | (with_reducible exact LeO.refl _)
    | (with_reducible exact LeO.none _)
    | (with_reducible refine LeO.ite ?_ ?_)
    | (with_reducible refine LeO.bind ?_ (fun _ => ?_))
    | exact ih0 _ _ _ _ _
    | exact LeO.none _
    | refine LeO.ite ?_ ?_
    | refine LeO.bind ?_ (fun _=>?_)
theorem api_On_272.mono:∀ a0 a1 a2 k,LeO (api_On_272.f k a0 a1 a2) (api_On_272.f (k+1) a0 a1 a2):=by
  intro a0 a1 a2 k;have ih0:=api_On_272.mono_l k;unfold api_On_272.f
  repeat' first
      | (with_reducible exact ih0 _ _ _ _ _)
      | (with_reducible exact LeO.refl _)
      | (with_reducible exact LeO.none _)
      | (with_reducible refine LeO.ite ?_ ?_)
      | (with_reducible refine LeO.bind ?_ (fun _ => ?_))
      | exact ih0 _ _ _ _ _
      | exact LeO.none _
      | refine LeO.ite ?_ ?_
      | refine LeO.bind ?_ (fun _=>?_)
theorem api_On_272.calls(k:Nat)(A0:Option Addr)(c0:Nat)(l0:List (S78))(a1_0:ByteArray)(a1_1:Int)(r:Int)(w:World)(hr0:Kd.C k78 w A0 l0.length l0)(hc0:l0.length≤c0)(h:api_On_272.f k l0 a1_0 a1_1=some r) :
  Calls Tryz.prog 272 #[.slice A0 l0.length c0,.agg #[.string a1_0,.int .i64 a1_1]] w fun e w'=>e = .returned (.int .i64 r)∧Below w.heap.size w w':=by
 have hu78:=Tryz.underlying78;have HR0:=am hr0;have HC0:=am hc0;clear hr0 hc0;have HB:=am (Below.refl w.heap.size w);have H:(api_On_272.l0 k l0 (l0.length:Int) 0 a1_0 a1_1)=some r:=h;clear h;have H':=am H;clear H;go_enter Tryz.func272,Tryz.ntmps272;go_wp2_with (first|((with_reducible refine gd_ 3 ?_);refine bx_ 3 #[.string a1_0,.int .i64 a1_1] 78 ?_;intro gb101 hg w3 hbox hb;have BK101:=am (hbox);have GW101:=am (zg:w.heap.size≤gb101);have GE101:=am (zg:w.heap.size≤gb101);replace HB:=am (below_step (zb) hb);clear hb hbox hg))
 repeat (go_quiet (first|((with_reducible refine gd_ 3 ?_);refine bx_ 3 #[.string a1_0,.int .i64 a1_1] 78 ?_;intro gb101 hg w3 hbox hb;have BK101:=am (hbox);have GW101:=am (zg:w.heap.size≤gb101);have GE101:=am (zg:w.heap.size≤gb101);replace HB:=am (below_step (zb) hb);clear hb hbox hg));try go_wp2_with (first|((with_reducible refine gd_ 3 ?_);refine bx_ 3 #[.string a1_0,.int .i64 a1_1] 78 ?_;intro gb101 hg w3 hbox hb;have BK101:=am (hbox);have GW101:=am (zg:w.heap.size≤gb101);have GE101:=am (zg:w.heap.size≤gb101);replace HB:=am (below_step (zb) hb);clear hb hbox hg)))
 go_loopg [8] k (fun kq v8 w' => ∃ (x8_1:Int),v8 = .int .i64 x8_1∧Aside0 (api_On_272.l0 kq l0 (l0.length:Int) x8_1 a1_0 a1_1=some r)∧Aside0 (kq≤k)∧Aside0 (w'.heap[gb101]? = some (.cells #[.string a1_0,.int .i64 a1_1] 78 (0,0)))∧Aside0 (Below w.heap.size w w'))
 case atStart=>exact ⟨(0),(ze),H',⟨Nat.le_refl _⟩,⟨zl BK101.out⟩,⟨zb⟩⟩
 case round =>
  clear H';obtain⟨x8_1,rfl,HA,HK1,BK101,HB⟩:=hrel
  cases gk with
  | zero => exact absurd HA.out (by simp [api_On_272.l0])
  | succ k1 =>
   have H:=HA.out;clear HA;simp only [api_On_272.l0] at H;by_cases c4:x8_1<(l0.length:Int)
   ·
    rw [if_pos c4] at H;have c4b0:decide (x8_1<(l0.length:Int))=true:=Qb c4;clear c4;by_cases c5:0≤x8_1
    ·
     rw [if_pos c5] at H;have c5b0:decide (0≤x8_1)=true:=Qb c5;clear c5;by_cases c6:x8_1<(l0.length:Int)
     ·
      rw [if_pos c6] at H;have c6b0:decide (x8_1<(l0.length:Int))=true:=Qb c6;clear c6;by_cases c7:(a1_0.toList == (((rd_T78 l0 x8_1).f0).toList)&&(a1_1 == ((rd_T78 l0 x8_1).f1)))=true
      ·
       rw [if_pos c7] at H;have c7b0:(a1_0.toList == (((rd_T78 l0 x8_1).f0).toList)&&(a1_1 == ((rd_T78 l0 x8_1).f1)))=true:=c7
       (try (have c7b1:decide (a1_0.toList=(((rd_T78 l0 x8_1).f0).toList)&&(a1_1 == ((rd_T78 l0 x8_1).f1)))=true:=by simpa using c7))
       (try (have c7b2:(a1_0.toList == (((rd_T78 l0 x8_1).f0).toList)&&(a1_1 == ((rd_T78 l0 x8_1).f1)))=true:=by simpa using c7))
       clear c7;obtain rfl:=Qd H;obtain⟨hcz8_0,hcz8_1,hfz8_0,hfz8_1⟩:=cf2 BK101.out;have p102:0≤(x8_1:Int):=Qo;have q102:x8_1<(l0.length:Int):=Qo;obtain⟨ad102,e102,hx102_0,hx102_1⟩:=at_T78 HR0.out x8_1 p102 q102;cases e102;replace hx102_0:=ba HB hx102_0;replace hx102_1:=ba HB hx102_1;replace p102:=eq_true p102;replace q102:=eq_true q102;go_wp2;repeat (go_quiet (fail);try go_wp2)
       go_ret;exact⟨zf,zb⟩
      rw [if_neg c7] at H;have c7b0:(a1_0.toList == (((rd_T78 l0 x8_1).f0).toList)&&(a1_1 == ((rd_T78 l0 x8_1).f1)))=false:=by simpa using c7
      (try (have c7b1:decide (a1_0.toList=(((rd_T78 l0 x8_1).f0).toList)&&(a1_1 == ((rd_T78 l0 x8_1).f1)))=false:=by simpa using c7))
      (try (have c7b2:(a1_0.toList == (((rd_T78 l0 x8_1).f0).toList)&&(a1_1 == ((rd_T78 l0 x8_1).f1)))=false:=by simpa using c7))
      (try (have c7b3:¬ (a1_0.toList=(((rd_T78 l0 x8_1).f0).toList)&&(a1_1 == ((rd_T78 l0 x8_1).f1))):=by simpa using c7))
      clear c7;have H':=am H;clear H;obtain⟨hcz9_0,hcz9_1,hfz9_0,hfz9_1⟩:=cf2 BK101.out;have p102:0≤(x8_1:Int):=Qo;have q102:x8_1<(l0.length:Int):=Qo;obtain⟨ad102,e102,hx102_0,hx102_1⟩:=at_T78 HR0.out x8_1 p102 q102;cases e102;replace hx102_0:=ba HB hx102_0;replace hx102_1:=ba HB hx102_1;replace p102:=eq_true p102;replace q102:=eq_true q102;go_wp2;repeat (go_quiet (fail);try go_wp2)
      go_roundg k1
      case measure=>have:=HK1.out;omega
      case rel=>exact ⟨(wrap64 (x8_1+1)),(ze),H',⟨by have:=HK1.out;omega⟩,⟨zl BK101.out⟩,⟨zb⟩⟩
     rw [if_neg c6] at H;exact absurd H (by simp)
    rw [if_neg c5] at H;exact absurd H (by simp)
   rw [if_neg c4] at H;have c4b0:decide (x8_1<(l0.length:Int))=false:=Qc c4;clear c4;obtain rfl:=Qd H;go_wp2;repeat (go_quiet (fail);try go_wp2)
   go_ret;exact⟨zf,zb⟩
def api_On_230.l0:Nat→List (S78)→List (S78)→Int→Int→Option (Bool)
  | 0, _, _, _, _ => none
  | k+1,x0,x1,x12,x13=>if x13<x12 then (if 0≤x13 then (if x13<(x0.length:Int) then (if x13<(x1.length:Int) then (if (!((((rd_T78 x0 x13).f0).toList) == (((rd_T78 x1 x13).f0).toList))||(!(((rd_T78 x0 x13).f1) == ((rd_T78 x1 x13).f1))))=true then (some false) else (api_On_230.l0 k x0 x1 x12 (wrap64 (x13+1)))) else (none)) else (none)) else (none)) else (some true)
def api_On_230.f(k:Nat)(l0:List (S78))(l1:List (S78)):Option (Bool):=if (l0.length:Int)=(l1.length:Int) then (api_On_230.l0 k l0 l1 (l0.length:Int) 0) else (some false)
theorem api_On_230.mono_l:∀ k,(∀ y0 y1 y2 y3,LeO (api_On_230.l0 k y0 y1 y2 y3) (api_On_230.l0 (k+1) y0 y1 y2 y3))
  | 0 => fun _ _ _ _ r h => by simp [api_On_230.l0] at h
  | k + 1 => by
    have ih0:=api_On_230.mono_l k;intro y0 y1 y2 y3;unfold api_On_230.l0
    repeat' first
    | (with_reducible exact ih0 _ _ _ _)
    | (with_reducible exact LeO.refl _)
    | (with_reducible exact LeO.none _)
    | (with_reducible refine LeO.ite ?_ ?_)
    | (with_reducible refine LeO.bind ?_ (fun _ => ?_))
    | exact ih0 _ _ _ _
    | exact LeO.none _
    | refine LeO.ite ?_ ?_
    | refine LeO.bind ?_ (fun _=>?_)
theorem api_On_230.mono:∀ a0 a1 k,LeO (api_On_230.f k a0 a1) (api_On_230.f (k+1) a0 a1):=by
  intro a0 a1 k;have ih0:=api_On_230.mono_l k;unfold api_On_230.f
  repeat' first
      | (with_reducible exact ih0 _ _ _ _)
      | (with_reducible exact LeO.refl _)
      | (with_reducible exact LeO.none _)
      | (with_reducible refine LeO.ite ?_ ?_)
      | (with_reducible refine LeO.bind ?_ (fun _ => ?_))
      | exact ih0 _ _ _ _
      | exact LeO.none _
      | refine LeO.ite ?_ ?_
      | refine LeO.bind ?_ (fun _=>?_)
theorem api_On_230.calls(k : Nat)(A0 : Option Addr)(c0 : Nat)(l0 : List (S78))(A1 : Option Addr)(c1 : Nat)(l1 : List (S78))(r : Bool)(w : World)(hr0 : Kd.C k78 w A0 l0.length l0)(hc0 : l0.length ≤ c0)(hr1 : Kd.C k78 w A1 l1.length l1)(hc1 : l1.length ≤ c1)(h : api_On_230.f k l0 l1 = some r) :
  Calls Tryz.prog 230 #[.slice A0 l0.length c0,.slice A1 l1.length c1] w fun e w'=>e = .returned (.bool r)∧Drawn0 w w':=by
 have hu78:=Tryz.underlying78;have HR0:=am hr0;have HC0:=am hc0;clear hr0 hc0;have HR1:=am hr1;have HC1:=am hc1;clear hr1 hc1;have H:(if (l0.length:Int)=(l1.length:Int) then (api_On_230.l0 k l0 l1 (l0.length:Int) 0) else (some false))=some r:=h;clear h;by_cases c3:(l0.length:Int)=(l1.length:Int)
 ·
  rw [if_pos c3] at H;have c3b0:((l0.length:Int) == (l1.length:Int))=true:=Qh c3;have c3b1:((l0.length:Int) != (l1.length:Int))=false:=Qf c3;have c3b2:(l0.length == l1.length)=true:=by first|simpa using c3|(simp at c3 ⊢;omega)
  clear c3;have H':=am H;clear H;go_enter Tryz.func230,Tryz.ntmps230;go_wp2;repeat (go_quiet (fail);try go_wp2)
  go_loopg [13] k (fun kq v13 w' => ∃ (x13_1:Int),v13 = .int .i64 x13_1∧Aside0 (api_On_230.l0 kq l0 l1 (l0.length:Int) x13_1=some r)∧Aside0 (kq≤k)∧Drawn0 w w')
  case atStart=>exact ⟨(0),(ze),H',⟨Nat.le_refl _⟩,zd⟩
  case round =>
   clear H';try clear c1
   try clear c3
   try clear c3b0
   try clear c3b1
   try clear c3b2
   obtain⟨x13_1,rfl,HA,HK1,⟨m1,rfl⟩⟩:=hrel
   cases gk with
   | zero => exact absurd HA.out (by simp [api_On_230.l0])
   | succ k1 =>
    have H:=HA.out;clear HA;simp only [api_On_230.l0] at H;by_cases c4:x13_1<(l0.length:Int)
    ·
     rw [if_pos c4] at H;have c4b0:decide (x13_1<(l0.length:Int))=true:=Qb c4;clear c4;by_cases c5:0≤x13_1
     ·
      rw [if_pos c5] at H;have c5b0:decide (0≤x13_1)=true:=Qb c5;clear c5;by_cases c6:x13_1<(l0.length:Int)
      ·
       rw [if_pos c6] at H;have c6b0:decide (x13_1<(l0.length:Int))=true:=Qb c6;clear c6;by_cases c7:x13_1<(l1.length:Int)
       ·
        rw [if_pos c7] at H;have c7b0:decide (x13_1<(l1.length:Int))=true:=Qb c7;clear c7;by_cases c8:(!((((rd_T78 l0 x13_1).f0).toList) == (((rd_T78 l1 x13_1).f0).toList))||(!(((rd_T78 l0 x13_1).f1) == ((rd_T78 l1 x13_1).f1))))=true
        ·
         rw [if_pos c8] at H;have c8b0:(!((((rd_T78 l0 x13_1).f0).toList) == (((rd_T78 l1 x13_1).f0).toList))||(!(((rd_T78 l0 x13_1).f1) == ((rd_T78 l1 x13_1).f1))))=true:=c8;clear c8;obtain rfl:=Qd H;have p101:0≤(x13_1:Int):=Qo;have q101:x13_1<(l0.length:Int):=Qo;obtain⟨ad101,e101,hx101_0,hx101_1⟩:=at_T78 HR0.out x13_1 p101 q101;cases e101;replace p101:=eq_true p101;replace q101:=eq_true q101;have p102:0≤(x13_1:Int):=Qo;have q102:x13_1<(l1.length:Int):=Qo;obtain⟨ad102,e102,hx102_0,hx102_1⟩:=at_T78 HR1.out x13_1 p102 q102;cases e102;replace p102:=eq_true p102;replace q102:=eq_true q102;go_wp2;repeat (go_quiet (fail);try go_wp2)
         go_ret;exact⟨ze,zd⟩
        rw [if_neg c8] at H;have c8b0:(!((((rd_T78 l0 x13_1).f0).toList) == (((rd_T78 l1 x13_1).f0).toList))||(!(((rd_T78 l0 x13_1).f1) == ((rd_T78 l1 x13_1).f1))))=false:=by simpa using c8
        clear c8;have H':=am H;clear H;have p101:0≤(x13_1:Int):=Qo;have q101:x13_1<(l0.length:Int):=Qo;obtain⟨ad101,e101,hx101_0,hx101_1⟩:=at_T78 HR0.out x13_1 p101 q101;cases e101;replace p101:=eq_true p101;replace q101:=eq_true q101;have p102:0≤(x13_1:Int):=Qo;have q102:x13_1<(l1.length:Int):=Qo;obtain⟨ad102,e102,hx102_0,hx102_1⟩:=at_T78 HR1.out x13_1 p102 q102;cases e102;replace p102:=eq_true p102;replace q102:=eq_true q102;go_wp2;repeat (go_quiet (fail);try go_wp2)
        go_roundg k1
        case measure=>have:=HK1.out;omega
        case rel=>exact ⟨(wrap64 (x13_1+1)),(ze),H',⟨by have:=HK1.out;omega⟩,zd⟩
       rw [if_neg c7] at H;exact absurd H (by simp)
      rw [if_neg c6] at H;exact absurd H (by simp)
     rw [if_neg c5] at H;exact absurd H (by simp)
    rw [if_neg c4] at H;have c4b0:decide (x13_1<(l0.length:Int))=false:=Qc c4;clear c4;obtain rfl:=Qd H;go_wp2;repeat (go_quiet (fail);try go_wp2)
    go_ret;exact⟨ze,zd⟩
 rw [if_neg c3] at H;have c3b0:((l0.length:Int) == (l1.length:Int))=false:=Qg c3;have c3b1:((l0.length:Int) != (l1.length:Int))=true:=Qi c3;have c3b2:(l0.length == l1.length)=false:=by first|simpa using c3|(simp at c3 ⊢;omega)
 obtain rfl:=Qd H;go_enter Tryz.func230,Tryz.ntmps230;go_wp2;repeat (go_quiet (fail);try go_wp2)
 go_ret;exact⟨ze,zd⟩
end Go.Proofs.YtpbembafpnknhaaGreat.Pr
