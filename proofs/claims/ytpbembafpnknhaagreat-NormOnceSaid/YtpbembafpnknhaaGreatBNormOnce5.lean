/- Proof texts of one seat,in one file: the walks of functions and the lemmas under them,printed by programs and typed by hand. Put together by wip/bundle.py. -/
import Derived.Test.YtpbembafpnknhaaGreatRows
import Derived.Test.YtpbembafpnknhaaGreatBNormOnce0
import Derived.Test.YtpbembafpnknhaaGreatBNormOnce1
set_option maxHeartbeats 8000000
set_option maxRecDepth 100000
set_option linter.unusedVariables false
set_option linter.unusedSimpArgs false
set_option linter.unusedSectionVars false
namespace Go.Proofs.YtpbembafpnknhaaGreat.Pr
open Go.RowKit Go.Proofs.YtpbembafpnknhaaGreatW.PrintWords Go.Proofs.YtpbembafpnknhaaGreatW.PrintLast Go.Proofs.YtpbembafpnknhaaGreatW.PrintMore
attribute [local go_sem] max2_int min2_int max_two min_two max_three min_three max_four min_four
mutual
def sentrylaw7_heavy.l0:Nat→Int→Int→List ByteArray→List (S47)→Option (Bool)
  | 0, _, _, _, _ => none
  | k+1,x3,x4,x102000,x102001=>if x4<(x102001.length:Int) then (sentrylaw7_heavy.j1 k x3 x4 (decide (x3<400)) x102000 x102001) else (sentrylaw7_heavy.j1 k x3 x4 false x102000 x102001)
def sentrylaw7_heavy.j1:Nat→Int→Int→Bool→List ByteArray→List (S47)→Option (Bool)
  | 0, _, _, _, _, _ => none
  | k+1,x3,x4,x23,x102000,x102001=>if x23=true then (if 0≤x4 then (if x4<(x102001.length:Int) then (sentrylaw7_heavy.l1 k (wrap64 ((wrap64 ((wrap64 ((wrap64 (x3+(((rd_T47 x102001 x4).f5).length:Int)))+(((rd_T47 x102001 x4).f6).length:Int)))+(wrap64 ((((rd_T47 x102001 x4).f0).size:Int) / 50))))+(wrap64 ((((rd_T47 x102001 x4).f2).size:Int) / 50)))) x4 0 x102000 x102001 ((rd_T47 x102001 x4).f0) ((rd_T47 x102001 x4).f1) ((rd_T47 x102001 x4).f2) ((rd_T47 x102001 x4).f3) ((rd_T47 x102001 x4).f4) ((rd_T47 x102001 x4).f5) ((rd_T47 x102001 x4).f6)) else (none)) else (none)) else (some (decide (x3≥400)))
def sentrylaw7_heavy.j3:Nat→Int→Int→List ByteArray→List (S47)→ByteArray→Int→ByteArray→Bool→Int→List (S29)→List (S29)→Option (Bool)
  | 0, _, _, _, _, _, _, _, _, _, _, _ => none
  | k+1,x3,x4,x102000,x102001,x104000,x104001,x104002,x104003,x104004,x104005,x104006=>sentrylaw7_heavy.l2 k x3 x4 0 x102000 x102001 x104000 x104001 x104002 x104003 x104004 x104005 x104006
def sentrylaw7_heavy.l2:Nat→Int→Int→Int→List ByteArray→List (S47)→ByteArray→Int→ByteArray→Bool→Int→List (S29)→List (S29)→Option (Bool)
  | 0, _, _, _, _, _, _, _, _, _, _, _, _ => none
  | k+1,x3,x4,x7,x102000,x102001,x104000,x104001,x104002,x104003,x104004,x104005,x104006=>if x7<(x104006.length:Int) then (if x3<400 then (if 0≤x7 then (sentrylaw7_heavy.l2 k (wrap64 ((wrap64 (x3+(((rd_T29 x104006 x7).f0).length:Int)))+(((rd_T29 x104006 x7).f1).length:Int))) x4 (wrap64 (x7+1)) x102000 x102001 x104000 x104001 x104002 x104003 x104004 x104005 x104006) else (none)) else (sentrylaw7_heavy.l0 k x3 (wrap64 (x4+1)) x102000 x102001)) else (sentrylaw7_heavy.l0 k x3 (wrap64 (x4+1)) x102000 x102001)
def sentrylaw7_heavy.l1:Nat→Int→Int→Int→List ByteArray→List (S47)→ByteArray→Int→ByteArray→Bool→Int→List (S29)→List (S29)→Option (Bool)
  | 0, _, _, _, _, _, _, _, _, _, _, _, _ => none
  | k+1,x3,x4,x6,x102000,x102001,x104000,x104001,x104002,x104003,x104004,x104005,x104006=>if x6<(x104005.length:Int) then (if x3<400 then (if 0≤x6 then (sentrylaw7_heavy.l1 k (wrap64 ((wrap64 (x3+(((rd_T29 x104005 x6).f0).length:Int)))+(((rd_T29 x104005 x6).f1).length:Int))) x4 (wrap64 (x6+1)) x102000 x102001 x104000 x104001 x104002 x104003 x104004 x104005 x104006) else (none)) else (sentrylaw7_heavy.j3 k x3 x4 x102000 x102001 x104000 x104001 x104002 x104003 x104004 x104005 x104006)) else (sentrylaw7_heavy.j3 k x3 x4 x102000 x102001 x104000 x104001 x104002 x104003 x104004 x104005 x104006)
end
def sentrylaw7_heavy.f(k:Nat)(l0_0:List ByteArray)(l0_1:List (S47)):Option (Bool):=sentrylaw7_heavy.l0 k (wrap64 ((l0_0.length:Int)+(l0_1.length:Int))) 0 l0_0 l0_1
theorem sentrylaw7_heavy.calls(k : Nat)(A0_0 : Option Addr)(c0_0 : Nat)(l0_0 : List ByteArray)(A0_1 : Option Addr)(c0_1 : Nat)(l0_1 : List (S47))(r : Bool)(w : World)(hr0_0 : Kd.C Kd.string w A0_0 l0_0.length l0_0)(hc0_0 : l0_0.length ≤ c0_0)(hr0_1 : Kd.C k47 w A0_1 l0_1.length l0_1)(hc0_1 : l0_1.length ≤ c0_1)(h : sentrylaw7_heavy.f k l0_0 l0_1 = some r) :
  Calls Tryz.prog 29 #[.agg #[.slice A0_0 l0_0.length c0_0,.slice A0_1 l0_1.length c0_1]] w fun e w'=>e = .returned (.bool r)∧Below w.heap.size w w':=by
 have hu25:=Tryz.underlying25;have hu47:=Tryz.underlying47;have HR0_0:=am hr0_0;have HC0_0:=am hc0_0;clear hr0_0 hc0_0;have HR0_1:=am hr0_1;have HC0_1:=am hc0_1;clear hr0_1 hc0_1;have HB:=am (Below.refl w.heap.size w);have H:(sentrylaw7_heavy.l0 k (wrap64 ((l0_0.length:Int)+(l0_1.length:Int))) 0 l0_0 l0_1)=some r:=h;clear h;have H':=am H;clear H;go_enter Tryz.func29,Tryz.ntmps29;go_wp2_with (first|((with_reducible refine gd_ 1 ?_);refine bx_ 1 #[.slice A0_0 l0_0.length c0_0,.slice A0_1 l0_1.length c0_1] 25 ?_;intro gb101 hg w2 hbox hb;have BK101:=am (hbox);have GE101:=am (zg:w.heap.size≤gb101);replace HB:=am (below_step (zb) hb);clear hb hbox hg;obtain⟨hcz3_0,hcz3_1,hfz3_0,hfz3_1⟩:=cf2 BK101.out))
 repeat (go_quiet (first|((with_reducible refine gd_ 1 ?_);refine bx_ 1 #[.slice A0_0 l0_0.length c0_0,.slice A0_1 l0_1.length c0_1] 25 ?_;intro gb101 hg w2 hbox hb;have BK101:=am (hbox);have GE101:=am (zg:w.heap.size≤gb101);replace HB:=am (below_step (zb) hb);clear hb hbox hg;obtain⟨hcz3_0,hcz3_1,hfz3_0,hfz3_1⟩:=cf2 BK101.out));try go_wp2_with (first|((with_reducible refine gd_ 1 ?_);refine bx_ 1 #[.slice A0_0 l0_0.length c0_0,.slice A0_1 l0_1.length c0_1] 25 ?_;intro gb101 hg w2 hbox hb;have BK101:=am (hbox);have GE101:=am (zg:w.heap.size≤gb101);replace HB:=am (below_step (zb) hb);clear hb hbox hg;obtain⟨hcz3_0,hcz3_1,hfz3_0,hfz3_1⟩:=cf2 BK101.out)))
 go_loopg [3,4] k (fun kq v3 v4 w' => ∃ (x3_1:Int) (x4_1:Int),v3 = .int .i64 x3_1∧v4 = .int .i64 x4_1∧Aside0 (sentrylaw7_heavy.l0 kq x3_1 x4_1 l0_0 l0_1=some r)∧Aside0 (kq≤k)∧Aside0 (w'.heap[gb101]? = some (.cells #[(.slice A0_0 l0_0.length c0_0),(.slice A0_1 l0_1.length c0_1)] 25 (0,0)))∧Aside0 (Below w.heap.size w w'))
 case atStart=>exact ⟨(wrap64 ((l0_0.length:Int)+(l0_1.length:Int))),(0),(ze),(ze),H',⟨Nat.le_refl _⟩,⟨zl BK101.out⟩,⟨zb⟩⟩
 case round =>
  clear H';obtain⟨x3_1,x4_1,rfl,rfl,HA,HK1,BK101,HB⟩:=hrel
  cases gk with
  | zero => exact absurd HA.out (by simp [sentrylaw7_heavy.l0])
  | succ k1 =>
   have H:=HA.out;clear HA;simp only [sentrylaw7_heavy.l0] at H;have HC4:=am H;clear H;go_upto_region 3 with (fail)
   repeat (go_quiet (fail);go_upto_region 3 with (fail))
   go_cut [23] (fun v23 wc => ∃ (kq:Nat) (x23_3:Bool),v23 = .bool x23_3∧Aside0 (sentrylaw7_heavy.j1 kq x3_1 x4_1 x23_3 l0_0 l0_1=some r)∧Aside0 (kq≤k1)∧Aside0 (wc.heap[gb101]? = some (.cells #[(.slice A0_0 l0_0.length c0_0),(.slice A0_1 l0_1.length c0_1)] 25 (0,0)))∧Aside0 (Below w.heap.size w wc))
   case first =>
    have H:=HC4.out;clear HC4;by_cases c5:x4_1<(l0_1.length:Int)
    ·
     rw [if_pos c5] at H;have c5b0:=Qb c5;clear c5
     (first|rw [c5b0] | (simp only [i64_w,i32_w];rw [c5b0])|skip)
     have H':=am H;clear H;obtain⟨hcz6_0,hcz6_1,hfz6_0,hfz6_1⟩:=cf2 BK101.out;go_wp2;repeat (go_quiet (fail);try go_wp2)
     go_meet
     case rel=>exact ⟨_,(decide (x3_1<400)),(ze),H',⟨by have:=HK1.out;first|omega|exact Nat.le_refl _⟩,⟨zl BK101.out⟩,⟨zb⟩⟩
    rw [if_neg c5] at H;have c5b0:=Qc c5;clear c5
    (first|rw [c5b0] | (simp only [i64_w,i32_w];rw [c5b0])|skip)
    have H':=am H;clear H;obtain⟨hcz7_0,hcz7_1,hfz7_0,hfz7_1⟩:=cf2 BK101.out;go_wp2;repeat (go_quiet (fail);try go_wp2)
    go_meet
    case rel=>exact ⟨_,(false),(ze),H',⟨by have:=HK1.out;first|omega|exact Nat.le_refl _⟩,⟨zl BK101.out⟩,⟨zb⟩⟩
   case rest =>
    clear HC4;obtain⟨kq,x23_3,rfl,HA,HJ3,BK101,HB⟩:=hcut
    cases kq with
    | zero => exact absurd HA.out (by simp [sentrylaw7_heavy.j1])
    | succ kj3 =>
     have H:=HA.out;clear HA;simp only [sentrylaw7_heavy.j1] at H;by_cases c8:x23_3=true
     ·
      subst c8;have H1:(if 0≤x4_1 then (if x4_1<(l0_1.length:Int) then (sentrylaw7_heavy.l1 kj3 (wrap64 ((wrap64 ((wrap64 ((wrap64 (x3_1+(((rd_T47 l0_1 x4_1).f5).length:Int)))+(((rd_T47 l0_1 x4_1).f6).length:Int)))+(wrap64 ((((rd_T47 l0_1 x4_1).f0).size:Int) / 50))))+(wrap64 ((((rd_T47 l0_1 x4_1).f2).size:Int) / 50)))) x4_1 0 l0_0 l0_1 ((rd_T47 l0_1 x4_1).f0) ((rd_T47 l0_1 x4_1).f1) ((rd_T47 l0_1 x4_1).f2) ((rd_T47 l0_1 x4_1).f3) ((rd_T47 l0_1 x4_1).f4) ((rd_T47 l0_1 x4_1).f5) ((rd_T47 l0_1 x4_1).f6)) else (none)) else (none))=some r:=by rw [if_pos rfl] at H;exact H
      clear H;have H:=H1;clear H1;by_cases c9:0≤x4_1
      ·
       rw [if_pos c9] at H;have c9b0:=Qb c9;clear c9;by_cases c10:x4_1<(l0_1.length:Int)
       ·
        rw [if_pos c10] at H;have c10b0:=Qb c10;clear c10;have HC11:=am H;clear H;obtain⟨hcz12_0,hcz12_1,hfz12_0,hfz12_1⟩:=cf2 BK101.out;have p102:0≤(x4_1:Int):=Qo;have q102:x4_1<(l0_1.length:Int):=Qo;obtain⟨ad102,A102_5,c102_5,A102_6,c102_6,e102,hx102_0,hx102_1,hx102_2,hx102_3,hx102_4,hx102_5,hx102_6,hl102_5,hi102_5,hl102_6,hi102_6⟩:=at_T47 HR0_1.out x4_1 p102 q102;cases e102;replace hx102_0:=ba HB hx102_0;replace hx102_1:=ba HB hx102_1;replace hx102_2:=ba HB hx102_2;replace hx102_3:=ba HB hx102_3;replace hx102_4:=ba HB hx102_4;replace hx102_5:=ba HB hx102_5;replace hx102_6:=ba HB hx102_6;have HR102_5:=am hi102_5;have HC102_5:=am hl102_5;clear hi102_5 hl102_5;have HR102_6:=am hi102_6;have HC102_6:=am hl102_6;clear hi102_6 hl102_6;replace p102:=eq_true p102;replace q102:=eq_true q102;go_upto_block 2 with (first|((with_reducible refine gd_ 5 ?_);refine bx_ 5 #[.string (⟨#[]⟩:ByteArray),.int .i64 0,.string (⟨#[]⟩:ByteArray),.bool false,.int .i64 0,.slice none 0 0,.slice none 0 0] 47 ?_;intro gb103 hg w13 hbox hb;have BK103:=am (hbox);have GE103:=am (zg:w.heap.size≤gb103);replace HB:=am (below_step (zb) hb);have NB101_103:=am ((zn BK101.out:gb101≠gb103));replace BK101:=am (zw BK101.out hb);clear hb hbox hg;obtain⟨hcz15_0,hcz15_1,hcz15_2,hcz15_3,hcz15_4,hcz15_5,hcz15_6,hfz15_0,hfz15_1,hfz15_2,hfz15_3,hfz15_4,hfz15_5,hfz15_6⟩:=cf7 BK103.out))
        repeat (go_quiet (first|((with_reducible refine gd_ 5 ?_);refine bx_ 5 #[.string (⟨#[]⟩:ByteArray),.int .i64 0,.string (⟨#[]⟩:ByteArray),.bool false,.int .i64 0,.slice none 0 0,.slice none 0 0] 47 ?_;intro gb103 hg w13 hbox hb;have BK103:=am (hbox);have GE103:=am (zg:w.heap.size≤gb103);replace HB:=am (below_step (zb) hb);have NB101_103:=am ((zn BK101.out:gb101≠gb103));replace BK101:=am (zw BK101.out hb);clear hb hbox hg;obtain⟨hcz15_0,hcz15_1,hcz15_2,hcz15_3,hcz15_4,hcz15_5,hcz15_6,hfz15_0,hfz15_1,hfz15_2,hfz15_3,hfz15_4,hfz15_5,hfz15_6⟩:=cf7 BK103.out));go_upto_block 2 with (first|((with_reducible refine gd_ 5 ?_);refine bx_ 5 #[.string (⟨#[]⟩:ByteArray),.int .i64 0,.string (⟨#[]⟩:ByteArray),.bool false,.int .i64 0,.slice none 0 0,.slice none 0 0] 47 ?_;intro gb103 hg w13 hbox hb;have BK103:=am (hbox);have GE103:=am (zg:w.heap.size≤gb103);replace HB:=am (below_step (zb) hb);have NB101_103:=am ((zn BK101.out:gb101≠gb103));replace BK101:=am (zw BK101.out hb);clear hb hbox hg;obtain⟨hcz15_0,hcz15_1,hcz15_2,hcz15_3,hcz15_4,hcz15_5,hcz15_6,hfz15_0,hfz15_1,hfz15_2,hfz15_3,hfz15_4,hfz15_5,hfz15_6⟩:=cf7 BK103.out)))
        (try simp only [Act.put,List.setIfInBounds_toArray,List.set_cons_zero,List.set_cons_succ])
        go_cut [3] (fun v3 wc => ∃ (kq:Nat) (x3_10:Int),v3 = .int .i64 x3_10∧Aside0 (sentrylaw7_heavy.j3 kq x3_10 x4_1 l0_0 l0_1 ((rd_T47 l0_1 x4_1).f0) ((rd_T47 l0_1 x4_1).f1) ((rd_T47 l0_1 x4_1).f2) ((rd_T47 l0_1 x4_1).f3) ((rd_T47 l0_1 x4_1).f4) ((rd_T47 l0_1 x4_1).f5) ((rd_T47 l0_1 x4_1).f6)=some r)∧Aside0 (kq≤kj3)∧Aside0 (wc.heap[gb101]? = some (.cells #[(.slice A0_0 l0_0.length c0_0),(.slice (some ad102) l0_1.length c0_1)] 25 (0,0)))∧Aside0 (wc.heap[gb103]? = some (.cells #[.string ((rd_T47 l0_1 x4_1).f0),.int .i64 ((rd_T47 l0_1 x4_1).f1),.string ((rd_T47 l0_1 x4_1).f2),.bool ((rd_T47 l0_1 x4_1).f3),.int .i64 ((rd_T47 l0_1 x4_1).f4),(.slice A102_5 ((rd_T47 l0_1 x4_1).f5).length c102_5),(.slice A102_6 ((rd_T47 l0_1 x4_1).f6).length c102_6)] 47 (0,0)))∧Aside0 (Below w.heap.size w wc))
        case first =>
         have H:=HC11.out;clear HC11;have H':=am H;clear H;go_wp2;repeat (go_quiet (fail);try go_wp2)
         go_loopg [3,6] kj3 (fun kq v3 v6 w' => ∃ (x3_3:Int) (x6_3:Int),v3 = .int .i64 x3_3∧v6 = .int .i64 x6_3∧Aside0 (sentrylaw7_heavy.l1 kq x3_3 x4_1 x6_3 l0_0 l0_1 ((rd_T47 l0_1 x4_1).f0) ((rd_T47 l0_1 x4_1).f1) ((rd_T47 l0_1 x4_1).f2) ((rd_T47 l0_1 x4_1).f3) ((rd_T47 l0_1 x4_1).f4) ((rd_T47 l0_1 x4_1).f5) ((rd_T47 l0_1 x4_1).f6)=some r)∧Aside0 (kq≤kj3)∧Aside0 (w'.heap[gb101]? = some (.cells #[(.slice A0_0 l0_0.length c0_0),(.slice (some ad102) l0_1.length c0_1)] 25 (0,0)))∧Aside0 (w'.heap[gb103]? = some (.cells #[.string ((rd_T47 l0_1 x4_1).f0),.int .i64 ((rd_T47 l0_1 x4_1).f1),.string ((rd_T47 l0_1 x4_1).f2),.bool ((rd_T47 l0_1 x4_1).f3),.int .i64 ((rd_T47 l0_1 x4_1).f4),(.slice A102_5 ((rd_T47 l0_1 x4_1).f5).length c102_5),(.slice A102_6 ((rd_T47 l0_1 x4_1).f6).length c102_6)] 47 (0,0)))∧Aside0 (Below w.heap.size w w'))
         case atStart=>exact ⟨(wrap64 ((wrap64 ((wrap64 ((wrap64 (x3_1+(((rd_T47 l0_1 x4_1).f5).length:Int)))+(((rd_T47 l0_1 x4_1).f6).length:Int)))+(wrap64 ((((rd_T47 l0_1 x4_1).f0).size:Int) / 50))))+(wrap64 ((((rd_T47 l0_1 x4_1).f2).size:Int) / 50)))),(0),(ze),(ze),H',⟨Nat.le_refl _⟩,⟨by refine zl ?_;refine blk_far ?_ NB101_103.out _;refine zl ?_;refine blk_far ?_ NB101_103.out _;refine zl ?_;refine blk_far ?_ NB101_103.out _;refine zl ?_;refine blk_far ?_ NB101_103.out _;refine zl ?_;refine blk_far ?_ NB101_103.out _;refine zl ?_;refine blk_far ?_ NB101_103.out _;refine zl ?_;refine blk_far ?_ NB101_103.out _;refine zl ?_;exact BK101.out⟩,⟨by refine zl ?_;refine blk_put (cs:=#[.string ((rd_T47 l0_1 x4_1).f0),.int .i64 ((rd_T47 l0_1 x4_1).f1),.string ((rd_T47 l0_1 x4_1).f2),.bool ((rd_T47 l0_1 x4_1).f3),.int .i64 ((rd_T47 l0_1 x4_1).f4),.slice A102_5 ((rd_T47 l0_1 x4_1).f5).length c102_5,.slice none 0 0]) ?_ 6 _ rfl;refine zl ?_;refine blk_put (cs:=#[.string ((rd_T47 l0_1 x4_1).f0),.int .i64 ((rd_T47 l0_1 x4_1).f1),.string ((rd_T47 l0_1 x4_1).f2),.bool ((rd_T47 l0_1 x4_1).f3),.int .i64 ((rd_T47 l0_1 x4_1).f4),.slice none 0 0,.slice none 0 0]) ?_ 5 _ rfl;refine zl ?_;refine blk_put (cs:=#[.string ((rd_T47 l0_1 x4_1).f0),.int .i64 ((rd_T47 l0_1 x4_1).f1),.string ((rd_T47 l0_1 x4_1).f2),.bool ((rd_T47 l0_1 x4_1).f3),.int .i64 0,.slice none 0 0,.slice none 0 0]) ?_ 4 _ rfl;refine zl ?_;refine blk_put (cs:=#[.string ((rd_T47 l0_1 x4_1).f0),.int .i64 ((rd_T47 l0_1 x4_1).f1),.string ((rd_T47 l0_1 x4_1).f2),.bool false,.int .i64 0,.slice none 0 0,.slice none 0 0]) ?_ 3 _ rfl;refine zl ?_;refine blk_put (cs:=#[.string ((rd_T47 l0_1 x4_1).f0),.int .i64 ((rd_T47 l0_1 x4_1).f1),.string (⟨#[]⟩:ByteArray),.bool false,.int .i64 0,.slice none 0 0,.slice none 0 0]) ?_ 2 _ rfl;refine zl ?_;refine blk_put (cs:=#[.string ((rd_T47 l0_1 x4_1).f0),.int .i64 0,.string (⟨#[]⟩:ByteArray),.bool false,.int .i64 0,.slice none 0 0,.slice none 0 0]) ?_ 1 _ rfl;refine zl ?_;refine blk_put (cs:=#[.string (⟨#[]⟩:ByteArray),.int .i64 0,.string (⟨#[]⟩:ByteArray),.bool false,.int .i64 0,.slice none 0 0,.slice none 0 0]) ?_ 0 _ rfl;refine zl ?_;exact BK103.out⟩,⟨zb⟩⟩
         case round =>
          clear H';obtain⟨x3_3,x6_3,rfl,rfl,HA,HK3,BK101,BK103,HB⟩:=hrel
          cases gk with
          | zero => exact absurd HA.out (by simp [sentrylaw7_heavy.l1])
          | succ k3 =>
           have H:=HA.out;clear HA;simp only [sentrylaw7_heavy.l1] at H;by_cases c16:x6_3<(((rd_T47 l0_1 x4_1).f5).length:Int)
           ·
            rw [if_pos c16] at H;have c16b0:=Qb c16;clear c16
            (first|rw [c16b0] | (simp only [i64_w,i32_w];rw [c16b0])|skip)
            by_cases c17:x3_3<400
            ·
             rw [if_pos c17] at H;have c17b0:=Qb c17;clear c17;by_cases c18:0≤x6_3
             ·
              rw [if_pos c18] at H;have c18b0:=Qb c18;clear c18;have H':=am H;clear H;obtain⟨hcz20_0,hcz20_1,hcz20_2,hcz20_3,hcz20_4,hcz20_5,hcz20_6,hfz20_0,hfz20_1,hfz20_2,hfz20_3,hfz20_4,hfz20_5,hfz20_6⟩:=cf7 BK103.out;have p104:0≤(x6_3:Int):=Qo;have q104:x6_3<(((rd_T47 l0_1 x4_1).f5).length:Int):=Qo;obtain⟨ad104,A104_0,c104_0,A104_1,c104_1,e104,hx104_0,hx104_1,hl104_0,hi104_0,hl104_1,hi104_1⟩:=at_T29 HR102_5.out x6_3 p104 q104;cases e104;replace hx104_0:=ba HB hx104_0;replace hx104_1:=ba HB hx104_1;have HR104_0:=am hi104_0;have HC104_0:=am hl104_0;clear hi104_0 hl104_0;have HR104_1:=am hi104_1;have HC104_1:=am hl104_1;clear hi104_1 hl104_1;replace p104:=eq_true p104;replace q104:=eq_true q104;have p105:0≤(x6_3:Int):=Qo;have q105:x6_3<(((rd_T47 l0_1 x4_1).f5).length:Int):=Qo;obtain⟨ad105,A105_0,c105_0,A105_1,c105_1,e105,hx105_0,hx105_1,hl105_0,hi105_0,hl105_1,hi105_1⟩:=at_T29 HR102_5.out x6_3 p105 q105;obtain rfl:ad104=ad105:=(by injection e105);replace hx105_0:=ba HB hx105_0;replace hx105_1:=ba HB hx105_1;have HR105_0:=am hi105_0;have HC105_0:=am hl105_0;clear hi105_0 hl105_0;have HR105_1:=am hi105_1;have HC105_1:=am hl105_1;clear hi105_1 hl105_1;replace p105:=eq_true p105;replace q105:=eq_true q105;have ea_:=Qd (hx104_0.symm.trans hx105_0);injection ea_ with ea_ en_ ec_;subst ea_;subst ec_;clear en_;have ea_:=Qd (hx104_1.symm.trans hx105_1);injection ea_ with ea_ en_ ec_;subst ea_;subst ec_;clear en_;go_wp2;repeat (go_quiet (fail);try go_wp2)
              go_roundg k3
              case measure=>have:=HK1.out;have:=HJ3.out;have:=HK3.out;omega
              case rel=>exact ⟨(wrap64 ((wrap64 (x3_3+(((rd_T29 ((rd_T47 l0_1 x4_1).f5) x6_3).f0).length:Int)))+(((rd_T29 ((rd_T47 l0_1 x4_1).f5) x6_3).f1).length:Int))),(wrap64 (x6_3+1)),(ze),(ze),H',⟨by have:=HK1.out;have:=HJ3.out;have:=HK3.out;omega⟩,⟨zl BK101.out⟩,⟨zl BK103.out⟩,⟨zb⟩⟩
             rw [if_neg c18] at H;exact absurd H (by simp)
            rw [if_neg c17] at H;have c17b0:=Qc c17;clear c17;have H':=am H;clear H;obtain⟨hcz22_0,hcz22_1,hcz22_2,hcz22_3,hcz22_4,hcz22_5,hcz22_6,hfz22_0,hfz22_1,hfz22_2,hfz22_3,hfz22_4,hfz22_5,hfz22_6⟩:=cf7 BK103.out;go_wp2;repeat (go_quiet (fail);try go_wp2)
            go_meet
            case rel=>exact ⟨_,(x3_3),(ze),H',⟨by have:=HK1.out;have:=HJ3.out;have:=HK3.out;first|omega|exact Nat.le_refl _⟩,⟨zl BK101.out⟩,⟨zl BK103.out⟩,⟨zb⟩⟩
           rw [if_neg c16] at H;have c16b0:=Qc c16;clear c16
           (first|rw [c16b0] | (simp only [i64_w,i32_w];rw [c16b0])|skip)
           have H':=am H;clear H;obtain⟨hcz24_0,hcz24_1,hcz24_2,hcz24_3,hcz24_4,hcz24_5,hcz24_6,hfz24_0,hfz24_1,hfz24_2,hfz24_3,hfz24_4,hfz24_5,hfz24_6⟩:=cf7 BK103.out;go_wp2;repeat (go_quiet (fail);try go_wp2)
           go_meet
           case rel=>exact ⟨_,(x3_3),(ze),H',⟨by have:=HK1.out;have:=HJ3.out;have:=HK3.out;first|omega|exact Nat.le_refl _⟩,⟨zl BK101.out⟩,⟨zl BK103.out⟩,⟨zb⟩⟩
        case rest =>
         clear HC11;obtain⟨kq,x3_10,rfl,HA,HJ10,BK101,BK103,HB⟩:=hcut
         cases kq with
         | zero => exact absurd HA.out (by simp [sentrylaw7_heavy.j3])
         | succ kj10 =>
          have H:=HA.out;clear HA;simp only [sentrylaw7_heavy.j3] at H;have H':=am H;clear H;go_wp2;repeat (go_quiet (fail);try go_wp2)
          go_loopg [3,7] kj10 (fun kq v3 v7 w' => ∃ (x3_4:Int) (x7_4:Int),v3 = .int .i64 x3_4∧v7 = .int .i64 x7_4∧Aside0 (sentrylaw7_heavy.l2 kq x3_4 x4_1 x7_4 l0_0 l0_1 ((rd_T47 l0_1 x4_1).f0) ((rd_T47 l0_1 x4_1).f1) ((rd_T47 l0_1 x4_1).f2) ((rd_T47 l0_1 x4_1).f3) ((rd_T47 l0_1 x4_1).f4) ((rd_T47 l0_1 x4_1).f5) ((rd_T47 l0_1 x4_1).f6)=some r)∧Aside0 (kq≤kj10)∧Aside0 (w'.heap[gb101]? = some (.cells #[(.slice A0_0 l0_0.length c0_0),(.slice (some ad102) l0_1.length c0_1)] 25 (0,0)))∧Aside0 (w'.heap[gb103]? = some (.cells #[.string ((rd_T47 l0_1 x4_1).f0),.int .i64 ((rd_T47 l0_1 x4_1).f1),.string ((rd_T47 l0_1 x4_1).f2),.bool ((rd_T47 l0_1 x4_1).f3),.int .i64 ((rd_T47 l0_1 x4_1).f4),(.slice A102_5 ((rd_T47 l0_1 x4_1).f5).length c102_5),(.slice A102_6 ((rd_T47 l0_1 x4_1).f6).length c102_6)] 47 (0,0)))∧Aside0 (Below w.heap.size w w'))
          case atStart=>exact ⟨(x3_10),(0),(ze),(ze),H',⟨Nat.le_refl _⟩,⟨zl BK101.out⟩,⟨zl BK103.out⟩,⟨zb⟩⟩
          case round =>
           clear H';obtain⟨x3_4,x7_4,rfl,rfl,HA,HK4,BK101,BK103,HB⟩:=hrel
           cases gk with
           | zero => exact absurd HA.out (by simp [sentrylaw7_heavy.l2])
           | succ k4 =>
            have H:=HA.out;clear HA;simp only [sentrylaw7_heavy.l2] at H;by_cases c25:x7_4<(((rd_T47 l0_1 x4_1).f6).length:Int)
            ·
             rw [if_pos c25] at H;have c25b0:=Qb c25;clear c25;by_cases c26:x3_4<400
             ·
              rw [if_pos c26] at H;have c26b0:=Qb c26;clear c26;by_cases c27:0≤x7_4
              ·
               rw [if_pos c27] at H;have c27b0:=Qb c27;clear c27;have H':=am H;clear H;obtain⟨hcz29_0,hcz29_1,hcz29_2,hcz29_3,hcz29_4,hcz29_5,hcz29_6,hfz29_0,hfz29_1,hfz29_2,hfz29_3,hfz29_4,hfz29_5,hfz29_6⟩:=cf7 BK103.out;have p106:0≤(x7_4:Int):=Qo;have q106:x7_4<(((rd_T47 l0_1 x4_1).f6).length:Int):=Qo;obtain⟨ad106,A106_0,c106_0,A106_1,c106_1,e106,hx106_0,hx106_1,hl106_0,hi106_0,hl106_1,hi106_1⟩:=at_T29 HR102_6.out x7_4 p106 q106;cases e106;replace hx106_0:=ba HB hx106_0;replace hx106_1:=ba HB hx106_1;have HR106_0:=am hi106_0;have HC106_0:=am hl106_0;clear hi106_0 hl106_0;have HR106_1:=am hi106_1;have HC106_1:=am hl106_1;clear hi106_1 hl106_1;replace p106:=eq_true p106;replace q106:=eq_true q106;have p107:0≤(x7_4:Int):=Qo;have q107:x7_4<(((rd_T47 l0_1 x4_1).f6).length:Int):=Qo;obtain⟨ad107,A107_0,c107_0,A107_1,c107_1,e107,hx107_0,hx107_1,hl107_0,hi107_0,hl107_1,hi107_1⟩:=at_T29 HR102_6.out x7_4 p107 q107;obtain rfl:ad106=ad107:=(by injection e107);replace hx107_0:=ba HB hx107_0;replace hx107_1:=ba HB hx107_1;have HR107_0:=am hi107_0;have HC107_0:=am hl107_0;clear hi107_0 hl107_0;have HR107_1:=am hi107_1;have HC107_1:=am hl107_1;clear hi107_1 hl107_1;replace p107:=eq_true p107;replace q107:=eq_true q107;have ea_:=Qd (hx106_0.symm.trans hx107_0);injection ea_ with ea_ en_ ec_;subst ea_;subst ec_;clear en_;have ea_:=Qd (hx106_1.symm.trans hx107_1);injection ea_ with ea_ en_ ec_;subst ea_;subst ec_;clear en_;go_wp2;repeat (go_quiet (fail);try go_wp2)
               go_roundg k4
               case measure=>have:=HK1.out;have:=HJ3.out;have:=HJ10.out;have:=HK4.out;omega
               case rel=>exact ⟨(wrap64 ((wrap64 (x3_4+(((rd_T29 ((rd_T47 l0_1 x4_1).f6) x7_4).f0).length:Int)))+(((rd_T29 ((rd_T47 l0_1 x4_1).f6) x7_4).f1).length:Int))),(wrap64 (x7_4+1)),(ze),(ze),H',⟨by have:=HK1.out;have:=HJ3.out;have:=HJ10.out;have:=HK4.out;omega⟩,⟨zl BK101.out⟩,⟨zl BK103.out⟩,⟨zb⟩⟩
              rw [if_neg c27] at H;exact absurd H (by simp)
             rw [if_neg c26] at H;have c26b0:=Qc c26;clear c26;have H':=am H;clear H;obtain⟨hcz31_0,hcz31_1,hcz31_2,hcz31_3,hcz31_4,hcz31_5,hcz31_6,hfz31_0,hfz31_1,hfz31_2,hfz31_3,hfz31_4,hfz31_5,hfz31_6⟩:=cf7 BK103.out;go_wp2;repeat (go_quiet (fail);try go_wp2)
             go_roundg k4
             case measure=>have:=HK1.out;have:=HJ3.out;have:=HJ10.out;have:=HK4.out;omega
             case rel=>exact ⟨(x3_4),(wrap64 (x4_1+1)),(ze),(ze),H',⟨by have:=HK1.out;have:=HJ3.out;have:=HJ10.out;have:=HK4.out;omega⟩,⟨zl BK101.out⟩,⟨zb⟩⟩
            rw [if_neg c25] at H;have c25b0:=Qc c25;clear c25;have H':=am H;clear H;obtain⟨hcz33_0,hcz33_1,hcz33_2,hcz33_3,hcz33_4,hcz33_5,hcz33_6,hfz33_0,hfz33_1,hfz33_2,hfz33_3,hfz33_4,hfz33_5,hfz33_6⟩:=cf7 BK103.out;go_wp2;repeat (go_quiet (fail);try go_wp2)
            go_roundg k4
            case measure=>have:=HK1.out;have:=HJ3.out;have:=HJ10.out;have:=HK4.out;omega
            case rel=>exact ⟨(x3_4),(wrap64 (x4_1+1)),(ze),(ze),H',⟨by have:=HK1.out;have:=HJ3.out;have:=HJ10.out;have:=HK4.out;omega⟩,⟨zl BK101.out⟩,⟨zb⟩⟩
       rw [if_neg c10] at H;exact absurd H (by simp)
      rw [if_neg c9] at H;exact absurd H (by simp)
     replace c8:=Qj c8;subst c8;have H1:(some (decide (x3_1≥400)))=some r:=by rw [if_neg (show ¬ (false=true) by decide)] at H;exact H
     clear H;have H:=H1;clear H1;obtain rfl:=Qd H;go_wp2;repeat (go_quiet (fail);try go_wp2)
     go_ret;exact⟨zf,zb⟩
end Go.Proofs.YtpbembafpnknhaaGreat.Pr
namespace Go.Proofs.YtpbembafpnknhaaGreat
def space:Char:=Char.ofNat 32
def joinW:List (List Char)→List Char
  | [] => []
  | [w] => w
  | w::v::ws=>w++space::joinW (v::ws)
theorem words_cons{c:Char}{r:List Char}(h:c≠space):wordsSigns (c::r)=(match wordsSigns r with|w::ws=>(c::w)::ws | []=>[[c]]):=by
  conv=>lhs;unfold wordsSigns
  split
  · rename_i e;cases e
  · rename_i e;injection e with e _;exact absurd e h
  rename_i e;injection e with e1 e2;subst e1;subst e2;rfl
theorem words_one:∀ w:List Char,(w.all (· != space))=true→wordsSigns w=[w]
  | [], _ => rfl
  | c :: r, h => by
    rw [List.all_cons,Bool.and_eq_true,bne_iff_ne] at h;rw [words_cons h.1,words_one r h.2]
theorem words_app:∀ (w r:List Char),(w.all (· != space))=true→wordsSigns (w++space::r)=w::wordsSigns r
  | [], r, _ => rfl
  | c :: v, r, h => by
    rw [List.all_cons,Bool.and_eq_true,bne_iff_ne] at h;rw [List.cons_append,words_cons h.1,words_app v r h.2]
theorem words_join:∀ ws:List (List Char),ws ≠ []→(ws.all fun w=>w.all (· != space))=true→wordsSigns (joinW ws)=ws
  | [], h, _ => absurd rfl h
  | [w], _, h => by
    rw [List.all_cons,Bool.and_eq_true] at h
    exact words_one w h.1
  | w :: v :: ws, _, h => by
    rw [List.all_cons,Bool.and_eq_true] at h
    show wordsSigns (w++space::joinW (v::ws))=_
    rw [words_app _ _ h.1,words_join (v::ws) (by simp) h.2]
def initW:List (List Nat):=[[104,97,114,110,101,115,115],[52,49,52,57,56,98,55,101,50,54,98,53,54,55,55,51,54,51,98,49,57,51,98,50,102,54,101,97,49,54,48,53,100,50,49,97,54,97,97,100,100,55,50,57,55,52,53,48,52,97,57,55,56,101,48,57,98,98,98,97,97,101,98,101],[99,117,116],[97,116],[115,101,110,116,114,121,47,115,101,110,116,114,121,108,97,119,55,46,78,111,114,109,84,101,108,108,115],[115,101,110,116,114,121,47,115,101,110,116,114,121,108,97,119,55,46,78,111,114,109,79,110,99,101],[115,101,110,116,114,121,47,115,101,110,116,114,121,108,97,119,55,46,78,111,114,109,79,114,100,101,114,115],[115,101,110,116,114,121,47,115,101,110,116,114,121,108,97,119,55,46,78,111,114,109,82,117,110,115],[115,101,110,116,114,121,47,115,101,110,116,114,121,108,97,119,55,46,78,111,114,109,84,117,114,110,115],[115,101,110,116,114,121,47,115,101,110,116,114,121,108,97,119,55,46,78,111,114,109,79,119,110],[115,101,110,116,114,121,47,115,101,110,116,114,121,108,97,119,55,46,78,111,114,109,83,97,109,101],[115,101,110,116,114,121,47,115,101,110,116,114,121,108,97,119,55,46,78,111,114,109,84,119,105,99,101],[115,101,110,116,114,121,47,115,101,110,116,114,121,108,97,119,55,46,78,111,114,109,73,68,115],[115,101,110,116,114,121,47,115,101,110,116,114,121,108,97,119,49,51,46,68,105,102,102,84,101,108,108,115],[115,101,110,116,114,121,47,115,101,110,116,114,121,108,97,119,49,51,46,68,105,102,102,79,110,101],[115,101,110,116,114,121,47,115,101,110,116,114,121,108,97,119,49,52,46,77,101,114,103,101,84,101,108,108,115],[115,101,110,116,114,121,47,115,101,110,116,114,121,108,97,119,49,52,46,77,101,114,103,101,65,108,111,110,101],[115,101,110,116,114,121,47,115,101,110,116,114,121,108,97,119,49,52,46,77,101,114,103,101,84,117,114,110,101,100],[115,101,110,116,114,121,47,115,101,110,116,114,121,108,97,119,49,52,46,77,101,114,103,101,69,105,116,104,101,114],[115,101,110,116,114,121,47,115,101,110,116,114,121,108,97,119,49,52,46,77,101,114,103,101,83,105,100,101,115],[115,101,110,116,114,121,47,115,101,110,116,114,121,108,97,119,49,52,46,77,101,114,103,101,67,108,97,115,104],[115,101,110,116,114,121,47,115,101,110,116,114,121,108,97,119,49,52,46,77,101,114,103,101,65,112,97,114,116],[115,101,110,116,114,121,47,115,101,110,116,114,121,108,97,119,49,52,46,77,101,114,103,101,66,121],[115,101,110,116,114,121,47,115,101,110,116,114,121,108,97,119,49,52,46,77,101,114,103,101,79,114,100,101,114],[115,101,110,116,114,121,47,115,101,110,116,114,121,108,97,119,49,51,46,68,105,102,102,66,97,99,107],[115,101,110,116,114,121,47,115,101,110,116,114,121,108,97,119,49,51,46,68,105,102,102,83,101,108,102],[115,101,110,116,114,121,47,115,101,110,116,114,121,108,97,119,49,51,46,68,105,102,102,76,101,97,115,116],[115,101,110,116,114,121,47,115,101,110,116,114,121,108,97,119,49,51,46,68,105,102,102,79,100,100],[115,101,110,116,114,121,47,115,101,110,116,114,121,108,97,119,49,51,46,68,105,102,102,67,104,97,105,110],[115,101,110,116,114,121,47,115,101,110,116,114,121,108,97,119,49,51,46,68,105,102,102,79,114,100,101,114]]
def initC:List (List Char):=initW.map (·.map Char.ofNat)
theorem initS:Tryz.pinned.checked.prog.initOrder=String.ofList (joinW initC):=by kernel_rfl
theorem initL:wordsSigns Tryz.pinned.checked.prog.initOrder.toList=initC:=by
  rw [initS,String.toList_ofList,words_join _ (by decide) (by kernel_rfl)]
theorem initB:behindMainWord (wordsSigns Tryz.pinned.checked.prog.initOrder.toList)=initC.drop 2:=by
  rw [initL];kernel_rfl
theorem strip:stripLifts liftWords (initC.drop 2)=([],initC.drop 2):=by kernel_rfl
theorem initD:initC.drop 2=(initC.drop 2).head (by decide)::(initC.drop 2).tail:=by kernel_rfl
theorem isGc : ((initC.drop 2).head (by decide) == "gc".toList) = false := by kernel_rfl
theorem isSpec : ((initC.drop 2).head (by decide) == "spec".toList) = false := by kernel_rfl
theorem isCarried : ((initC.drop 2).head (by decide) == "carried".toList) = false := by kernel_rfl
theorem isCut : ((initC.drop 2).head (by decide) == "cut".toList) = true := by kernel_rfl
theorem isCut2 : ((initC.drop 2).head? == some "cut".toList) = true := by kernel_rfl
theorem later_:Tryz.pinned.checked.prog.laysLater=false:=by kernel_rfl
theorem bears_:Tryz.pinned.checked.prog.bearsReflect=false:=by kernel_rfl
theorem door_:Tryz.pinned.checked.prog.doorFits []=true:=by kernel_rfl
theorem mayEnter_gen (P : Program) (c : List Char) (rest : List (List Char)) (h : behindMainWord (wordsSigns P.initOrder.toList) = c :: rest) (h1 : (c == "gc".toList) = false) (h2 : (c == "spec".toList) = false) (h3 : (c == "carried".toList) = false)
    (h4 : stripLifts liftWords (c :: rest) = ([], c :: rest)) (h5 : ((c :: rest).head? == some "cut".toList) = true) (h6 : P.laysLater = false) (h7 : P.bearsReflect = false) (h8 : P.doorFits [] = true) : P.mayEnter = true := by
  unfold Program.mayEnter;rw [h];simp only;rw [h1,h2,h3,h4];simp only;rw [h5,h6,h7,h8];rfl
theorem mayEnter_:Tryz.pinned.checked.prog.mayEnter=true:=mayEnter_gen _ _ _ (initB.trans initD) isGc isSpec isCarried (by rw [← initD];exact strip) (by rw [← initD];exact isCut2) later_ bears_ door_
theorem headLifts_:Tryz.pinned.checked.prog.headLifts=[]:=by
  unfold Program.headLifts;rw [initB,strip];kernel_rfl
theorem lifts_:Tryz.pinned.checked.prog.liftsFinal=false:=by
  unfold Program.liftsFinal;rw [initB,headLifts_];kernel_rfl
theorem make_gen (P : Program) (c : List Char) (rest : List (List Char)) (h : behindMainWord (wordsSigns P.initOrder.toList) = c :: rest) (h1 : (c == "gc".toList) = false) (h2 : (c == "spec".toList) = false) (h3 : (c == "cut".toList) = true) : P.make = some .cut := by
  unfold Program.make;rw [h];simp only;rw [h1,h2,h3];rfl
theorem make_:Tryz.pinned.checked.prog.make=some .cut:=make_gen _ _ _ (initB.trans initD) isGc isSpec isCut
theorem stops_:(Tryz.pinned.checked.prog.stops == [])=true:=by kernel_rfl
theorem stopKnobs_:(Tryz.pinned.checked.prog.stopKnobs == [])=true:=by kernel_rfl
theorem laid_:laidOutB Tryz.pinned.checked.prog=true:=by kernel_rfl
theorem rowed_:mapsRowed Tryz.pinned.checked.prog=true:=by kernel_rfl
theorem heard_:Tryz.pinned.checked.prog.stopsHeard=true:=by kernel_rfl
theorem plain_:Tryz.pinned.checked.prog.plainKeys=true:=by kernel_rfl
#print axioms mayEnter_
#print axioms plain_
end Go.Proofs.YtpbembafpnknhaaGreat
