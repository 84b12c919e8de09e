/- Proof texts of one seat,in one file: the walks of functions and the lemmas under them,printed by programs and typed by hand. Put together by wip/bundle.py. -/
import Derived.Test.YtpbembafpnknhaaGreatRows
import Derived.Test.YtpbembafpnknhaaGreatBNormTurns0
import Derived.Test.YtpbembafpnknhaaGreatBNormTurns1
import Derived.Test.YtpbembafpnknhaaGreatBNormTurns2
import Derived.Test.YtpbembafpnknhaaGreatBNormTurns4
import Derived.Test.YtpbembafpnknhaaGreatBNormTurns5
set_option maxHeartbeats 8000000
set_option maxRecDepth 100000
set_option linter.unusedVariables false
set_option linter.unusedSimpArgs false
set_option linter.unusedSectionVars false
namespace Go.Proofs.YtpbembafpnknhaaGreat.Pr
open Go.RowKit Go.Proofs.YtpbembafpnknhaaGreatW.PrintWords Go.Proofs.YtpbembafpnknhaaGreatW.PrintLast Go.Proofs.YtpbembafpnknhaaGreatW.PrintMore
attribute [local go_sem] max2_int min2_int max_two min_two max_three min_three max_four min_four
mutual
def sentrylaw7_below.l0:Nat→Int→List (S47)→List Int→Int→List ByteArray→List (S47)→Option ((List (S47)))
  | 0, _, _, _, _, _, _ => none
  | k+1,x2,x8,x9,x10,x102000,x102001=>if x10≥0 then (if x2<10 then (if 0≤x10 then (if x10<(x9.length:Int) then ((sentrylaw7_below.f k x102000 x102001 (rd x9 x10) (wrap64 (x2+1))).bind fun t117=>(if x8.length+t117.length<1353245080339 then (sentrylaw7_below.l0 k x2 (x8++t117) x9 (wrap64 (x10 - 1)) x102000 x102001) else (none))) else (none)) else (none)) else (some x8)) else (some x8)
def sentrylaw7_below.f:Nat→List ByteArray→List (S47)→Int→Int→Option ((List (S47)))
  | 0, _, _, _, _ => none
  | k+1,l0_0,l0_1,a1,a2=>if 0≤a1 then (if a1<(l0_1.length:Int) then ((sentrylaw7_round.f k ((rd_T47 l0_1 a1).f5)).bind fun t104=>((sentrylaw7_round.f k ((rd_T47 l0_1 a1).f6)).bind fun t107=>((sentryref4_Kids.f k l0_0 l0_1 ((rd_T47 l0_1 a1).f0)).bind fun t113=>(sentrylaw7_below.l0 k a2 (([(⟨(rd_T47 l0_1 a1).f0,(rd_T47 l0_1 a1).f1,(rd_T47 l0_1 a1).f2,(rd_T47 l0_1 a1).f3,(rd_T47 l0_1 a1).f4,t104,t107⟩:S47)]:List (S47))) t113 (wrap64 ((t113.length:Int) - 1)) l0_0 l0_1)))) else (none)) else (none)
end
def sentrylaw7_below.T2:Bool × List (List Nat × List Nat):=(true,[([],[]),([0],[0]),([1],[1]),([],[]),([3],[3]),([4,2],[4]),([0,1,2,3,4],[]),([6,2,5,0,1,2,3,4],[2,6]),([0,1,2,3,4,5,6,7],[]),([8,5,7,0,1,2,3,4,5,6,7],[5,8])])
def sentrylaw7_below.B2:List Nat:=[0,1,3,0,8,31,31,127,255,511]
theorem sentrylaw7_below.tab2:rtab .any (opsOf Tryz.f87 2)=sentrylaw7_below.T2:=by kernel_rfl
theorem sentrylaw7_below.bits2:waitsOk sentrylaw7_below.T2.2 sentrylaw7_below.B2=true:=by kernel_rfl
def sentrylaw7_below.T8:Bool × List (List Nat × List Nat):=(true,[([],[]),([],[]),([],[]),([],[]),([2,3],[2,3]),([4],[4]),([],[]),([6],[6]),([1,5,7],[1,5,7]),([0,8,8],[0,8]),([9,9,0,1,2,3,4,5,6,7,8,9],[0,9])])
def sentrylaw7_below.B8:List Nat:=[0,0,0,0,12,28,0,64,254,511,1023]
theorem sentrylaw7_below.tab8:rtab .any (opsOf Tryz.f87 8)=sentrylaw7_below.T8:=by kernel_rfl
theorem sentrylaw7_below.bits8:waitsOk sentrylaw7_below.T8.2 sentrylaw7_below.B8=true:=by kernel_rfl
theorem sentrylaw7_below.calls(k : Nat) : ∀ (A0_0 : Option Addr) (c0_0 : Nat) (l0_0 : List ByteArray) (A0_1 : Option Addr) (c0_1 : Nat) (l0_1 : List (S47)) (a1 : Int) (a2 : Int) (r : List (S47)) (w : World) (hr0_0 : Kd.C Kd.string w A0_0 l0_0.length l0_0) (hc0_0 : l0_0.length ≤ c0_0) (hr0_1 : Kd.C k47 w A0_1 l0_1.length l0_1) (hc0_1 : l0_1.length ≤ c0_1) (h : sentrylaw7_below.f k l0_0 l0_1 a1 a2 = some r),
  Calls Tryz.prog 87 #[.agg #[.slice A0_0 l0_0.length c0_0,.slice A0_1 l0_1.length c0_1],.int .i64 a1,.int .i64 a2] w fun e w' => ∃ v0_:Value,e = .returned (v0_)∧Kd.N k47 47 w' w.heap.size (fun k_=>(w.heap.size≤k_)) v0_ r∧Below w.heap.size w w':=by
 induction k using Nat.strongRecOn with
 | _ k ih =>
 intro A0_0 c0_0 l0_0 A0_1 c0_1 l0_1 a1 a2 r w hr0_0 hc0_0 hr0_1 hc0_1 h
 cases k with
 | zero => exact absurd h (by simp [sentrylaw7_below.f])
 | succ k =>
 simp only [sentrylaw7_below.f] at h;have hu25:=Tryz.underlying25;have hu47:=Tryz.underlying47;have HR0_0:=am hr0_0;have HC0_0:=am hc0_0;clear hr0_0 hc0_0;have HR0_1:=am hr0_1;have HC0_1:=am hc0_1;clear hr0_1 hc0_1;have HB:=am (Below.refl w.heap.size w);have H:(if 0≤a1 then (if a1<(l0_1.length:Int) then ((sentrylaw7_round.f k ((rd_T47 l0_1 a1).f5)).bind fun t104=>((sentrylaw7_round.f k ((rd_T47 l0_1 a1).f6)).bind fun t107=>((sentryref4_Kids.f k l0_0 l0_1 ((rd_T47 l0_1 a1).f0)).bind fun t113=>(sentrylaw7_below.l0 k a2 (([(⟨(rd_T47 l0_1 a1).f0,(rd_T47 l0_1 a1).f1,(rd_T47 l0_1 a1).f2,(rd_T47 l0_1 a1).f3,(rd_T47 l0_1 a1).f4,t104,t107⟩:S47)]:List (S47))) t113 (wrap64 ((t113.length:Int) - 1)) l0_0 l0_1)))) else (none)) else (none))=some r:=h;clear h;by_cases c4:0≤a1
 ·
  rw [if_pos c4] at H;have c4b0:=Qb c4;clear c4;by_cases c5:a1<(l0_1.length:Int)
  ·
   rw [if_pos c5] at H;have c5b0:=Qb c5;clear c5;replace H:=Qe H;obtain⟨t104,A60,H⟩:=H;have A6:=am A60;clear A60;replace H:=Qe H;obtain⟨t107,A70,H⟩:=H;have A7:=am A70;clear A70;obtain⟨y110,hy110⟩:∃ y_:List (S47),y_=(([(⟨(rd_T47 l0_1 a1).f0,(rd_T47 l0_1 a1).f1,(rd_T47 l0_1 a1).f2,(rd_T47 l0_1 a1).f3,(rd_T47 l0_1 a1).f4,t104,t107⟩:S47)]:List (S47))):=⟨_,rfl⟩;replace H:((sentryref4_Kids.f k l0_0 l0_1 ((rd_T47 l0_1 a1).f0)).bind fun t113=>(sentrylaw7_below.l0 k a2 y110 t113 (wrap64 ((t113.length:Int) - 1)) l0_0 l0_1))=some r:=by first|(rw [hy110];with_reducible exact H)|(have H2_:=(Option.bind_some _ _).symm.trans H;rw [hy110];with_reducible exact H2_)|(have H2_:=(Option.bind_some _ _).symm.trans H;with_reducible exact H2_)|with_reducible exact H|(rw [hy110];exact H)|exact H
   have Ny110:=am hy110;clear hy110;replace H:=Qe H;obtain⟨t113,A80,H⟩:=H;have A8:=am A80;clear A80;have H':=am H;clear H;go_enter Tryz.func87,Tryz.ntmps87;try go_wp2_with (first|((with_reducible refine gd_ 3 ?_);refine bx_ 3 #[.slice A0_0 l0_0.length c0_0,.slice A0_1 l0_1.length c0_1] 25 ?_;intro gb101 hg w9 hbox hb;have BK101:=am (hbox);have GE101:=am (zg:w.heap.size≤gb101);replace HB:=am (below_step (zb) hb);clear hb hbox hg;obtain⟨hcz10_0,hcz10_1,hfz10_0,hfz10_1⟩:=cf2 BK101.out;have p102:0≤(a1:Int):=Qo;have q102:a1<(l0_1.length:Int):=Qo;obtain⟨ad102,A102_5,c102_5,A102_6,c102_6,e102,hx102_0,hx102_1,hx102_2,hx102_3,hx102_4,hx102_5,hx102_6,hl102_5,hi102_5,hl102_6,hi102_6⟩:=at_T47 HR0_1.out a1 p102 q102;cases e102;replace hx102_0:=ba HB hx102_0;replace hx102_1:=ba HB hx102_1;replace hx102_2:=ba HB hx102_2;replace hx102_3:=ba HB hx102_3;replace hx102_4:=ba HB hx102_4;replace hx102_5:=ba HB hx102_5;replace hx102_6:=ba HB hx102_6;have HR102_5:=am hi102_5;have HC102_5:=am hl102_5;clear hi102_5 hl102_5;have HR102_6:=am hi102_6;have HC102_6:=am hl102_6;clear hi102_6 hl102_6;replace p102:=eq_true p102;replace q102:=eq_true q102)|((with_reducible refine gd_ 7 ?_);refine bx_ 7 #[.string (⟨#[]⟩:ByteArray),.int .i64 0,.string (⟨#[]⟩:ByteArray),.bool false,.int .i64 0,.slice none 0 0,.slice none 0 0] 47 ?_;intro gb103 hg w11 hbox hb;have BK103:=am (hbox);have GE103:=am (zg:w.heap.size≤gb103);replace HB:=am (below_step (zb) hb);have NB101_103:=am ((zn BK101.out:gb101≠gb103));have NB103_101:=am ((zm BK101.out:gb103≠gb101));replace BK101:=am (zw BK101.out hb);clear hb hbox hg;obtain⟨hcz13_0,hcz13_1,hcz13_2,hcz13_3,hcz13_4,hcz13_5,hcz13_6,hfz13_0,hfz13_1,hfz13_2,hfz13_3,hfz13_4,hfz13_5,hfz13_6⟩:=cf7 BK103.out))
   have n0_:Aside0 ((((((((w11.setCell ⟨gb103,0,none⟩ (.string ((rd_T47 l0_1 a1).f0))).setCell ⟨gb103,1,none⟩ (.int .i64 ((rd_T47 l0_1 a1).f1))).setCell ⟨gb103,2,none⟩ (.string ((rd_T47 l0_1 a1).f2))).setCell ⟨gb103,3,none⟩ (.bool ((rd_T47 l0_1 a1).f3))).setCell ⟨gb103,4,none⟩ (.int .i64 ((rd_T47 l0_1 a1).f4))).setCell ⟨gb103,5,none⟩ (.slice A102_5 ((rd_T47 l0_1 a1).f5).length c102_5)).setCell ⟨gb103,6,none⟩ (.slice A102_6 ((rd_T47 l0_1 a1).f6).length c102_6)).heap[gb101]? = some (.cells #[.slice A0_0 l0_0.length c0_0,.slice (some ad102) l0_1.length c0_1] 25 (0,0))):=⟨by refine zl ?_;refine blk_far ?_ NB101_103.out _;refine zl ?_;refine blk_far ?_ NB101_103.out _;refine zl ?_;refine blk_far ?_ NB101_103.out _;refine zl ?_;refine blk_far ?_ NB101_103.out _;refine zl ?_;refine blk_far ?_ NB101_103.out _;refine zl ?_;refine blk_far ?_ NB101_103.out _;refine zl ?_;refine blk_far ?_ NB101_103.out _;refine zl ?_;exact BK101.out⟩;have n1_:Aside0 ((((((((w11.setCell ⟨gb103,0,none⟩ (.string ((rd_T47 l0_1 a1).f0))).setCell ⟨gb103,1,none⟩ (.int .i64 ((rd_T47 l0_1 a1).f1))).setCell ⟨gb103,2,none⟩ (.string ((rd_T47 l0_1 a1).f2))).setCell ⟨gb103,3,none⟩ (.bool ((rd_T47 l0_1 a1).f3))).setCell ⟨gb103,4,none⟩ (.int .i64 ((rd_T47 l0_1 a1).f4))).setCell ⟨gb103,5,none⟩ (.slice A102_5 ((rd_T47 l0_1 a1).f5).length c102_5)).setCell ⟨gb103,6,none⟩ (.slice A102_6 ((rd_T47 l0_1 a1).f6).length c102_6)).heap[gb103]? = some (.cells #[.string ((rd_T47 l0_1 a1).f0),.int .i64 ((rd_T47 l0_1 a1).f1),.string ((rd_T47 l0_1 a1).f2),.bool ((rd_T47 l0_1 a1).f3),.int .i64 ((rd_T47 l0_1 a1).f4),.slice A102_5 ((rd_T47 l0_1 a1).f5).length c102_5,.slice A102_6 ((rd_T47 l0_1 a1).f6).length c102_6] 47 (0,0))):=⟨by refine zl ?_;refine blk_put (cs:=#[.string ((rd_T47 l0_1 a1).f0),.int .i64 ((rd_T47 l0_1 a1).f1),.string ((rd_T47 l0_1 a1).f2),.bool ((rd_T47 l0_1 a1).f3),.int .i64 ((rd_T47 l0_1 a1).f4),.slice A102_5 ((rd_T47 l0_1 a1).f5).length c102_5,.slice none 0 0]) ?_ 6 _ rfl;refine zl ?_;refine blk_put (cs:=#[.string ((rd_T47 l0_1 a1).f0),.int .i64 ((rd_T47 l0_1 a1).f1),.string ((rd_T47 l0_1 a1).f2),.bool ((rd_T47 l0_1 a1).f3),.int .i64 ((rd_T47 l0_1 a1).f4),.slice none 0 0,.slice none 0 0]) ?_ 5 _ rfl;refine zl ?_;refine blk_put (cs:=#[.string ((rd_T47 l0_1 a1).f0),.int .i64 ((rd_T47 l0_1 a1).f1),.string ((rd_T47 l0_1 a1).f2),.bool ((rd_T47 l0_1 a1).f3),.int .i64 0,.slice none 0 0,.slice none 0 0]) ?_ 4 _ rfl;refine zl ?_;refine blk_put (cs:=#[.string ((rd_T47 l0_1 a1).f0),.int .i64 ((rd_T47 l0_1 a1).f1),.string ((rd_T47 l0_1 a1).f2),.bool false,.int .i64 0,.slice none 0 0,.slice none 0 0]) ?_ 3 _ rfl;refine zl ?_;refine blk_put (cs:=#[.string ((rd_T47 l0_1 a1).f0),.int .i64 ((rd_T47 l0_1 a1).f1),.string (⟨#[]⟩:ByteArray),.bool false,.int .i64 0,.slice none 0 0,.slice none 0 0]) ?_ 2 _ rfl;refine zl ?_;refine blk_put (cs:=#[.string ((rd_T47 l0_1 a1).f0),.int .i64 0,.string (⟨#[]⟩:ByteArray),.bool false,.int .i64 0,.slice none 0 0,.slice none 0 0]) ?_ 1 _ rfl;refine zl ?_;refine blk_put (cs:=#[.string (⟨#[]⟩:ByteArray),.int .i64 0,.string (⟨#[]⟩:ByteArray),.bool false,.int .i64 0,.slice none 0 0,.slice none 0 0]) ?_ 0 _ rfl;refine zl ?_;exact BK103.out⟩;have n2_:Aside0 (Below w.heap.size w (((((((w11.setCell ⟨gb103,0,none⟩ (.string ((rd_T47 l0_1 a1).f0))).setCell ⟨gb103,1,none⟩ (.int .i64 ((rd_T47 l0_1 a1).f1))).setCell ⟨gb103,2,none⟩ (.string ((rd_T47 l0_1 a1).f2))).setCell ⟨gb103,3,none⟩ (.bool ((rd_T47 l0_1 a1).f3))).setCell ⟨gb103,4,none⟩ (.int .i64 ((rd_T47 l0_1 a1).f4))).setCell ⟨gb103,5,none⟩ (.slice A102_5 ((rd_T47 l0_1 a1).f5).length c102_5)).setCell ⟨gb103,6,none⟩ (.slice A102_6 ((rd_T47 l0_1 a1).f6).length c102_6))):=⟨zb⟩
   (try clear BK101)
   (try clear BK103)
   (try clear HB)
   generalize (((((((w11.setCell ⟨gb103,0,none⟩ (.string ((rd_T47 l0_1 a1).f0))).setCell ⟨gb103,1,none⟩ (.int .i64 ((rd_T47 l0_1 a1).f1))).setCell ⟨gb103,2,none⟩ (.string ((rd_T47 l0_1 a1).f2))).setCell ⟨gb103,3,none⟩ (.bool ((rd_T47 l0_1 a1).f3))).setCell ⟨gb103,4,none⟩ (.int .i64 ((rd_T47 l0_1 a1).f4))).setCell ⟨gb103,5,none⟩ (.slice A102_5 ((rd_T47 l0_1 a1).f5).length c102_5)).setCell ⟨gb103,6,none⟩ (.slice A102_6 ((rd_T47 l0_1 a1).f6).length c102_6))=w14 at n0_ n1_ n2_ ⊢;have BK101:=n0_;have BK103:=n1_;have HB:=n2_;clear n0_ n1_ n2_;replace BK101:=am (blk_drew BK101.out);replace BK103:=am (blk_drew BK103.out);replace HB:=am (below_drew1 HB.out);refine start_ (n:=10) (S:=fun w'=>w'.cell? ⟨gb103,0,none⟩=some (.string ((rd_T47 l0_1 a1).f0))∧w'.cell? ⟨gb103,1,none⟩=some (.int .i64 ((rd_T47 l0_1 a1).f1))∧w'.cell? ⟨gb103,2,none⟩=some (.string ((rd_T47 l0_1 a1).f2))∧w'.cell? ⟨gb103,3,none⟩=some (.bool ((rd_T47 l0_1 a1).f3))∧w'.cell? ⟨gb103,4,none⟩=some (.int .i64 ((rd_T47 l0_1 a1).f4))∧w'.cell? ⟨gb103,5,none⟩=some (.slice A102_5 ((rd_T47 l0_1 a1).f5).length c102_5)∧w'.cell? ⟨gb103,6,none⟩=some (.slice A102_6 ((rd_T47 l0_1 a1).f6).length c102_6)) (ds:=[7,9]) #[false,false,false,false,false,false,false,false,false,false] (by kernel_rfl) rfl rfl ⟨bc BK103 0,bc BK103 1,bc BK103 2,bc BK103 3,bc BK103 4,bc BK103 5,bc BK103 6⟩ (fun hHeld=>?_);refine with_tabW sentrylaw7_below.tab2 sentrylaw7_below.bits2 (fun HT_ HW_=>?_);generalize w14.drew=w15 at BK101 BK103 HB hHeld ⊢;refine pz_ 0 16 10 1 ?_;refine pz_ 3 19 10 9 ?_;refine tz_ 1 17 10 11 ?_;refine tz_ 4 20 10 27 ?_;refine oz_ 2 18 10 31 (fun K hK=>?_);refine goes_ Tryz.func134 (by kernel_rfl) rfl #[.slice A102_5 ((rd_T47 l0_1 a1).f5).length c102_5] (by rfl) rfl rfl (za) ?_;with_reducible refine (sentrylaw7_round.calls k _ _ ((rd_T47 l0_1 a1).f5) t104 _ ?side1 ?side2 A6.out).mono ?_
   (case side1=>exact zc (Kd.C_below HR102_5.out HB.out))
   (case side2=>exact HC102_5.out)
   rintro e w16 ⟨v105,rfl,ho0,hb⟩;refine⟨_,rfl,?_⟩;have HO106:=am (Kd.N_lower (Kd.N_mono (ok':=fun k_=>(w.heap.size≤k_)∧k_≠gb101∧k_≠gb103) (Kd.S_N (Kd.S_bound ho0)) (fun k_ hk_=>⟨(Nat.le_trans (below_size (zb)) hk_.2.1),(Kd.freshB (g:=gb101) (o:=.cells #[.slice A0_0 l0_0.length c0_0,.slice (some ad102) l0_1.length c0_1] 25 (0,0)) (zl BK101.out) k_ hk_.2.1),(Kd.freshB (g:=gb103) (o:=.cells #[.string ((rd_T47 l0_1 a1).f0),.int .i64 ((rd_T47 l0_1 a1).f1),.string ((rd_T47 l0_1 a1).f2),.bool ((rd_T47 l0_1 a1).f3),.int .i64 ((rd_T47 l0_1 a1).f4),.slice A102_5 ((rd_T47 l0_1 a1).f5).length c102_5,.slice A102_6 ((rd_T47 l0_1 a1).f6).length c102_6] 47 (0,0)) (zl BK103.out) k_ hk_.2.1)⟩)) (below_size (zb)));replace BK101:=am (zw BK101.out hb);replace BK103:=am (zw BK103.out hb);replace HB:=am (below_step (zb) hb)
   (try clear hb)
   (try clear hb2)
   (try clear hk)
   (try clear hi)
   (try clear ho0)
   refine hK.out _ _ ⟨bc BK103 0,bc BK103 1,bc BK103 2,bc BK103 3,bc BK103 4,bc BK103 5,bc BK103 6⟩ (fun hHeld=>?_);clear hK K;refine nz_ 18 ?_;refine pz_ 6 22 10 95 ?_;refine oz_ 5 21 10 127 (fun K hK=>?_);refine goes_ Tryz.func134 (by kernel_rfl) rfl #[.slice A102_6 ((rd_T47 l0_1 a1).f6).length c102_6] (by rfl) rfl rfl (za) ?_;with_reducible refine (sentrylaw7_round.calls k _ _ ((rd_T47 l0_1 a1).f6) t107 _ ?side1 ?side2 A7.out).mono ?_
   (case side1=>exact zc (Kd.C_below HR102_6.out HB.out))
   (case side2=>exact HC102_6.out)
   rintro e w17 ⟨v108,rfl,ho0,hb⟩;refine⟨_,rfl,?_⟩;have HO109:=am (Kd.N_lower (Kd.N_mono (ok':=fun k_=>(w.heap.size≤k_)∧some k_≠(v105:Value).ownBlock∧k_≠gb101∧k_≠gb103) (Kd.S_N (Kd.S_bound ho0)) (fun k_ hk_=>⟨(Nat.le_trans (below_size (zb)) hk_.2.1),(Kd.fresh' (Kd.N_lt (zN HO106.out)) k_ hk_.2.1),(Kd.freshB (g:=gb101) (o:=.cells #[.slice A0_0 l0_0.length c0_0,.slice (some ad102) l0_1.length c0_1] 25 (0,0)) (zl BK101.out) k_ hk_.2.1),(Kd.freshB (g:=gb103) (o:=.cells #[.string ((rd_T47 l0_1 a1).f0),.int .i64 ((rd_T47 l0_1 a1).f1),.string ((rd_T47 l0_1 a1).f2),.bool ((rd_T47 l0_1 a1).f3),.int .i64 ((rd_T47 l0_1 a1).f4),.slice A102_5 ((rd_T47 l0_1 a1).f5).length c102_5,.slice A102_6 ((rd_T47 l0_1 a1).f6).length c102_6] 47 (0,0)) (zl BK103.out) k_ hk_.2.1)⟩)) (below_size (zb)));replace HO106:=am (Kd.N_elder' (zN HO106.out) (Kd.N_base (Kd.S_N ho0)) hb);replace BK101:=am (zw BK101.out hb);replace BK103:=am (zw BK103.out hb);replace HB:=am (below_step (zb) hb)
   (try clear hb)
   (try clear hb2)
   (try clear hk)
   (try clear hi)
   (try clear ho0)
   obtain⟨Ao18,co18,eo18⟩:=Kd.N_slice HO106.out
   (first|subst eo18|(injection eo18 with f1_ f2_ f3_;have f4_:=f1_.symm;have f5_:=f3_.symm;clear f1_ f2_ f3_;subst f4_;subst f5_))
   obtain⟨Ao20,co20,eo20⟩:=Kd.N_slice HO109.out
   (first|subst eo20|(injection eo20 with f1_ f2_ f3_;have f4_:=f1_.symm;have f5_:=f3_.symm;clear f1_ f2_ f3_;subst f4_;subst f5_))
   refine hK.out _ _ ⟨bc BK103 0,bc BK103 1,bc BK103 2,bc BK103 3,bc BK103 4,bc BK103 5,bc BK103 6⟩ (fun hHeld=>?_);clear hK K;refine nz_ 21 ?_;refine last_ (i:=7) (N:=none) #[true,true,true,true,true,true,true,true,false,false] rfl rfl (one_of HT_.out (by kernel_rfl)) (by decide) (fun K hK=>?_);have hs19:w17.cell? ⟨gb103,5,none⟩=some (.slice A102_5 ((rd_T47 l0_1 a1).f5).length c102_5):=bc BK103 5;have hfs19:=blk_frozen BK103.out 5;have hns19_0:=NB101_103.out;have hms19_0:=NB103_101.out;refine skip_ (w1:=?_) (by rfl) rfl ?_ ?_
   rotate_left
   ·
    go_simp
    rfl
   refine hK.out _ _ ?_;clear hK K;refine pz_ 8 23 10 511 ?_;refine last_ (i:=9) (N:=none) #[true,true,true,true,true,true,true,true,true,true] rfl rfl (one_of HT_.out (by kernel_rfl)) (by decide) (fun K hK=>?_);have hs21:w17.cell? ⟨gb103,6,none⟩=some (.slice A102_6 ((rd_T47 l0_1 a1).f6).length c102_6):=bc BK103 6;have hfs21:=blk_frozen BK103.out 6;have hns21_0:=NB101_103.out;have hms21_0:=NB103_101.out;refine skip_ (w1:=?_) (by rfl) rfl ?_ ?_
   rotate_left
   ·
    go_simp
    rfl
   refine hK.out _ _ ?_;clear hK K;refine done_ (done_of HT_.out (by kernel_rfl)) ?_;have n0_:Aside0 (Kd.N k29 29 ((w17.setCell ⟨gb103,5,none⟩ (.slice Ao18 t104.length co18)).setCell ⟨gb103,6,none⟩ (.slice Ao20 t107.length co20)) w.heap.size (fun k_=>(w.heap.size≤k_)∧some k_≠(.slice Ao20 t107.length co20:Value).ownBlock∧k_≠gb101∧k_≠gb103) (.slice Ao18 t104.length co18) t104):=⟨by refine zN ?_;exact Kd.N_mono (Kd.N_far (p:=⟨gb103,6,none⟩) (Kd.N_far (p:=⟨gb103,5,none⟩) (Kd.N_mono HO106.out (fun k_ hk=>(⟨hk,hk.1.2.2⟩:_∧k_≠gb103))) (fun _ hk=>hk.2) (.slice Ao18 t104.length co18)) (fun _ hk=>hk.2) (.slice Ao20 t107.length co20)) (fun _ hk=>⟨hk.1.1.1,⟨hk.1.2,⟨hk.1.1.2.1,hk.1.1.2.2⟩⟩⟩)⟩;have n1_:Aside0 (Kd.N k29 29 ((w17.setCell ⟨gb103,5,none⟩ (.slice Ao18 t104.length co18)).setCell ⟨gb103,6,none⟩ (.slice Ao20 t107.length co20)) w.heap.size (fun k_=>(w.heap.size≤k_)∧some k_≠(.slice Ao18 t104.length co18:Value).ownBlock∧k_≠gb101∧k_≠gb103) (.slice Ao20 t107.length co20) t107):=⟨by refine zN ?_;exact Kd.N_mono (Kd.N_far (p:=⟨gb103,6,none⟩) (Kd.N_far (p:=⟨gb103,5,none⟩) (Kd.N_mono HO109.out (fun k_ hk=>(⟨hk,hk.2.2.2⟩:_∧k_≠gb103))) (fun _ hk=>hk.2) (.slice Ao18 t104.length co18)) (fun _ hk=>hk.2) (.slice Ao20 t107.length co20)) (fun _ hk=>⟨hk.1.1,⟨hk.1.2.1,⟨hk.1.2.2.1,hk.1.2.2.2⟩⟩⟩)⟩;have n2_:Aside0 (((w17.setCell ⟨gb103,5,none⟩ (.slice Ao18 t104.length co18)).setCell ⟨gb103,6,none⟩ (.slice Ao20 t107.length co20)).heap[gb101]? = some (.cells #[.slice A0_0 l0_0.length c0_0,.slice (some ad102) l0_1.length c0_1] 25 (0,0))):=⟨by refine zl ?_;refine blk_far ?_ NB101_103.out _;refine zl ?_;refine blk_far ?_ NB101_103.out _;refine zl ?_;exact BK101.out⟩;have n3_:Aside0 (((w17.setCell ⟨gb103,5,none⟩ (.slice Ao18 t104.length co18)).setCell ⟨gb103,6,none⟩ (.slice Ao20 t107.length co20)).heap[gb103]? = some (.cells #[.string ((rd_T47 l0_1 a1).f0),.int .i64 ((rd_T47 l0_1 a1).f1),.string ((rd_T47 l0_1 a1).f2),.bool ((rd_T47 l0_1 a1).f3),.int .i64 ((rd_T47 l0_1 a1).f4),.slice Ao18 t104.length co18,.slice Ao20 t107.length co20] 47 (0,0))):=⟨by refine zl ?_;refine blk_put (cs:=#[.string ((rd_T47 l0_1 a1).f0),.int .i64 ((rd_T47 l0_1 a1).f1),.string ((rd_T47 l0_1 a1).f2),.bool ((rd_T47 l0_1 a1).f3),.int .i64 ((rd_T47 l0_1 a1).f4),.slice Ao18 t104.length co18,.slice A102_6 ((rd_T47 l0_1 a1).f6).length c102_6]) ?_ 6 _ rfl;refine zl ?_;refine blk_put (cs:=#[.string ((rd_T47 l0_1 a1).f0),.int .i64 ((rd_T47 l0_1 a1).f1),.string ((rd_T47 l0_1 a1).f2),.bool ((rd_T47 l0_1 a1).f3),.int .i64 ((rd_T47 l0_1 a1).f4),.slice A102_5 ((rd_T47 l0_1 a1).f5).length c102_5,.slice A102_6 ((rd_T47 l0_1 a1).f6).length c102_6]) ?_ 5 _ rfl;refine zl ?_;exact BK103.out⟩;have n4_:Aside0 (Below w.heap.size w ((w17.setCell ⟨gb103,5,none⟩ (.slice Ao18 t104.length co18)).setCell ⟨gb103,6,none⟩ (.slice Ao20 t107.length co20))):=⟨zb⟩
   (try clear HO106)
   (try clear HO109)
   (try clear BK101)
   (try clear BK103)
   (try clear HB)
   generalize ((w17.setCell ⟨gb103,5,none⟩ (.slice Ao18 t104.length co18)).setCell ⟨gb103,6,none⟩ (.slice Ao20 t107.length co20))=w22 at n0_ n1_ n2_ n3_ n4_ ⊢;have HO106:=n0_;have HO109:=n1_;have BK101:=n2_;have BK103:=n3_;have HB:=n4_;clear n0_ n1_ n2_ n3_ n4_;obtain⟨hcz23_0,hcz23_1,hcz23_2,hcz23_3,hcz23_4,hcz23_5,hcz23_6,hfz23_0,hfz23_1,hfz23_2,hfz23_3,hfz23_4,hfz23_5,hfz23_6⟩:=cf7 BK103.out;try go_wp2_with (first|((with_reducible refine gd_ 25 ?_);refine Kd.N_lit k47 _ 47 ?hg (N':=25) ?hd (xs:=([(⟨(rd_T47 l0_1 a1).f0,(rd_T47 l0_1 a1).f1,(rd_T47 l0_1 a1).f2,(rd_T47 l0_1 a1).f3,(rd_T47 l0_1 a1).f4,t104,t107⟩:S47)]:List (S47))) (inner:=[.string ((rd_T47 l0_1 a1).f0),.int .i64 ((rd_T47 l0_1 a1).f1),.string ((rd_T47 l0_1 a1).f2),.bool ((rd_T47 l0_1 a1).f3),.int .i64 ((rd_T47 l0_1 a1).f4),.slice Ao18 t104.length co18,.slice Ao20 t107.length co20]) (ok:=(fun k_=>(w.heap.size≤k_)∧k_≠gb101∧k_≠gb103)) (okp:=(fun k_=>(w.heap.size≤k_)∧k_≠gb101∧k_≠gb103)) ?hr ?hp (fun _ hk=>hk) ((show ∀ k_,w22.heap.size≤k_→(fun k_=>(w.heap.size≤k_)∧k_≠gb101∧k_≠gb103) k_ from fun k_ hk=>⟨(Nat.le_trans (below_size (zb)) hk),Kd.freshB (g:=gb101) (o:=.cells #[.slice A0_0 l0_0.length c0_0,.slice (some ad102) l0_1.length c0_1] 25 (0,0)) (zl BK101.out) k_ hk,Kd.freshB (g:=gb103) (o:=.cells #[.string ((rd_T47 l0_1 a1).f0),.int .i64 ((rd_T47 l0_1 a1).f1),.string ((rd_T47 l0_1 a1).f2),.bool ((rd_T47 l0_1 a1).f3),.int .i64 ((rd_T47 l0_1 a1).f4),.slice Ao18 t104.length co18,.slice Ao20 t107.length co20] 47 (0,0)) (zl BK103.out) k_ hk⟩) _ (Nat.le_refl _)) (Below.refl _ _) (Nat.le_refl _) (by simp) ?_;(case hd=>rfl);(case hg=>rfl);(case hr=>first|(go_simp;done)|(go_simp;rfl));(case hp=>exact (Reps.c7 (show Kd.FK k47 _ _ (⟨(rd_T47 l0_1 a1).f0,(rd_T47 l0_1 a1).f1,(rd_T47 l0_1 a1).f2,(rd_T47 l0_1 a1).f3,(rd_T47 l0_1 a1).f4,t104,t107⟩:S47) [.string ((rd_T47 l0_1 a1).f0),.int .i64 ((rd_T47 l0_1 a1).f1),.string ((rd_T47 l0_1 a1).f2),.bool ((rd_T47 l0_1 a1).f3),.int .i64 ((rd_T47 l0_1 a1).f4),.slice Ao18 t104.length co18,.slice Ao20 t107.length co20] from (k47_mkF _ _ (⟨(rd_T47 l0_1 a1).f0,(rd_T47 l0_1 a1).f1,(rd_T47 l0_1 a1).f2,(rd_T47 l0_1 a1).f3,(rd_T47 l0_1 a1).f4,t104,t107⟩:S47) (Kd.N_reads' (Kd.N_mono (ok':=(fun k_=>(w.heap.size≤k_)∧k_≠gb101∧k_≠gb103)) (HO106.out) (fun k_ hk=>⟨hk.1,⟨hk.2.2.1,hk.2.2.2⟩⟩))).2.1 (Kd.N_F (Kd.N_mono (ok':=(fun k_=>(w.heap.size≤k_)∧k_≠gb101∧k_≠gb103)) (HO106.out) (fun k_ hk=>⟨hk.1,⟨hk.2.2.1,hk.2.2.2⟩⟩))) (Kd.N_reads' (Kd.N_mono (ok':=(fun k_=>(w.heap.size≤k_)∧k_≠gb101∧k_≠gb103)) (HO109.out) (fun k_ hk=>⟨hk.1,⟨hk.2.2.1,hk.2.2.2⟩⟩))).2.1 (Kd.N_F (Kd.N_mono (ok':=(fun k_=>(w.heap.size≤k_)∧k_≠gb101∧k_≠gb103)) (HO109.out) (fun k_ hk=>⟨hk.1,⟨hk.2.2.1,hk.2.2.2⟩⟩))))) (Reps.none _ _)));intro v111 w24 ho25 hb hg_ hnew_;clear hg_ hnew_;(first|rw [← Ny110.out] at ho25|(simp only [Int.reduceToNat] at ho25;rw [← Ny110.out] at ho25));have HO112:=am (Kd.N_lower ho25 (below_size (zb)));replace BK101:=am (zw BK101.out hb);replace BK103:=am (zw BK103.out hb);replace HB:=am (below_step (zb) hb);clear HO106 HO109;clear hb ho25;obtain⟨hcz26_0,hcz26_1,hfz26_0,hfz26_1⟩:=cf2 BK101.out;obtain⟨hcz27_0,hcz27_1,hcz27_2,hcz27_3,hcz27_4,hcz27_5,hcz27_6,hfz27_0,hfz27_1,hfz27_2,hfz27_3,hfz27_4,hfz27_5,hfz27_6⟩:=cf7 BK103.out)|((with_reducible refine gc_ 44 ?_);refine goesL_ (some 29) rfl rfl Tryz.func44 (by kernel_rfl) rfl #[.agg #[.slice A0_0 l0_0.length c0_0,.slice (some ad102) l0_1.length c0_1],.string ((rd_T47 l0_1 a1).f0)] rfl (za) ?_;(with_reducible refine (sentryref4_Kids.calls k _ _ l0_0 _ _ l0_1 ((rd_T47 l0_1 a1).f0) t113 _ ?side1 ?side2 ?side3 ?side4 A8.out).mono ?_);(case side1=>exact zc (Kd.C_below HR0_0.out HB.out));(case side2=>exact HC0_0.out);(case side3=>exact zc (Kd.C_below HR0_1.out HB.out));(case side4=>exact HC0_1.out);rintro e w28 ⟨v114,rfl,ho0,hb⟩;refine⟨_,rfl,?_⟩;replace HO112:=am (Kd.N_elder' (zN HO112.out) (Kd.R_base ho0) hb);have HO115:=am (Kd.R_lower (Kd.R_newM (M:=fun k_=>(w.heap.size≤k_)) ho0 (below_size (zb)) (fun k_ h_=>h_)) (below_size (zb)));replace BK101:=am (zw BK101.out hb);replace BK103:=am (zw BK103.out hb);replace HB:=am (below_step (zb) hb);(try clear hb);(try clear hb2);(try clear hk);(try clear hi);(try clear ho0);obtain⟨Ao29,co29,eo29⟩:=Kd.R_slice HO115.out;subst eo29))
   go_loopg [8,10] k (fun kq v8 v10 w' => ∃ (x8_1:List (S47)) (x10_1:Int),v10 = .int .i64 x10_1∧Aside0 (sentrylaw7_below.l0 kq a2 x8_1 t113 x10_1 l0_0 l0_1=some r)∧Aside0 (kq≤k)∧Aside0 (Kd.N k47 47 w' w.heap.size (fun k_=>(w.heap.size≤k_)∧some k_≠((.slice Ao29 t113.length co29):Value).ownBlock∧k_≠gb101) v8 x8_1)∧Aside0 (Kd.R (Kd.int .i64) 3 w' w.heap.size (fun k_=>(w.heap.size≤k_)) (.slice Ao29 t113.length co29) t113)∧Aside0 (w'.heap[gb101]? = some (.cells #[(.slice A0_0 l0_0.length c0_0),(.slice (some ad102) l0_1.length c0_1)] 25 (0,0)))∧Aside0 (Below w.heap.size w w'))
   case atStart=>exact ⟨(y110),(wrap64 ((t113.length:Int) - 1)),(ze),H',⟨Nat.le_refl _⟩,⟨by refine zN ?_;exact Kd.N_mono HO112.out (fun _ hk=>⟨hk.1.1,⟨hk.2,hk.1.2.1⟩⟩)⟩,⟨by refine zR ?_;exact Kd.R_mono HO115.out (fun _ hk=>hk.1)⟩,⟨zl BK101.out⟩,⟨zb⟩⟩
   case round =>
    clear H';obtain⟨x8_1,x10_1,rfl,HA,HK1,HO_8,HO_9,BK101,HB⟩:=hrel
    cases gk with
    | zero => exact absurd HA.out (by simp [sentrylaw7_below.l0])
    | succ k1 =>
     have H:=HA.out;clear HA;simp only [sentrylaw7_below.l0] at H;by_cases c30:x10_1≥0
     ·
      rw [if_pos c30] at H;have c30b0:decide (0≤x10_1)=true:=Qb c30;clear c30;by_cases c31:a2<10
      ·
       rw [if_pos c31] at H;have c31b0:=Qb c31;clear c31;by_cases c32:0≤x10_1
       ·
        rw [if_pos c32] at H;have c32b0:=Qb c32;clear c32;by_cases c33:x10_1<(t113.length:Int)
        ·
         rw [if_pos c33] at H;have c33b0:=Qb c33;clear c33;replace H:=Qe H;obtain⟨t117,A340,H⟩:=H;have A34:=am A340;clear A340;by_cases c35:x8_1.length+t117.length<1353245080339
         ·
          rw [if_pos c35] at H;have LMc35:=am c35;clear c35;obtain⟨y120,hy120⟩:∃ y_:List (S47),y_=(x8_1++t117):=⟨_,rfl⟩;replace H:(sentrylaw7_below.l0 k1 a2 y120 t113 (wrap64 (x10_1 - 1)) l0_0 l0_1)=some r:=by first|(rw [hy120];with_reducible exact H)|(have H2_:=(Option.bind_some _ _).symm.trans H;rw [hy120];with_reducible exact H2_)|(have H2_:=(Option.bind_some _ _).symm.trans H;with_reducible exact H2_)|with_reducible exact H|(rw [hy120];exact H)|exact H
          have Ny120:=am hy120;clear hy120;have H':=am H;clear H;try go_wp2
          replace HO_8:=am (Kd.N_drew HO_8.out);replace HO_9:=am (Kd.R_drew HO_9.out);replace BK101:=am (blk_drew BK101.out);replace HB:=am (below_drew1 HB.out);have p116:0≤(x10_1:Int):=Qo;have q116:x10_1<(t113.length:Int):=Qo;obtain⟨ad116,e116,hx116_0⟩:=Kd.at_int (Kd.R_reads' HO_9.out).2.2 x10_1 p116 q116;cases e116;replace p116:=eq_true p116;replace q116:=eq_true q116;refine start_ (n:=11) (S:=fun w'=>w'.cell? ⟨gb101,0,none⟩=some (.slice A0_0 l0_0.length c0_0)∧w'.cell? ⟨gb101,1,none⟩=some (.slice (some ad102) l0_1.length c0_1)∧w'.cell? (ad116.add (x10_1).toNat)=some (.int .i64 (rd t113 x10_1))) (ds:=[9]) #[false,false,false,false,false,false,false,false,false,false,false] (by kernel_rfl) rfl rfl ⟨bc BK101 0,bc BK101 1,hx116_0⟩ (fun hHeld=>?_);refine with_tabW sentrylaw7_below.tab8 sentrylaw7_below.bits8 (fun HT_ HW_=>?_);generalize wr.drew=w36 at HO_8 HO_9 BK101 HB hx116_0 hHeld ⊢;refine pz_ 0 41 11 1 ?_;refine pz_ 2 43 11 5 ?_;refine pz_ 3 44 11 13 ?_;refine pz_ 4 45 11 29 ?_;refine pz_ 6 47 11 93 ?_;refine pz_ 7 48 11 221 ?_;refine tz_ 1 42 11 223 ?_;refine tz_ 5 46 11 255 ?_;refine oz_ 8 49 11 511 (fun K hK=>?_);refine goes_ Tryz.func87 (by kernel_rfl) rfl #[.agg #[.slice A0_0 l0_0.length c0_0,.slice (some ad102) l0_1.length c0_1],.int .i64 (rd t113 x10_1),.int .i64 (wrap64 (a2+1))] (by rfl) rfl rfl (za) ?_;with_reducible refine (ih k1 (by have:=HK1.out;omega) _ _ l0_0 _ _ l0_1 (rd t113 x10_1) (wrap64 (a2+1)) t117 _ ?side1 ?side2 ?side3 ?side4 A34.out).mono ?_
          (case side1=>exact zc (Kd.C_below HR0_0.out HB.out))
          (case side2=>exact HC0_0.out)
          (case side3=>exact zc (Kd.C_below HR0_1.out HB.out))
          (case side4=>exact HC0_1.out)
          rintro e w37 ⟨v118,rfl,ho0,hb⟩;have HS2_:=(hb.cell (Qk _ _ (hHeld.2.2))).trans (hHeld.2.2);refine⟨_,rfl,?_⟩;have HO119:=am (Kd.N_lower (Kd.N_mono (ok':=fun k_=>(w.heap.size≤k_)∧some k_≠(u8:Value).ownBlock∧some k_≠(.slice (some ad116) t113.length co29:Value).ownBlock∧k_≠gb101) ho0 (fun k_ hk_=>⟨(Nat.le_trans (below_size (zb)) hk_),(Kd.fresh' (Kd.N_lt (zN HO_8.out)) k_ hk_),(Kd.fresh' (Kd.R_lt (zR HO_9.out)) k_ hk_),(Kd.freshB (g:=gb101) (o:=.cells #[.slice A0_0 l0_0.length c0_0,.slice (some ad102) l0_1.length c0_1] 25 (0,0)) (zl BK101.out) k_ hk_)⟩)) (below_size (zb)));replace HO_8:=am (Kd.N_elder' (zN HO_8.out) (Kd.N_base ho0) hb);replace HO_9:=am (Kd.R_below (zR HO_9.out) hb);replace BK101:=am (zw BK101.out hb);replace HB:=am (below_step (zb) hb)
          (try clear hb)
          (try clear hb2)
          (try clear hk)
          (try clear hi)
          (try clear ho0)
          obtain⟨Ao39,co39,eo39⟩:=Kd.N_slice HO119.out
          (first|subst eo39|(injection eo39 with f1_ f2_ f3_;have f4_:=f1_.symm;have f5_:=f3_.symm;clear f1_ f2_ f3_;subst f4_;subst f5_))
          refine hK.out _ _ ⟨bc BK101 0,bc BK101 1,HS2_⟩ (fun hHeld=>?_);clear hK K;refine nz_ 49 ?_;refine last_ (i:=9) (N:=some 50) #[true,true,true,true,true,true,true,true,true,true,false] rfl rfl (one_of HT_.out (by kernel_rfl)) (by decide) (fun K hK=>?_);refine Kd.N_append_rows_step k47 (w0:=w) w.heap.size (by rfl) (.tmp 41) (.tmp 49) 23 47 (.agg #[(.string ⟨#[]⟩),(.int .i64 0),(.string ⟨#[]⟩),(.bool false),(.int .i64 0),(.slice none 0 0),(.slice none 0 0)]) 104 rfl Tryz.underlying23 info47 rfl (by decide) (by omega) u8 x8_1 t117 _ _ _ (fun k_=>(w.heap.size≤k_)∧some k_≠(.slice (some ad116) t113.length co29:Value).ownBlock∧k_≠gb101) (fun k_=>((fun k_=>(w.heap.size≤k_)∧some k_≠(.slice (some ad116) t113.length co29:Value).ownBlock∧k_≠gb101)) k_∧some k_≠(u8:Value).ownBlock) rfl rfl ?aO ?aR (fun _ hk=>hk) ?aF ?aB ?aS ?aL ?_
          (case aR=>exact (by skip;exact Kd.N_F (Kd.N_mono (ok':=(fun k_=>((fun k_=>(w.heap.size≤k_)∧some k_≠(.slice (some ad116) t113.length co29:Value).ownBlock∧k_≠gb101)) k_∧some k_≠(u8:Value).ownBlock)) (HO119.out) (fun k_ hk=>⟨⟨hk.1,⟨hk.2.2.1,hk.2.2.2⟩⟩,hk.2.1⟩))))
          (case aB=>exact (zb))
          (case aF=>exact (fun k_ hk=>⟨(Nat.le_trans (below_size (zb)) hk),Kd.fresh' (Kd.R_lt (zR HO_9.out)) k_ hk,Kd.freshB (g:=gb101) (o:=.cells #[.slice A0_0 l0_0.length c0_0,.slice (some ad102) l0_1.length c0_1] 25 (0,0)) (zl BK101.out) k_ hk⟩))
          (case aO=>exact (by refine zN ?_;exact Kd.N_mono HO_8.out (fun _ hk=>⟨hk.1.1,⟨hk.1.2.1,hk.1.2.2⟩⟩)))
          (case aS=>exact (below_size (zb)))
          (case aL=>have:=LMc35.out;omega)
          intro v121 w38 ho hb hg hat;rw [← Ny120.out] at ho;replace HO_9:=am (Kd.R_over' (zR HO_9.out) (Kd.N_typed (zN HO_8.out)) (by decide) hg);replace BK101:=am (blk_grown (g:=gb101) (o:=.cells #[.slice A0_0 l0_0.length c0_0,.slice (some ad102) l0_1.length c0_1] 25 (0,0)) (zl BK101.out) hg (Kd.N_ne HO_8.out BK101.out (by decide)));replace HO119:=am (Kd.N_afterv (ok:=(fun k_=>(w.heap.size≤k_)∧some k_≠(.slice (some ad116) t113.length co29:Value).ownBlock∧k_≠gb101)) (by refine zN ?_;exact Kd.N_mono HO119.out (fun _ hk=>⟨⟨hk.1,⟨hk.2.2.1,hk.2.2.2⟩⟩,hk.2.1⟩)) hg hat);replace HB:=am (hb);have HO122:=am (ho);clear HO_8;clear ho hb hg hat;refine hK.out _ _ ?_;clear hK K;refine nz_ 50 ?_;refine pz_ 10 8 11 2047 ?_;refine done_ (done_of HT_.out (by kernel_rfl)) ?_;try go_wp2
          go_roundg k1
          case measure=>have:=HK1.out;omega
          case rel=>exact ⟨(y120),(wrap64 (x10_1 - 1)),(ze),H',⟨by have:=HK1.out;omega⟩,⟨zN HO122.out⟩,⟨zR HO_9.out⟩,⟨zl BK101.out⟩,⟨zb⟩⟩
         rw [if_neg c35] at H;exact absurd H (by simp)
        rw [if_neg c33] at H;exact absurd H (by simp)
       rw [if_neg c32] at H;exact absurd H (by simp)
      rw [if_neg c31] at H;have c31b0:=Qc c31;clear c31;obtain rfl:=Qd H;go_wp2;go_ret;exact⟨_,zf,by refine zN ?_;exact Kd.N_mono HO_8.out (fun _ hk=>hk.1),zb⟩
     rw [if_neg c30] at H;have c30b0:decide (0≤x10_1)=false:=Qc c30;clear c30;obtain rfl:=Qd H;go_wp2;go_ret;exact⟨_,zf,by refine zN ?_;exact Kd.N_mono HO_8.out (fun _ hk=>hk.1),zb⟩
  rw [if_neg c5] at H;exact absurd H (by simp)
 rw [if_neg c4] at H;exact absurd H (by simp)
attribute [local go_sem high] eqA78 eqA93
mutual
def sentryref4_SameSentries.l0:Nat→List (S29)→List (S29)→Int→Option (Bool)
  | 0, _, _, _ => none
  | k+1,x0,x1,x5=>if x5<(x0.length:Int) then (if 0≤x5 then (if x5<(x1.length:Int) then (if (((rd_T29 x0 x5).f0).length:Int)=(((rd_T29 x1 x5).f0).length:Int) then (sentryref4_SameSentries.j1 k x0 x1 x5 ((((rd_T29 x0 x5).f1).length:Int) != (((rd_T29 x1 x5).f1).length:Int))) else (sentryref4_SameSentries.j1 k x0 x1 x5 true)) else (none)) else (none)) else (some true)
def sentryref4_SameSentries.j1:Nat→List (S29)→List (S29)→Int→Bool→Option (Bool)
  | 0, _, _, _, _ => none
  | k+1,x0,x1,x5,x46=>if x46=true then (some false) else (sentryref4_SameSentries.l1 k x0 x1 x5 0)
def sentryref4_SameSentries.l1:Nat→List (S29)→List (S29)→Int→Int→Option (Bool)
  | 0, _, _, _, _ => none
  | k+1,x0,x1,x5,x6=>if 0≤x5 then (if x5<(x0.length:Int) then (if x6<(((rd_T29 x0 x5).f0).length:Int) then (if 0≤x6 then (if x5<(x1.length:Int) then (if x6<(((rd_T29 x1 x5).f0).length:Int) then (if (!((((rd_T78 ((rd_T29 x0 x5).f0) x6).f0).toList) == (((rd_T78 ((rd_T29 x1 x5).f0) x6).f0).toList))||(!(((rd_T78 ((rd_T29 x0 x5).f0) x6).f1) == ((rd_T78 ((rd_T29 x1 x5).f0) x6).f1))))=true then (some false) else (sentryref4_SameSentries.l1 k x0 x1 x5 (wrap64 (x6+1)))) else (none)) else (none)) else (none)) else (sentryref4_SameSentries.l2 k x0 x1 x5 0)) else (none)) else (none)
def sentryref4_SameSentries.l2:Nat→List (S29)→List (S29)→Int→Int→Option (Bool)
  | 0, _, _, _, _ => none
  | k+1,x0,x1,x5,x7=>if 0≤x5 then (if x5<(x0.length:Int) then (if x7<(((rd_T29 x0 x5).f1).length:Int) then (if 0≤x7 then (if x5<(x1.length:Int) then (if x7<(((rd_T29 x1 x5).f1).length:Int) then (if (!((((rd_T93 ((rd_T29 x0 x5).f1) x7).f0).toList) == (((rd_T93 ((rd_T29 x1 x5).f1) x7).f0).toList))||(!((((rd_T93 ((rd_T29 x0 x5).f1) x7).f1).toList) == (((rd_T93 ((rd_T29 x1 x5).f1) x7).f1).toList))||(!(((rd_T93 ((rd_T29 x0 x5).f1) x7).f2) == ((rd_T93 ((rd_T29 x1 x5).f1) x7).f2)))))=true then (some false) else (sentryref4_SameSentries.l2 k x0 x1 x5 (wrap64 (x7+1)))) else (none)) else (none)) else (none)) else (sentryref4_SameSentries.l0 k x0 x1 (wrap64 (x5+1)))) else (none)) else (none)
end
def sentryref4_SameSentries.f(k:Nat)(l0:List (S29))(l1:List (S29)):Option (Bool):=if (l0.length:Int)=(l1.length:Int) then (sentryref4_SameSentries.l0 k l0 l1 0) else (some false)
theorem sentryref4_SameSentries.calls(k : Nat)(A0 : Option Addr)(c0 : Nat)(l0 : List (S29))(A1 : Option Addr)(c1 : Nat)(l1 : List (S29))(r : Bool)(w : World)(hr0 : Kd.C k29 w A0 l0.length l0)(hc0 : l0.length ≤ c0)(hr1 : Kd.C k29 w A1 l1.length l1)(hc1 : l1.length ≤ c1)(h : sentryref4_SameSentries.f k l0 l1 = some r) :
  Calls Tryz.prog 102 #[.slice A0 l0.length c0,.slice A1 l1.length c1] w fun e w'=>e = .returned (.bool r)∧Drawn0 w w':=by
 have hu78:=Tryz.underlying78;have hu93:=Tryz.underlying93;have HR0:=am hr0;have HC0:=am hc0;clear hr0 hc0;have HR1:=am hr1;have HC1:=am hc1;clear hr1 hc1;have H:(if (l0.length:Int)=(l1.length:Int) then (sentryref4_SameSentries.l0 k l0 l1 0) else (some false))=some r:=h;clear h;by_cases c3:(l0.length:Int)=(l1.length:Int)
 ·
  rw [if_pos c3] at H;have c3b0:=Qh c3;have c3b1:=Qf c3;have c3b2:(l0.length == l1.length)=true:=by first|simpa using c3|(simp at c3 ⊢;omega)
  clear c3;have H':=am H;clear H;go_enter Tryz.func102,Tryz.ntmps102;go_wp2;repeat (go_quiet (fail);try go_wp2)
  go_loopg [5] k (fun kq v5 w' => ∃ (x5_1:Int),v5 = .int .i64 x5_1∧Aside0 (sentryref4_SameSentries.l0 kq l0 l1 x5_1=some r)∧Aside0 (kq≤k)∧Drawn0 w w')
  case atStart=>exact ⟨(0),(ze),H',⟨Nat.le_refl _⟩,zd⟩
  case round =>
   clear H';try clear c1
   try clear c3
   try clear c3b0
   try clear c3b1
   try clear c3b2
   obtain⟨x5_1,rfl,HA,HK1,⟨m1,rfl⟩⟩:=hrel
   cases gk with
   | zero => exact absurd HA.out (by simp [sentryref4_SameSentries.l0])
   | succ k1 =>
    have H:=HA.out;clear HA;simp only [sentryref4_SameSentries.l0] at H;by_cases c4:x5_1<(l0.length:Int)
    ·
     rw [if_pos c4] at H;have c4b0:=Qb c4;clear c4;have HC5:=am H;clear H;go_upto_region 6 with (fail)
     repeat (go_quiet (fail);go_upto_region 6 with (fail))
     go_cut [46] (fun v46 wc => ∃ (kq:Nat) (x46_4:Bool),v46 = .bool x46_4∧Aside0 (sentryref4_SameSentries.j1 kq l0 l1 x5_1 x46_4=some r)∧Aside0 (kq≤k1)∧Drawn0 w wc)
     case first =>
      have H:=HC5.out;clear HC5;by_cases c6:0≤x5_1
      ·
       rw [if_pos c6] at H;have c6b0:=Qb c6;clear c6
       (first|rw [c6b0] | (simp only [i64_w,i32_w];rw [c6b0])|skip)
       by_cases c7:x5_1<(l1.length:Int)
       ·
        rw [if_pos c7] at H;have c7b0:=Qb c7;clear c7;by_cases c8:(((rd_T29 l0 x5_1).f0).length:Int)=(((rd_T29 l1 x5_1).f0).length:Int)
        ·
         rw [if_pos c8] at H;have c8b0:=Qh c8;have c8b1:=Qf c8;have c8b2:(((rd_T29 l0 x5_1).f0).length == ((rd_T29 l1 x5_1).f0).length)=true:=by first|simpa using c8|(simp at c8 ⊢;omega)
         clear c8;have H':=am H;clear H;have p101:0≤(x5_1:Int):=Qo;have q101:x5_1<(l0.length:Int):=Qo;obtain⟨ad101,A101_0,c101_0,A101_1,c101_1,e101,hx101_0,hx101_1,hl101_0,hi101_0,hl101_1,hi101_1⟩:=at_T29 HR0.out x5_1 p101 q101;cases e101;have HR101_0:=am hi101_0;have HC101_0:=am hl101_0;clear hi101_0 hl101_0;have HR101_1:=am hi101_1;have HC101_1:=am hl101_1;clear hi101_1 hl101_1;replace p101:=eq_true p101;replace q101:=eq_true q101;have p102:0≤(x5_1:Int):=Qo;have q102:x5_1<(l1.length:Int):=Qo;obtain⟨ad102,A102_0,c102_0,A102_1,c102_1,e102,hx102_0,hx102_1,hl102_0,hi102_0,hl102_1,hi102_1⟩:=at_T29 HR1.out x5_1 p102 q102;cases e102;have HR102_0:=am hi102_0;have HC102_0:=am hl102_0;clear hi102_0 hl102_0;have HR102_1:=am hi102_1;have HC102_1:=am hl102_1;clear hi102_1 hl102_1;replace p102:=eq_true p102;replace q102:=eq_true q102;have p103:0≤(x5_1:Int):=Qo;have q103:x5_1<(l0.length:Int):=Qo;obtain⟨ad103,A103_0,c103_0,A103_1,c103_1,e103,hx103_0,hx103_1,hl103_0,hi103_0,hl103_1,hi103_1⟩:=at_T29 HR0.out x5_1 p103 q103;obtain rfl:ad101=ad103:=(by injection e103);have HR103_0:=am hi103_0;have HC103_0:=am hl103_0;clear hi103_0 hl103_0;have HR103_1:=am hi103_1;have HC103_1:=am hl103_1;clear hi103_1 hl103_1;replace p103:=eq_true p103;replace q103:=eq_true q103;have ea_:=Qd (hx101_0.symm.trans hx103_0);injection ea_ with ea_ en_ ec_;subst ea_;subst ec_;clear en_;have ea_:=Qd (hx101_1.symm.trans hx103_1);injection ea_ with ea_ en_ ec_;subst ea_;subst ec_;clear en_;have p104:0≤(x5_1:Int):=Qo;have q104:x5_1<(l1.length:Int):=Qo;obtain⟨ad104,A104_0,c104_0,A104_1,c104_1,e104,hx104_0,hx104_1,hl104_0,hi104_0,hl104_1,hi104_1⟩:=at_T29 HR1.out x5_1 p104 q104;obtain rfl:ad102=ad104:=(by injection e104);have HR104_0:=am hi104_0;have HC104_0:=am hl104_0;clear hi104_0 hl104_0;have HR104_1:=am hi104_1;have HC104_1:=am hl104_1;clear hi104_1 hl104_1;replace p104:=eq_true p104;replace q104:=eq_true q104;have ea_:=Qd (hx102_0.symm.trans hx104_0);injection ea_ with ea_ en_ ec_;subst ea_;subst ec_;clear en_;have ea_:=Qd (hx102_1.symm.trans hx104_1);injection ea_ with ea_ en_ ec_;subst ea_;subst ec_;clear en_;go_wp2;repeat (go_quiet (fail);try go_wp2)
         go_meet
         case rel=>exact ⟨_,(((((rd_T29 l0 x5_1).f1).length:Int) != (((rd_T29 l1 x5_1).f1).length:Int))),(ze),H',⟨by have:=HK1.out;first|omega|exact Nat.le_refl _⟩,zd⟩
        rw [if_neg c8] at H;have c8b0:=Qg c8;have c8b1:=Qi c8;have c8b2:(((rd_T29 l0 x5_1).f0).length == ((rd_T29 l1 x5_1).f0).length)=false:=by first|simpa using c8|(simp at c8 ⊢;omega)
        have H':=am H;clear H;have p101:0≤(x5_1:Int):=Qo;have q101:x5_1<(l0.length:Int):=Qo;obtain⟨ad101,A101_0,c101_0,A101_1,c101_1,e101,hx101_0,hx101_1,hl101_0,hi101_0,hl101_1,hi101_1⟩:=at_T29 HR0.out x5_1 p101 q101;cases e101;have HR101_0:=am hi101_0;have HC101_0:=am hl101_0;clear hi101_0 hl101_0;have HR101_1:=am hi101_1;have HC101_1:=am hl101_1;clear hi101_1 hl101_1;replace p101:=eq_true p101;replace q101:=eq_true q101;have p102:0≤(x5_1:Int):=Qo;have q102:x5_1<(l1.length:Int):=Qo;obtain⟨ad102,A102_0,c102_0,A102_1,c102_1,e102,hx102_0,hx102_1,hl102_0,hi102_0,hl102_1,hi102_1⟩:=at_T29 HR1.out x5_1 p102 q102;cases e102;have HR102_0:=am hi102_0;have HC102_0:=am hl102_0;clear hi102_0 hl102_0;have HR102_1:=am hi102_1;have HC102_1:=am hl102_1;clear hi102_1 hl102_1;replace p102:=eq_true p102;replace q102:=eq_true q102;go_wp2;repeat (go_quiet (fail);try go_wp2)
        go_meet
        case rel=>exact ⟨_,(true),(ze),H',⟨by have:=HK1.out;first|omega|exact Nat.le_refl _⟩,zd⟩
       rw [if_neg c7] at H;exact absurd H (by simp)
      rw [if_neg c6] at H;exact absurd H (by simp)
     case rest =>
      clear HC5;try clear c1
      try clear c3
      try clear c3b0
      try clear c3b1
      try clear c3b2
      try clear c4
      try clear c4b0
      try clear c6
      try clear c6b0
      try clear c7
      try clear c7b0
      try clear c8
      try clear c8b0
      try clear c8b1
      try clear c8b2
      try clear hx101_0
      try clear hx101_1
      try clear hx102_0
      try clear hx102_1
      try clear hx103_0
      try clear hx103_1
      try clear hx104_0
      try clear hx104_1
      try clear p101
      try clear p102
      try clear p103
      try clear p104
      try clear q101
      try clear q102
      try clear q103
      try clear q104
      obtain⟨kq,x46_4,rfl,HA,HJ4,⟨mc4,rfl⟩⟩:=hcut
      cases kq with
      | zero => exact absurd HA.out (by simp [sentryref4_SameSentries.j1])
      | succ kj4 =>
       have H:=HA.out;clear HA;simp only [sentryref4_SameSentries.j1] at H;by_cases c9:x46_4=true
       ·
        subst c9;have H1:(some false)=some r:=by rw [if_pos rfl] at H;exact H
        clear H;have H:=H1;clear H1;obtain rfl:=Qd H;go_wp2;repeat (go_quiet (fail);try go_wp2)
        go_ret;exact⟨ze,zd⟩
       replace c9:=Qj c9;subst c9;have H1:(sentryref4_SameSentries.l1 kj4 l0 l1 x5_1 0)=some r:=by rw [if_neg (show ¬ (false=true) by decide)] at H;exact H
       clear H;have H:=H1;clear H1;have H':=am H;clear H;go_wp2;repeat (go_quiet (fail);try go_wp2)
       go_loopg [6] kj4 (fun kq v6 w' => ∃ (x6_3:Int),v6 = .int .i64 x6_3∧Aside0 (sentryref4_SameSentries.l1 kq l0 l1 x5_1 x6_3=some r)∧Aside0 (kq≤kj4)∧Drawn0 w w')
       case atStart=>exact ⟨(0),(ze),H',⟨Nat.le_refl _⟩,zd⟩
       case round =>
        clear H';try clear c1
        try clear c3
        try clear c3b0
        try clear c3b1
        try clear c3b2
        try clear c4
        try clear c4b0
        try clear c6
        try clear c6b0
        try clear c7
        try clear c7b0
        try clear c8
        try clear c8b0
        try clear c8b1
        try clear c8b2
        try clear c9
        try clear hx101_0
        try clear hx101_1
        try clear hx102_0
        try clear hx102_1
        try clear hx103_0
        try clear hx103_1
        try clear hx104_0
        try clear hx104_1
        try clear p101
        try clear p102
        try clear p103
        try clear p104
        try clear q101
        try clear q102
        try clear q103
        try clear q104
        obtain⟨x6_3,rfl,HA,HK3,⟨m3,rfl⟩⟩:=hrel
        cases gk with
        | zero => exact absurd HA.out (by simp [sentryref4_SameSentries.l1])
        | succ k3 =>
         have H:=HA.out;clear HA;simp only [sentryref4_SameSentries.l1] at H;by_cases c10:0≤x5_1
         ·
          rw [if_pos c10] at H;have c10b0:=Qb c10;clear c10;by_cases c11:x5_1<(l0.length:Int)
          ·
           rw [if_pos c11] at H;have c11b0:=Qb c11;clear c11;by_cases c12:x6_3<(((rd_T29 l0 x5_1).f0).length:Int)
           ·
            rw [if_pos c12] at H;have c12b0:=Qb c12;clear c12;by_cases c13:0≤x6_3
            ·
             rw [if_pos c13] at H;have c13b0:=Qb c13;clear c13;by_cases c14:x5_1<(l1.length:Int)
             ·
              rw [if_pos c14] at H;have c14b0:=Qb c14;clear c14;by_cases c15:x6_3<(((rd_T29 l1 x5_1).f0).length:Int)
              ·
               rw [if_pos c15] at H;have c15b0:=Qb c15;clear c15;by_cases c16:(!((((rd_T78 ((rd_T29 l0 x5_1).f0) x6_3).f0).toList) == (((rd_T78 ((rd_T29 l1 x5_1).f0) x6_3).f0).toList))||(!(((rd_T78 ((rd_T29 l0 x5_1).f0) x6_3).f1) == ((rd_T78 ((rd_T29 l1 x5_1).f0) x6_3).f1))))=true
               ·
                rw [if_pos c16] at H;have c16b0:(!((((rd_T78 ((rd_T29 l0 x5_1).f0) x6_3).f0).toList) == (((rd_T78 ((rd_T29 l1 x5_1).f0) x6_3).f0).toList))||(!(((rd_T78 ((rd_T29 l0 x5_1).f0) x6_3).f1) == ((rd_T78 ((rd_T29 l1 x5_1).f0) x6_3).f1))))=true:=c16;clear c16;obtain rfl:=Qd H;have p105:0≤(x5_1:Int):=Qo;have q105:x5_1<(l0.length:Int):=Qo;obtain⟨ad105,A105_0,c105_0,A105_1,c105_1,e105,hx105_0,hx105_1,hl105_0,hi105_0,hl105_1,hi105_1⟩:=at_T29 HR0.out x5_1 p105 q105;cases e105;have HR105_0:=am hi105_0;have HC105_0:=am hl105_0;clear hi105_0 hl105_0;have HR105_1:=am hi105_1;have HC105_1:=am hl105_1;clear hi105_1 hl105_1;replace p105:=eq_true p105;replace q105:=eq_true q105;have p106:0≤(x5_1:Int):=Qo;have q106:x5_1<(l0.length:Int):=Qo;obtain⟨ad106,A106_0,c106_0,A106_1,c106_1,e106,hx106_0,hx106_1,hl106_0,hi106_0,hl106_1,hi106_1⟩:=at_T29 HR0.out x5_1 p106 q106;obtain rfl:ad105=ad106:=(by injection e106);have HR106_0:=am hi106_0;have HC106_0:=am hl106_0;clear hi106_0 hl106_0;have HR106_1:=am hi106_1;have HC106_1:=am hl106_1;clear hi106_1 hl106_1;replace p106:=eq_true p106;replace q106:=eq_true q106;have ea_:=Qd (hx105_0.symm.trans hx106_0);injection ea_ with ea_ en_ ec_;subst ea_;subst ec_;clear en_;have ea_:=Qd (hx105_1.symm.trans hx106_1);injection ea_ with ea_ en_ ec_;subst ea_;subst ec_;clear en_;have p107:0≤(x6_3:Int):=Qo;have q107:x6_3<(((rd_T29 l0 x5_1).f0).length:Int):=Qo;obtain⟨ad107,e107,hx107_0,hx107_1⟩:=at_T78 HR106_0.out x6_3 p107 q107;cases e107;replace p107:=eq_true p107;replace q107:=eq_true q107;have p108:0≤(x5_1:Int):=Qo;have q108:x5_1<(l1.length:Int):=Qo;obtain⟨ad108,A108_0,c108_0,A108_1,c108_1,e108,hx108_0,hx108_1,hl108_0,hi108_0,hl108_1,hi108_1⟩:=at_T29 HR1.out x5_1 p108 q108;cases e108;have HR108_0:=am hi108_0;have HC108_0:=am hl108_0;clear hi108_0 hl108_0;have HR108_1:=am hi108_1;have HC108_1:=am hl108_1;clear hi108_1 hl108_1;replace p108:=eq_true p108;replace q108:=eq_true q108;have p109:0≤(x6_3:Int):=Qo;have q109:x6_3<(((rd_T29 l1 x5_1).f0).length:Int):=Qo;obtain⟨ad109,e109,hx109_0,hx109_1⟩:=at_T78 HR108_0.out x6_3 p109 q109;cases e109;replace p109:=eq_true p109;replace q109:=eq_true q109;go_wp2;repeat (go_quiet (fail);try go_wp2)
                go_ret;exact⟨ze,zd⟩
               rw [if_neg c16] at H;have c16b0:(!((((rd_T78 ((rd_T29 l0 x5_1).f0) x6_3).f0).toList) == (((rd_T78 ((rd_T29 l1 x5_1).f0) x6_3).f0).toList))||(!(((rd_T78 ((rd_T29 l0 x5_1).f0) x6_3).f1) == ((rd_T78 ((rd_T29 l1 x5_1).f0) x6_3).f1))))=false:=by simpa using c16
               clear c16;have H':=am H;clear H;have p105:0≤(x5_1:Int):=Qo;have q105:x5_1<(l0.length:Int):=Qo;obtain⟨ad105,A105_0,c105_0,A105_1,c105_1,e105,hx105_0,hx105_1,hl105_0,hi105_0,hl105_1,hi105_1⟩:=at_T29 HR0.out x5_1 p105 q105;cases e105;have HR105_0:=am hi105_0;have HC105_0:=am hl105_0;clear hi105_0 hl105_0;have HR105_1:=am hi105_1;have HC105_1:=am hl105_1;clear hi105_1 hl105_1;replace p105:=eq_true p105;replace q105:=eq_true q105;have p106:0≤(x5_1:Int):=Qo;have q106:x5_1<(l0.length:Int):=Qo;obtain⟨ad106,A106_0,c106_0,A106_1,c106_1,e106,hx106_0,hx106_1,hl106_0,hi106_0,hl106_1,hi106_1⟩:=at_T29 HR0.out x5_1 p106 q106;obtain rfl:ad105=ad106:=(by injection e106);have HR106_0:=am hi106_0;have HC106_0:=am hl106_0;clear hi106_0 hl106_0;have HR106_1:=am hi106_1;have HC106_1:=am hl106_1;clear hi106_1 hl106_1;replace p106:=eq_true p106;replace q106:=eq_true q106;have ea_:=Qd (hx105_0.symm.trans hx106_0);injection ea_ with ea_ en_ ec_;subst ea_;subst ec_;clear en_;have ea_:=Qd (hx105_1.symm.trans hx106_1);injection ea_ with ea_ en_ ec_;subst ea_;subst ec_;clear en_;have p107:0≤(x6_3:Int):=Qo;have q107:x6_3<(((rd_T29 l0 x5_1).f0).length:Int):=Qo;obtain⟨ad107,e107,hx107_0,hx107_1⟩:=at_T78 HR106_0.out x6_3 p107 q107;cases e107;replace p107:=eq_true p107;replace q107:=eq_true q107;have p108:0≤(x5_1:Int):=Qo;have q108:x5_1<(l1.length:Int):=Qo;obtain⟨ad108,A108_0,c108_0,A108_1,c108_1,e108,hx108_0,hx108_1,hl108_0,hi108_0,hl108_1,hi108_1⟩:=at_T29 HR1.out x5_1 p108 q108;cases e108;have HR108_0:=am hi108_0;have HC108_0:=am hl108_0;clear hi108_0 hl108_0;have HR108_1:=am hi108_1;have HC108_1:=am hl108_1;clear hi108_1 hl108_1;replace p108:=eq_true p108;replace q108:=eq_true q108;have p109:0≤(x6_3:Int):=Qo;have q109:x6_3<(((rd_T29 l1 x5_1).f0).length:Int):=Qo;obtain⟨ad109,e109,hx109_0,hx109_1⟩:=at_T78 HR108_0.out x6_3 p109 q109;cases e109;replace p109:=eq_true p109;replace q109:=eq_true q109;go_wp2;repeat (go_quiet (fail);try go_wp2)
               go_roundg k3
               case measure=>have:=HK1.out;have:=HJ4.out;have:=HK3.out;omega
               case rel=>exact ⟨(wrap64 (x6_3+1)),(ze),H',⟨by have:=HK1.out;have:=HJ4.out;have:=HK3.out;omega⟩,zd⟩
              rw [if_neg c15] at H;exact absurd H (by simp)
             rw [if_neg c14] at H;exact absurd H (by simp)
            rw [if_neg c13] at H;exact absurd H (by simp)
           rw [if_neg c12] at H;have c12b0:=Qc c12;clear c12;have H':=am H;clear H;have p105:0≤(x5_1:Int):=Qo;have q105:x5_1<(l0.length:Int):=Qo;obtain⟨ad105,A105_0,c105_0,A105_1,c105_1,e105,hx105_0,hx105_1,hl105_0,hi105_0,hl105_1,hi105_1⟩:=at_T29 HR0.out x5_1 p105 q105;cases e105;have HR105_0:=am hi105_0;have HC105_0:=am hl105_0;clear hi105_0 hl105_0;have HR105_1:=am hi105_1;have HC105_1:=am hl105_1;clear hi105_1 hl105_1;replace p105:=eq_true p105;replace q105:=eq_true q105;go_wp2;repeat (go_quiet (fail);try go_wp2)
           go_loopg [7] k3 (fun kq v7 w' => ∃ (x7_4:Int),v7 = .int .i64 x7_4∧Aside0 (sentryref4_SameSentries.l2 kq l0 l1 x5_1 x7_4=some r)∧Aside0 (kq≤k3)∧Drawn0 w w')
           case atStart=>exact ⟨(0),(ze),H',⟨Nat.le_refl _⟩,zd⟩
           case round =>
            clear H';try clear c1
            try clear c3
            try clear c3b0
            try clear c3b1
            try clear c3b2
            try clear c4
            try clear c4b0
            try clear c6
            try clear c6b0
            try clear c7
            try clear c7b0
            try clear c8
            try clear c8b0
            try clear c8b1
            try clear c8b2
            try clear c9
            try clear c10
            try clear c10b0
            try clear c11
            try clear c11b0
            try clear c12
            try clear c12b0
            try clear c13
            try clear c13b0
            try clear c14
            try clear c14b0
            try clear c15
            try clear c15b0
            try clear c16
            try clear c16b0
            try clear hx101_0
            try clear hx101_1
            try clear hx102_0
            try clear hx102_1
            try clear hx103_0
            try clear hx103_1
            try clear hx104_0
            try clear hx104_1
            try clear hx105_0
            try clear hx105_1
            try clear hx106_0
            try clear hx106_1
            try clear hx107_0
            try clear hx107_1
            try clear hx108_0
            try clear hx108_1
            try clear hx109_0
            try clear hx109_1
            try clear p101
            try clear p102
            try clear p103
            try clear p104
            try clear p105
            try clear p106
            try clear p107
            try clear p108
            try clear p109
            try clear q101
            try clear q102
            try clear q103
            try clear q104
            try clear q105
            try clear q106
            try clear q107
            try clear q108
            try clear q109
            obtain⟨x7_4,rfl,HA,HK4,⟨m4,rfl⟩⟩:=hrel
            cases gk with
            | zero => exact absurd HA.out (by simp [sentryref4_SameSentries.l2])
            | succ k4 =>
             have H:=HA.out;clear HA;simp only [sentryref4_SameSentries.l2] at H;by_cases c17:0≤x5_1
             ·
              rw [if_pos c17] at H;have c17b0:=Qb c17;clear c17;by_cases c18:x5_1<(l0.length:Int)
              ·
               rw [if_pos c18] at H;have c18b0:=Qb c18;clear c18;by_cases c19:x7_4<(((rd_T29 l0 x5_1).f1).length:Int)
               ·
                rw [if_pos c19] at H;have c19b0:=Qb c19;clear c19;by_cases c20:0≤x7_4
                ·
                 rw [if_pos c20] at H;have c20b0:=Qb c20;clear c20;by_cases c21:x5_1<(l1.length:Int)
                 ·
                  rw [if_pos c21] at H;have c21b0:=Qb c21;clear c21;by_cases c22:x7_4<(((rd_T29 l1 x5_1).f1).length:Int)
                  ·
                   rw [if_pos c22] at H;have c22b0:=Qb c22;clear c22;by_cases c23:(!((((rd_T93 ((rd_T29 l0 x5_1).f1) x7_4).f0).toList) == (((rd_T93 ((rd_T29 l1 x5_1).f1) x7_4).f0).toList))||(!((((rd_T93 ((rd_T29 l0 x5_1).f1) x7_4).f1).toList) == (((rd_T93 ((rd_T29 l1 x5_1).f1) x7_4).f1).toList))||(!(((rd_T93 ((rd_T29 l0 x5_1).f1) x7_4).f2) == ((rd_T93 ((rd_T29 l1 x5_1).f1) x7_4).f2)))))=true
                   ·
                    rw [if_pos c23] at H;have c23b0:(!((((rd_T93 ((rd_T29 l0 x5_1).f1) x7_4).f0).toList) == (((rd_T93 ((rd_T29 l1 x5_1).f1) x7_4).f0).toList))||(!((((rd_T93 ((rd_T29 l0 x5_1).f1) x7_4).f1).toList) == (((rd_T93 ((rd_T29 l1 x5_1).f1) x7_4).f1).toList))||(!(((rd_T93 ((rd_T29 l0 x5_1).f1) x7_4).f2) == ((rd_T93 ((rd_T29 l1 x5_1).f1) x7_4).f2)))))=true:=c23;clear c23;obtain rfl:=Qd H;have p110:0≤(x5_1:Int):=Qo;have q110:x5_1<(l0.length:Int):=Qo;obtain⟨ad110,A110_0,c110_0,A110_1,c110_1,e110,hx110_0,hx110_1,hl110_0,hi110_0,hl110_1,hi110_1⟩:=at_T29 HR0.out x5_1 p110 q110;obtain rfl:ad105=ad110:=(by injection e110);have HR110_0:=am hi110_0;have HC110_0:=am hl110_0;clear hi110_0 hl110_0;have HR110_1:=am hi110_1;have HC110_1:=am hl110_1;clear hi110_1 hl110_1;replace p110:=eq_true p110;replace q110:=eq_true q110;have p111:0≤(x5_1:Int):=Qo;have q111:x5_1<(l0.length:Int):=Qo;obtain⟨ad111,A111_0,c111_0,A111_1,c111_1,e111,hx111_0,hx111_1,hl111_0,hi111_0,hl111_1,hi111_1⟩:=at_T29 HR0.out x5_1 p111 q111;obtain rfl:ad105=ad111:=(by injection e111);have HR111_0:=am hi111_0;have HC111_0:=am hl111_0;clear hi111_0 hl111_0;have HR111_1:=am hi111_1;have HC111_1:=am hl111_1;clear hi111_1 hl111_1;replace p111:=eq_true p111;replace q111:=eq_true q111;have ea_:=Qd (hx110_0.symm.trans hx111_0);injection ea_ with ea_ en_ ec_;subst ea_;subst ec_;clear en_;have ea_:=Qd (hx110_1.symm.trans hx111_1);injection ea_ with ea_ en_ ec_;subst ea_;subst ec_;clear en_;have p112:0≤(x7_4:Int):=Qo;have q112:x7_4<(((rd_T29 l0 x5_1).f1).length:Int):=Qo;obtain⟨ad112,e112,hx112_0,hx112_1,hx112_2⟩:=at_T93 HR111_1.out x7_4 p112 q112;cases e112;replace p112:=eq_true p112;replace q112:=eq_true q112;have p113:0≤(x5_1:Int):=Qo;have q113:x5_1<(l1.length:Int):=Qo;obtain⟨ad113,A113_0,c113_0,A113_1,c113_1,e113,hx113_0,hx113_1,hl113_0,hi113_0,hl113_1,hi113_1⟩:=at_T29 HR1.out x5_1 p113 q113;cases e113;have HR113_0:=am hi113_0;have HC113_0:=am hl113_0;clear hi113_0 hl113_0;have HR113_1:=am hi113_1;have HC113_1:=am hl113_1;clear hi113_1 hl113_1;replace p113:=eq_true p113;replace q113:=eq_true q113;have p114:0≤(x7_4:Int):=Qo;have q114:x7_4<(((rd_T29 l1 x5_1).f1).length:Int):=Qo;obtain⟨ad114,e114,hx114_0,hx114_1,hx114_2⟩:=at_T93 HR113_1.out x7_4 p114 q114;cases e114;replace p114:=eq_true p114;replace q114:=eq_true q114;go_wp2;repeat (go_quiet (fail);try go_wp2)
                    go_ret;exact⟨ze,zd⟩
                   rw [if_neg c23] at H;have c23b0:(!((((rd_T93 ((rd_T29 l0 x5_1).f1) x7_4).f0).toList) == (((rd_T93 ((rd_T29 l1 x5_1).f1) x7_4).f0).toList))||(!((((rd_T93 ((rd_T29 l0 x5_1).f1) x7_4).f1).toList) == (((rd_T93 ((rd_T29 l1 x5_1).f1) x7_4).f1).toList))||(!(((rd_T93 ((rd_T29 l0 x5_1).f1) x7_4).f2) == ((rd_T93 ((rd_T29 l1 x5_1).f1) x7_4).f2)))))=false:=by simpa using c23
                   clear c23;have H':=am H;clear H;have p110:0≤(x5_1:Int):=Qo;have q110:x5_1<(l0.length:Int):=Qo;obtain⟨ad110,A110_0,c110_0,A110_1,c110_1,e110,hx110_0,hx110_1,hl110_0,hi110_0,hl110_1,hi110_1⟩:=at_T29 HR0.out x5_1 p110 q110;obtain rfl:ad105=ad110:=(by injection e110);have HR110_0:=am hi110_0;have HC110_0:=am hl110_0;clear hi110_0 hl110_0;have HR110_1:=am hi110_1;have HC110_1:=am hl110_1;clear hi110_1 hl110_1;replace p110:=eq_true p110;replace q110:=eq_true q110;have p111:0≤(x5_1:Int):=Qo;have q111:x5_1<(l0.length:Int):=Qo;obtain⟨ad111,A111_0,c111_0,A111_1,c111_1,e111,hx111_0,hx111_1,hl111_0,hi111_0,hl111_1,hi111_1⟩:=at_T29 HR0.out x5_1 p111 q111;obtain rfl:ad105=ad111:=(by injection e111);have HR111_0:=am hi111_0;have HC111_0:=am hl111_0;clear hi111_0 hl111_0;have HR111_1:=am hi111_1;have HC111_1:=am hl111_1;clear hi111_1 hl111_1;replace p111:=eq_true p111;replace q111:=eq_true q111;have ea_:=Qd (hx110_0.symm.trans hx111_0);injection ea_ with ea_ en_ ec_;subst ea_;subst ec_;clear en_;have ea_:=Qd (hx110_1.symm.trans hx111_1);injection ea_ with ea_ en_ ec_;subst ea_;subst ec_;clear en_;have p112:0≤(x7_4:Int):=Qo;have q112:x7_4<(((rd_T29 l0 x5_1).f1).length:Int):=Qo;obtain⟨ad112,e112,hx112_0,hx112_1,hx112_2⟩:=at_T93 HR111_1.out x7_4 p112 q112;cases e112;replace p112:=eq_true p112;replace q112:=eq_true q112;have p113:0≤(x5_1:Int):=Qo;have q113:x5_1<(l1.length:Int):=Qo;obtain⟨ad113,A113_0,c113_0,A113_1,c113_1,e113,hx113_0,hx113_1,hl113_0,hi113_0,hl113_1,hi113_1⟩:=at_T29 HR1.out x5_1 p113 q113;cases e113;have HR113_0:=am hi113_0;have HC113_0:=am hl113_0;clear hi113_0 hl113_0;have HR113_1:=am hi113_1;have HC113_1:=am hl113_1;clear hi113_1 hl113_1;replace p113:=eq_true p113;replace q113:=eq_true q113;have p114:0≤(x7_4:Int):=Qo;have q114:x7_4<(((rd_T29 l1 x5_1).f1).length:Int):=Qo;obtain⟨ad114,e114,hx114_0,hx114_1,hx114_2⟩:=at_T93 HR113_1.out x7_4 p114 q114;cases e114;replace p114:=eq_true p114;replace q114:=eq_true q114;go_wp2;repeat (go_quiet (fail);try go_wp2)
                   go_roundg k4
                   case measure=>have:=HK1.out;have:=HJ4.out;have:=HK3.out;have:=HK4.out;omega
                   case rel=>exact ⟨(wrap64 (x7_4+1)),(ze),H',⟨by have:=HK1.out;have:=HJ4.out;have:=HK3.out;have:=HK4.out;omega⟩,zd⟩
                  rw [if_neg c22] at H;exact absurd H (by simp)
                 rw [if_neg c21] at H;exact absurd H (by simp)
                rw [if_neg c20] at H;exact absurd H (by simp)
               rw [if_neg c19] at H;have c19b0:=Qc c19;clear c19;have H':=am H;clear H;have p110:0≤(x5_1:Int):=Qo;have q110:x5_1<(l0.length:Int):=Qo;obtain⟨ad110,A110_0,c110_0,A110_1,c110_1,e110,hx110_0,hx110_1,hl110_0,hi110_0,hl110_1,hi110_1⟩:=at_T29 HR0.out x5_1 p110 q110;obtain rfl:ad105=ad110:=(by injection e110);have HR110_0:=am hi110_0;have HC110_0:=am hl110_0;clear hi110_0 hl110_0;have HR110_1:=am hi110_1;have HC110_1:=am hl110_1;clear hi110_1 hl110_1;replace p110:=eq_true p110;replace q110:=eq_true q110;go_wp2;repeat (go_quiet (fail);try go_wp2)
               go_roundg k4
               case measure=>have:=HK1.out;have:=HJ4.out;have:=HK3.out;have:=HK4.out;omega
               case rel=>exact ⟨(wrap64 (x5_1+1)),(ze),H',⟨by have:=HK1.out;have:=HJ4.out;have:=HK3.out;have:=HK4.out;omega⟩,zd⟩
              rw [if_neg c18] at H;exact absurd H (by simp)
             rw [if_neg c17] at H;exact absurd H (by simp)
          rw [if_neg c11] at H;exact absurd H (by simp)
         rw [if_neg c10] at H;exact absurd H (by simp)
    rw [if_neg c4] at H;have c4b0:=Qc c4;clear c4;obtain rfl:=Qd H;go_wp2;repeat (go_quiet (fail);try go_wp2)
    go_ret;exact⟨ze,zd⟩
 rw [if_neg c3] at H;have c3b0:=Qg c3;have c3b1:=Qi c3;have c3b2:(l0.length == l1.length)=false:=by first|simpa using c3|(simp at c3 ⊢;omega)
 obtain rfl:=Qd H;go_enter Tryz.func102,Tryz.ntmps102;go_wp2;repeat (go_quiet (fail);try go_wp2)
 go_ret;exact⟨ze,zd⟩
end Go.Proofs.YtpbembafpnknhaaGreat.Pr
namespace Go.Proofs.YtpbembafpnknhaaGreat.normTurns
theorem q_inPlace:(Rows.normTurnsRow.inPlace == Tryz.pinned.checked.prog.inPlace 7)=true:=by kernel_rfl
theorem q_unfollowed:(Rows.normTurnsRow.unfollowed == Tryz.pinned.checked.prog.unfollowed 7)=true:=by kernel_rfl
theorem q_recurses:(Rows.normTurnsRow.recurses == Tryz.pinned.checked.prog.recurses 7)=true:=by kernel_rfl
theorem q_named:(Rows.normTurnsRow.named == Tryz.pinned.checked.prog.varsNamed 7)=true:=by kernel_rfl
theorem q_veiled:(Rows.normTurnsRow.veiled == (Tryz.f7.params.toList++Rows.normTurnsSpec.plain.varTypes Tryz.pinned.checked.prog++Tryz.f7.resultTypes.toList).any (Tryz.pinned.checked.prog.veiledRec ·))=true:=by kernel_rfl
theorem facts:joinedFacts Tryz.pinned.checked.prog 7 Tryz.f7 Rows.normTurnsSpec Rows.normTurnsRow=true:=by
  unfold joinedFacts;rw [q_inPlace,q_unfollowed,q_recurses,q_named,q_veiled,stops_,stopKnobs_,laid_,rowed_,plain_,heard_,mayEnter_,lifts_,make_];kernel_rfl
#print axioms facts
end Go.Proofs.YtpbembafpnknhaaGreat.normTurns
