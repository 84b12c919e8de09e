/- Proof texts of one seat,in one file: the walks of functions and the lemmas under them,printed by programs and typed by hand. Put together by wip/bundle.py. -/
import Derived.Test.YtpbembafpnknhaaGreatRows
import Derived.Test.YtpbembafpnknhaaGreatBNormOnce0
import Derived.Test.YtpbembafpnknhaaGreatBNormOnce1
import Derived.Test.YtpbembafpnknhaaGreatBNormOnce2
import Derived.Test.YtpbembafpnknhaaGreatBNormOnce4
import Derived.Test.YtpbembafpnknhaaGreatBNormOnce5
set_option maxHeartbeats 8000000
set_option maxRecDepth 100000
set_option linter.unusedVariables false
set_option linter.unusedSimpArgs false
set_option linter.unusedSectionVars false
namespace Go.Proofs.YtpbembafpnknhaaGreat.Pr
open Go.RowKit Go.Proofs.YtpbembafpnknhaaGreatW.PrintWords Go.Proofs.YtpbembafpnknhaaGreatW.PrintLast Go.Proofs.YtpbembafpnknhaaGreatW.PrintMore
attribute [local go_sem] max2_int min2_int max_two min_two max_three min_three max_four min_four
attribute [local go_sem high] eqA78 eqA93
mutual
def sentryref4_SameSentries.l0:Nat→List (S29)→List (S29)→Int→Option (Bool)
  | 0, _, _, _ => none
  | k+1,x0,x1,x5=>if x5<(x0.length:Int) then (if 0≤x5 then (if x5<(x1.length:Int) then (if (((rd_T29 x0 x5).f0).length:Int)=(((rd_T29 x1 x5).f0).length:Int) then (sentryref4_SameSentries.j1 k x0 x1 x5 ((((rd_T29 x0 x5).f1).length:Int) != (((rd_T29 x1 x5).f1).length:Int))) else (sentryref4_SameSentries.j1 k x0 x1 x5 true)) else (none)) else (none)) else (some true)
def sentryref4_SameSentries.j1:Nat→List (S29)→List (S29)→Int→Bool→Option (Bool)
  | 0, _, _, _, _ => none
  | k+1,x0,x1,x5,x46=>if x46=true then (some false) else (sentryref4_SameSentries.l1 k x0 x1 x5 0)
def sentryref4_SameSentries.l1:Nat→List (S29)→List (S29)→Int→Int→Option (Bool)
  | 0, _, _, _, _ => none
  | k+1,x0,x1,x5,x6=>if 0≤x5 then (if x5<(x0.length:Int) then (if x6<(((rd_T29 x0 x5).f0).length:Int) then (if 0≤x6 then (if x5<(x1.length:Int) then (if x6<(((rd_T29 x1 x5).f0).length:Int) then (if (!((((rd_T78 ((rd_T29 x0 x5).f0) x6).f0).toList) == (((rd_T78 ((rd_T29 x1 x5).f0) x6).f0).toList))||(!(((rd_T78 ((rd_T29 x0 x5).f0) x6).f1) == ((rd_T78 ((rd_T29 x1 x5).f0) x6).f1))))=true then (some false) else (sentryref4_SameSentries.l1 k x0 x1 x5 (wrap64 (x6+1)))) else (none)) else (none)) else (none)) else (sentryref4_SameSentries.l2 k x0 x1 x5 0)) else (none)) else (none)
def sentryref4_SameSentries.l2:Nat→List (S29)→List (S29)→Int→Int→Option (Bool)
  | 0, _, _, _, _ => none
  | k+1,x0,x1,x5,x7=>if 0≤x5 then (if x5<(x0.length:Int) then (if x7<(((rd_T29 x0 x5).f1).length:Int) then (if 0≤x7 then (if x5<(x1.length:Int) then (if x7<(((rd_T29 x1 x5).f1).length:Int) then (if (!((((rd_T93 ((rd_T29 x0 x5).f1) x7).f0).toList) == (((rd_T93 ((rd_T29 x1 x5).f1) x7).f0).toList))||(!((((rd_T93 ((rd_T29 x0 x5).f1) x7).f1).toList) == (((rd_T93 ((rd_T29 x1 x5).f1) x7).f1).toList))||(!(((rd_T93 ((rd_T29 x0 x5).f1) x7).f2) == ((rd_T93 ((rd_T29 x1 x5).f1) x7).f2)))))=true then (some false) else (sentryref4_SameSentries.l2 k x0 x1 x5 (wrap64 (x7+1)))) else (none)) else (none)) else (none)) else (sentryref4_SameSentries.l0 k x0 x1 (wrap64 (x5+1)))) else (none)) else (none)
end
def sentryref4_SameSentries.f(k:Nat)(l0:List (S29))(l1:List (S29)):Option (Bool):=if (l0.length:Int)=(l1.length:Int) then (sentryref4_SameSentries.l0 k l0 l1 0) else (some false)
theorem sentryref4_SameSentries.calls(k : Nat)(A0 : Option Addr)(c0 : Nat)(l0 : List (S29))(A1 : Option Addr)(c1 : Nat)(l1 : List (S29))(r : Bool)(w : World)(hr0 : Kd.C k29 w A0 l0.length l0)(hc0 : l0.length ≤ c0)(hr1 : Kd.C k29 w A1 l1.length l1)(hc1 : l1.length ≤ c1)(h : sentryref4_SameSentries.f k l0 l1 = some r) :
  Calls Tryz.prog 102 #[.slice A0 l0.length c0,.slice A1 l1.length c1] w fun e w'=>e = .returned (.bool r)∧Drawn0 w w':=by
 have hu78:=Tryz.underlying78;have hu93:=Tryz.underlying93;have HR0:=am hr0;have HC0:=am hc0;clear hr0 hc0;have HR1:=am hr1;have HC1:=am hc1;clear hr1 hc1;have H:(if (l0.length:Int)=(l1.length:Int) then (sentryref4_SameSentries.l0 k l0 l1 0) else (some false))=some r:=h;clear h;by_cases c3:(l0.length:Int)=(l1.length:Int)
 ·
  rw [if_pos c3] at H;have c3b0:=Qh c3;have c3b1:=Qf c3;have c3b2:(l0.length == l1.length)=true:=by first|simpa using c3|(simp at c3 ⊢;omega)
  clear c3;have H':=am H;clear H;go_enter Tryz.func102,Tryz.ntmps102;go_wp2;repeat (go_quiet (fail);try go_wp2)
  go_loopg [5] k (fun kq v5 w' => ∃ (x5_1:Int),v5 = .int .i64 x5_1∧Aside0 (sentryref4_SameSentries.l0 kq l0 l1 x5_1=some r)∧Aside0 (kq≤k)∧Drawn0 w w')
  case atStart=>exact ⟨(0),(ze),H',⟨Nat.le_refl _⟩,zd⟩
  case round =>
   clear H';try clear c1
   try clear c3
   try clear c3b0
   try clear c3b1
   try clear c3b2
   obtain⟨x5_1,rfl,HA,HK1,⟨m1,rfl⟩⟩:=hrel
   cases gk with
   | zero => exact absurd HA.out (by simp [sentryref4_SameSentries.l0])
   | succ k1 =>
    have H:=HA.out;clear HA;simp only [sentryref4_SameSentries.l0] at H;by_cases c4:x5_1<(l0.length:Int)
    ·
     rw [if_pos c4] at H;have c4b0:=Qb c4;clear c4;have HC5:=am H;clear H;go_upto_region 6 with (fail)
     repeat (go_quiet (fail);go_upto_region 6 with (fail))
     go_cut [46] (fun v46 wc => ∃ (kq:Nat) (x46_4:Bool),v46 = .bool x46_4∧Aside0 (sentryref4_SameSentries.j1 kq l0 l1 x5_1 x46_4=some r)∧Aside0 (kq≤k1)∧Drawn0 w wc)
     case first =>
      have H:=HC5.out;clear HC5;by_cases c6:0≤x5_1
      ·
       rw [if_pos c6] at H;have c6b0:=Qb c6;clear c6
       (first|rw [c6b0] | (simp only [i64_w,i32_w];rw [c6b0])|skip)
       by_cases c7:x5_1<(l1.length:Int)
       ·
        rw [if_pos c7] at H;have c7b0:=Qb c7;clear c7;by_cases c8:(((rd_T29 l0 x5_1).f0).length:Int)=(((rd_T29 l1 x5_1).f0).length:Int)
        ·
         rw [if_pos c8] at H;have c8b0:=Qh c8;have c8b1:=Qf c8;have c8b2:(((rd_T29 l0 x5_1).f0).length == ((rd_T29 l1 x5_1).f0).length)=true:=by first|simpa using c8|(simp at c8 ⊢;omega)
         clear c8;have H':=am H;clear H;have p101:0≤(x5_1:Int):=Qo;have q101:x5_1<(l0.length:Int):=Qo;obtain⟨ad101,A101_0,c101_0,A101_1,c101_1,e101,hx101_0,hx101_1,hl101_0,hi101_0,hl101_1,hi101_1⟩:=at_T29 HR0.out x5_1 p101 q101;cases e101;have HR101_0:=am hi101_0;have HC101_0:=am hl101_0;clear hi101_0 hl101_0;have HR101_1:=am hi101_1;have HC101_1:=am hl101_1;clear hi101_1 hl101_1;replace p101:=eq_true p101;replace q101:=eq_true q101;have p102:0≤(x5_1:Int):=Qo;have q102:x5_1<(l1.length:Int):=Qo;obtain⟨ad102,A102_0,c102_0,A102_1,c102_1,e102,hx102_0,hx102_1,hl102_0,hi102_0,hl102_1,hi102_1⟩:=at_T29 HR1.out x5_1 p102 q102;cases e102;have HR102_0:=am hi102_0;have HC102_0:=am hl102_0;clear hi102_0 hl102_0;have HR102_1:=am hi102_1;have HC102_1:=am hl102_1;clear hi102_1 hl102_1;replace p102:=eq_true p102;replace q102:=eq_true q102;have p103:0≤(x5_1:Int):=Qo;have q103:x5_1<(l0.length:Int):=Qo;obtain⟨ad103,A103_0,c103_0,A103_1,c103_1,e103,hx103_0,hx103_1,hl103_0,hi103_0,hl103_1,hi103_1⟩:=at_T29 HR0.out x5_1 p103 q103;obtain rfl:ad101=ad103:=(by injection e103);have HR103_0:=am hi103_0;have HC103_0:=am hl103_0;clear hi103_0 hl103_0;have HR103_1:=am hi103_1;have HC103_1:=am hl103_1;clear hi103_1 hl103_1;replace p103:=eq_true p103;replace q103:=eq_true q103;have ea_:=Qd (hx101_0.symm.trans hx103_0);injection ea_ with ea_ en_ ec_;subst ea_;subst ec_;clear en_;have ea_:=Qd (hx101_1.symm.trans hx103_1);injection ea_ with ea_ en_ ec_;subst ea_;subst ec_;clear en_;have p104:0≤(x5_1:Int):=Qo;have q104:x5_1<(l1.length:Int):=Qo;obtain⟨ad104,A104_0,c104_0,A104_1,c104_1,e104,hx104_0,hx104_1,hl104_0,hi104_0,hl104_1,hi104_1⟩:=at_T29 HR1.out x5_1 p104 q104;obtain rfl:ad102=ad104:=(by injection e104);have HR104_0:=am hi104_0;have HC104_0:=am hl104_0;clear hi104_0 hl104_0;have HR104_1:=am hi104_1;have HC104_1:=am hl104_1;clear hi104_1 hl104_1;replace p104:=eq_true p104;replace q104:=eq_true q104;have ea_:=Qd (hx102_0.symm.trans hx104_0);injection ea_ with ea_ en_ ec_;subst ea_;subst ec_;clear en_;have ea_:=Qd (hx102_1.symm.trans hx104_1);injection ea_ with ea_ en_ ec_;subst ea_;subst ec_;clear en_;go_wp2;repeat (go_quiet (fail);try go_wp2)
         go_meet
         case rel=>exact ⟨_,(((((rd_T29 l0 x5_1).f1).length:Int) != (((rd_T29 l1 x5_1).f1).length:Int))),(ze),H',⟨by have:=HK1.out;first|omega|exact Nat.le_refl _⟩,zd⟩
        rw [if_neg c8] at H;have c8b0:=Qg c8;have c8b1:=Qi c8;have c8b2:(((rd_T29 l0 x5_1).f0).length == ((rd_T29 l1 x5_1).f0).length)=false:=by first|simpa using c8|(simp at c8 ⊢;omega)
        have H':=am H;clear H;have p101:0≤(x5_1:Int):=Qo;have q101:x5_1<(l0.length:Int):=Qo;obtain⟨ad101,A101_0,c101_0,A101_1,c101_1,e101,hx101_0,hx101_1,hl101_0,hi101_0,hl101_1,hi101_1⟩:=at_T29 HR0.out x5_1 p101 q101;cases e101;have HR101_0:=am hi101_0;have HC101_0:=am hl101_0;clear hi101_0 hl101_0;have HR101_1:=am hi101_1;have HC101_1:=am hl101_1;clear hi101_1 hl101_1;replace p101:=eq_true p101;replace q101:=eq_true q101;have p102:0≤(x5_1:Int):=Qo;have q102:x5_1<(l1.length:Int):=Qo;obtain⟨ad102,A102_0,c102_0,A102_1,c102_1,e102,hx102_0,hx102_1,hl102_0,hi102_0,hl102_1,hi102_1⟩:=at_T29 HR1.out x5_1 p102 q102;cases e102;have HR102_0:=am hi102_0;have HC102_0:=am hl102_0;clear hi102_0 hl102_0;have HR102_1:=am hi102_1;have HC102_1:=am hl102_1;clear hi102_1 hl102_1;replace p102:=eq_true p102;replace q102:=eq_true q102;go_wp2;repeat (go_quiet (fail);try go_wp2)
        go_meet
        case rel=>exact ⟨_,(true),(ze),H',⟨by have:=HK1.out;first|omega|exact Nat.le_refl _⟩,zd⟩
       rw [if_neg c7] at H;exact absurd H (by simp)
      rw [if_neg c6] at H;exact absurd H (by simp)
     case rest =>
      clear HC5;try clear c1
      try clear c3
      try clear c3b0
      try clear c3b1
      try clear c3b2
      try clear c4
      try clear c4b0
      try clear c6
      try clear c6b0
      try clear c7
      try clear c7b0
      try clear c8
      try clear c8b0
      try clear c8b1
      try clear c8b2
      try clear hx101_0
      try clear hx101_1
      try clear hx102_0
      try clear hx102_1
      try clear hx103_0
      try clear hx103_1
      try clear hx104_0
      try clear hx104_1
      try clear p101
      try clear p102
      try clear p103
      try clear p104
      try clear q101
      try clear q102
      try clear q103
      try clear q104
      obtain⟨kq,x46_4,rfl,HA,HJ4,⟨mc4,rfl⟩⟩:=hcut
      cases kq with
      | zero => exact absurd HA.out (by simp [sentryref4_SameSentries.j1])
      | succ kj4 =>
       have H:=HA.out;clear HA;simp only [sentryref4_SameSentries.j1] at H;by_cases c9:x46_4=true
       ·
        subst c9;have H1:(some false)=some r:=by rw [if_pos rfl] at H;exact H
        clear H;have H:=H1;clear H1;obtain rfl:=Qd H;go_wp2;repeat (go_quiet (fail);try go_wp2)
        go_ret;exact⟨ze,zd⟩
       replace c9:=Qj c9;subst c9;have H1:(sentryref4_SameSentries.l1 kj4 l0 l1 x5_1 0)=some r:=by rw [if_neg (show ¬ (false=true) by decide)] at H;exact H
       clear H;have H:=H1;clear H1;have H':=am H;clear H;go_wp2;repeat (go_quiet (fail);try go_wp2)
       go_loopg [6] kj4 (fun kq v6 w' => ∃ (x6_3:Int),v6 = .int .i64 x6_3∧Aside0 (sentryref4_SameSentries.l1 kq l0 l1 x5_1 x6_3=some r)∧Aside0 (kq≤kj4)∧Drawn0 w w')
       case atStart=>exact ⟨(0),(ze),H',⟨Nat.le_refl _⟩,zd⟩
       case round =>
        clear H';try clear c1
        try clear c3
        try clear c3b0
        try clear c3b1
        try clear c3b2
        try clear c4
        try clear c4b0
        try clear c6
        try clear c6b0
        try clear c7
        try clear c7b0
        try clear c8
        try clear c8b0
        try clear c8b1
        try clear c8b2
        try clear c9
        try clear hx101_0
        try clear hx101_1
        try clear hx102_0
        try clear hx102_1
        try clear hx103_0
        try clear hx103_1
        try clear hx104_0
        try clear hx104_1
        try clear p101
        try clear p102
        try clear p103
        try clear p104
        try clear q101
        try clear q102
        try clear q103
        try clear q104
        obtain⟨x6_3,rfl,HA,HK3,⟨m3,rfl⟩⟩:=hrel
        cases gk with
        | zero => exact absurd HA.out (by simp [sentryref4_SameSentries.l1])
        | succ k3 =>
         have H:=HA.out;clear HA;simp only [sentryref4_SameSentries.l1] at H;by_cases c10:0≤x5_1
         ·
          rw [if_pos c10] at H;have c10b0:=Qb c10;clear c10;by_cases c11:x5_1<(l0.length:Int)
          ·
           rw [if_pos c11] at H;have c11b0:=Qb c11;clear c11;by_cases c12:x6_3<(((rd_T29 l0 x5_1).f0).length:Int)
           ·
            rw [if_pos c12] at H;have c12b0:=Qb c12;clear c12;by_cases c13:0≤x6_3
            ·
             rw [if_pos c13] at H;have c13b0:=Qb c13;clear c13;by_cases c14:x5_1<(l1.length:Int)
             ·
              rw [if_pos c14] at H;have c14b0:=Qb c14;clear c14;by_cases c15:x6_3<(((rd_T29 l1 x5_1).f0).length:Int)
              ·
               rw [if_pos c15] at H;have c15b0:=Qb c15;clear c15;by_cases c16:(!((((rd_T78 ((rd_T29 l0 x5_1).f0) x6_3).f0).toList) == (((rd_T78 ((rd_T29 l1 x5_1).f0) x6_3).f0).toList))||(!(((rd_T78 ((rd_T29 l0 x5_1).f0) x6_3).f1) == ((rd_T78 ((rd_T29 l1 x5_1).f0) x6_3).f1))))=true
               ·
                rw [if_pos c16] at H;have c16b0:(!((((rd_T78 ((rd_T29 l0 x5_1).f0) x6_3).f0).toList) == (((rd_T78 ((rd_T29 l1 x5_1).f0) x6_3).f0).toList))||(!(((rd_T78 ((rd_T29 l0 x5_1).f0) x6_3).f1) == ((rd_T78 ((rd_T29 l1 x5_1).f0) x6_3).f1))))=true:=c16;clear c16;obtain rfl:=Qd H;have p105:0≤(x5_1:Int):=Qo;have q105:x5_1<(l0.length:Int):=Qo;obtain⟨ad105,A105_0,c105_0,A105_1,c105_1,e105,hx105_0,hx105_1,hl105_0,hi105_0,hl105_1,hi105_1⟩:=at_T29 HR0.out x5_1 p105 q105;cases e105;have HR105_0:=am hi105_0;have HC105_0:=am hl105_0;clear hi105_0 hl105_0;have HR105_1:=am hi105_1;have HC105_1:=am hl105_1;clear hi105_1 hl105_1;replace p105:=eq_true p105;replace q105:=eq_true q105;have p106:0≤(x5_1:Int):=Qo;have q106:x5_1<(l0.length:Int):=Qo;obtain⟨ad106,A106_0,c106_0,A106_1,c106_1,e106,hx106_0,hx106_1,hl106_0,hi106_0,hl106_1,hi106_1⟩:=at_T29 HR0.out x5_1 p106 q106;obtain rfl:ad105=ad106:=(by injection e106);have HR106_0:=am hi106_0;have HC106_0:=am hl106_0;clear hi106_0 hl106_0;have HR106_1:=am hi106_1;have HC106_1:=am hl106_1;clear hi106_1 hl106_1;replace p106:=eq_true p106;replace q106:=eq_true q106;have ea_:=Qd (hx105_0.symm.trans hx106_0);injection ea_ with ea_ en_ ec_;subst ea_;subst ec_;clear en_;have ea_:=Qd (hx105_1.symm.trans hx106_1);injection ea_ with ea_ en_ ec_;subst ea_;subst ec_;clear en_;have p107:0≤(x6_3:Int):=Qo;have q107:x6_3<(((rd_T29 l0 x5_1).f0).length:Int):=Qo;obtain⟨ad107,e107,hx107_0,hx107_1⟩:=at_T78 HR106_0.out x6_3 p107 q107;cases e107;replace p107:=eq_true p107;replace q107:=eq_true q107;have p108:0≤(x5_1:Int):=Qo;have q108:x5_1<(l1.length:Int):=Qo;obtain⟨ad108,A108_0,c108_0,A108_1,c108_1,e108,hx108_0,hx108_1,hl108_0,hi108_0,hl108_1,hi108_1⟩:=at_T29 HR1.out x5_1 p108 q108;cases e108;have HR108_0:=am hi108_0;have HC108_0:=am hl108_0;clear hi108_0 hl108_0;have HR108_1:=am hi108_1;have HC108_1:=am hl108_1;clear hi108_1 hl108_1;replace p108:=eq_true p108;replace q108:=eq_true q108;have p109:0≤(x6_3:Int):=Qo;have q109:x6_3<(((rd_T29 l1 x5_1).f0).length:Int):=Qo;obtain⟨ad109,e109,hx109_0,hx109_1⟩:=at_T78 HR108_0.out x6_3 p109 q109;cases e109;replace p109:=eq_true p109;replace q109:=eq_true q109;go_wp2;repeat (go_quiet (fail);try go_wp2)
                go_ret;exact⟨ze,zd⟩
               rw [if_neg c16] at H;have c16b0:(!((((rd_T78 ((rd_T29 l0 x5_1).f0) x6_3).f0).toList) == (((rd_T78 ((rd_T29 l1 x5_1).f0) x6_3).f0).toList))||(!(((rd_T78 ((rd_T29 l0 x5_1).f0) x6_3).f1) == ((rd_T78 ((rd_T29 l1 x5_1).f0) x6_3).f1))))=false:=by simpa using c16
               clear c16;have H':=am H;clear H;have p105:0≤(x5_1:Int):=Qo;have q105:x5_1<(l0.length:Int):=Qo;obtain⟨ad105,A105_0,c105_0,A105_1,c105_1,e105,hx105_0,hx105_1,hl105_0,hi105_0,hl105_1,hi105_1⟩:=at_T29 HR0.out x5_1 p105 q105;cases e105;have HR105_0:=am hi105_0;have HC105_0:=am hl105_0;clear hi105_0 hl105_0;have HR105_1:=am hi105_1;have HC105_1:=am hl105_1;clear hi105_1 hl105_1;replace p105:=eq_true p105;replace q105:=eq_true q105;have p106:0≤(x5_1:Int):=Qo;have q106:x5_1<(l0.length:Int):=Qo;obtain⟨ad106,A106_0,c106_0,A106_1,c106_1,e106,hx106_0,hx106_1,hl106_0,hi106_0,hl106_1,hi106_1⟩:=at_T29 HR0.out x5_1 p106 q106;obtain rfl:ad105=ad106:=(by injection e106);have HR106_0:=am hi106_0;have HC106_0:=am hl106_0;clear hi106_0 hl106_0;have HR106_1:=am hi106_1;have HC106_1:=am hl106_1;clear hi106_1 hl106_1;replace p106:=eq_true p106;replace q106:=eq_true q106;have ea_:=Qd (hx105_0.symm.trans hx106_0);injection ea_ with ea_ en_ ec_;subst ea_;subst ec_;clear en_;have ea_:=Qd (hx105_1.symm.trans hx106_1);injection ea_ with ea_ en_ ec_;subst ea_;subst ec_;clear en_;have p107:0≤(x6_3:Int):=Qo;have q107:x6_3<(((rd_T29 l0 x5_1).f0).length:Int):=Qo;obtain⟨ad107,e107,hx107_0,hx107_1⟩:=at_T78 HR106_0.out x6_3 p107 q107;cases e107;replace p107:=eq_true p107;replace q107:=eq_true q107;have p108:0≤(x5_1:Int):=Qo;have q108:x5_1<(l1.length:Int):=Qo;obtain⟨ad108,A108_0,c108_0,A108_1,c108_1,e108,hx108_0,hx108_1,hl108_0,hi108_0,hl108_1,hi108_1⟩:=at_T29 HR1.out x5_1 p108 q108;cases e108;have HR108_0:=am hi108_0;have HC108_0:=am hl108_0;clear hi108_0 hl108_0;have HR108_1:=am hi108_1;have HC108_1:=am hl108_1;clear hi108_1 hl108_1;replace p108:=eq_true p108;replace q108:=eq_true q108;have p109:0≤(x6_3:Int):=Qo;have q109:x6_3<(((rd_T29 l1 x5_1).f0).length:Int):=Qo;obtain⟨ad109,e109,hx109_0,hx109_1⟩:=at_T78 HR108_0.out x6_3 p109 q109;cases e109;replace p109:=eq_true p109;replace q109:=eq_true q109;go_wp2;repeat (go_quiet (fail);try go_wp2)
               go_roundg k3
               case measure=>have:=HK1.out;have:=HJ4.out;have:=HK3.out;omega
               case rel=>exact ⟨(wrap64 (x6_3+1)),(ze),H',⟨by have:=HK1.out;have:=HJ4.out;have:=HK3.out;omega⟩,zd⟩
              rw [if_neg c15] at H;exact absurd H (by simp)
             rw [if_neg c14] at H;exact absurd H (by simp)
            rw [if_neg c13] at H;exact absurd H (by simp)
           rw [if_neg c12] at H;have c12b0:=Qc c12;clear c12;have H':=am H;clear H;have p105:0≤(x5_1:Int):=Qo;have q105:x5_1<(l0.length:Int):=Qo;obtain⟨ad105,A105_0,c105_0,A105_1,c105_1,e105,hx105_0,hx105_1,hl105_0,hi105_0,hl105_1,hi105_1⟩:=at_T29 HR0.out x5_1 p105 q105;cases e105;have HR105_0:=am hi105_0;have HC105_0:=am hl105_0;clear hi105_0 hl105_0;have HR105_1:=am hi105_1;have HC105_1:=am hl105_1;clear hi105_1 hl105_1;replace p105:=eq_true p105;replace q105:=eq_true q105;go_wp2;repeat (go_quiet (fail);try go_wp2)
           go_loopg [7] k3 (fun kq v7 w' => ∃ (x7_4:Int),v7 = .int .i64 x7_4∧Aside0 (sentryref4_SameSentries.l2 kq l0 l1 x5_1 x7_4=some r)∧Aside0 (kq≤k3)∧Drawn0 w w')
           case atStart=>exact ⟨(0),(ze),H',⟨Nat.le_refl _⟩,zd⟩
           case round =>
            clear H';try clear c1
            try clear c3
            try clear c3b0
            try clear c3b1
            try clear c3b2
            try clear c4
            try clear c4b0
            try clear c6
            try clear c6b0
            try clear c7
            try clear c7b0
            try clear c8
            try clear c8b0
            try clear c8b1
            try clear c8b2
            try clear c9
            try clear c10
            try clear c10b0
            try clear c11
            try clear c11b0
            try clear c12
            try clear c12b0
            try clear c13
            try clear c13b0
            try clear c14
            try clear c14b0
            try clear c15
            try clear c15b0
            try clear c16
            try clear c16b0
            try clear hx101_0
            try clear hx101_1
            try clear hx102_0
            try clear hx102_1
            try clear hx103_0
            try clear hx103_1
            try clear hx104_0
            try clear hx104_1
            try clear hx105_0
            try clear hx105_1
            try clear hx106_0
            try clear hx106_1
            try clear hx107_0
            try clear hx107_1
            try clear hx108_0
            try clear hx108_1
            try clear hx109_0
            try clear hx109_1
            try clear p101
            try clear p102
            try clear p103
            try clear p104
            try clear p105
            try clear p106
            try clear p107
            try clear p108
            try clear p109
            try clear q101
            try clear q102
            try clear q103
            try clear q104
            try clear q105
            try clear q106
            try clear q107
            try clear q108
            try clear q109
            obtain⟨x7_4,rfl,HA,HK4,⟨m4,rfl⟩⟩:=hrel
            cases gk with
            | zero => exact absurd HA.out (by simp [sentryref4_SameSentries.l2])
            | succ k4 =>
             have H:=HA.out;clear HA;simp only [sentryref4_SameSentries.l2] at H;by_cases c17:0≤x5_1
             ·
              rw [if_pos c17] at H;have c17b0:=Qb c17;clear c17;by_cases c18:x5_1<(l0.length:Int)
              ·
               rw [if_pos c18] at H;have c18b0:=Qb c18;clear c18;by_cases c19:x7_4<(((rd_T29 l0 x5_1).f1).length:Int)
               ·
                rw [if_pos c19] at H;have c19b0:=Qb c19;clear c19;by_cases c20:0≤x7_4
                ·
                 rw [if_pos c20] at H;have c20b0:=Qb c20;clear c20;by_cases c21:x5_1<(l1.length:Int)
                 ·
                  rw [if_pos c21] at H;have c21b0:=Qb c21;clear c21;by_cases c22:x7_4<(((rd_T29 l1 x5_1).f1).length:Int)
                  ·
                   rw [if_pos c22] at H;have c22b0:=Qb c22;clear c22;by_cases c23:(!((((rd_T93 ((rd_T29 l0 x5_1).f1) x7_4).f0).toList) == (((rd_T93 ((rd_T29 l1 x5_1).f1) x7_4).f0).toList))||(!((((rd_T93 ((rd_T29 l0 x5_1).f1) x7_4).f1).toList) == (((rd_T93 ((rd_T29 l1 x5_1).f1) x7_4).f1).toList))||(!(((rd_T93 ((rd_T29 l0 x5_1).f1) x7_4).f2) == ((rd_T93 ((rd_T29 l1 x5_1).f1) x7_4).f2)))))=true
                   ·
                    rw [if_pos c23] at H;have c23b0:(!((((rd_T93 ((rd_T29 l0 x5_1).f1) x7_4).f0).toList) == (((rd_T93 ((rd_T29 l1 x5_1).f1) x7_4).f0).toList))||(!((((rd_T93 ((rd_T29 l0 x5_1).f1) x7_4).f1).toList) == (((rd_T93 ((rd_T29 l1 x5_1).f1) x7_4).f1).toList))||(!(((rd_T93 ((rd_T29 l0 x5_1).f1) x7_4).f2) == ((rd_T93 ((rd_T29 l1 x5_1).f1) x7_4).f2)))))=true:=c23;clear c23;obtain rfl:=Qd H;have p110:0≤(x5_1:Int):=Qo;have q110:x5_1<(l0.length:Int):=Qo;obtain⟨ad110,A110_0,c110_0,A110_1,c110_1,e110,hx110_0,hx110_1,hl110_0,hi110_0,hl110_1,hi110_1⟩:=at_T29 HR0.out x5_1 p110 q110;obtain rfl:ad105=ad110:=(by injection e110);have HR110_0:=am hi110_0;have HC110_0:=am hl110_0;clear hi110_0 hl110_0;have HR110_1:=am hi110_1;have HC110_1:=am hl110_1;clear hi110_1 hl110_1;replace p110:=eq_true p110;replace q110:=eq_true q110;have p111:0≤(x5_1:Int):=Qo;have q111:x5_1<(l0.length:Int):=Qo;obtain⟨ad111,A111_0,c111_0,A111_1,c111_1,e111,hx111_0,hx111_1,hl111_0,hi111_0,hl111_1,hi111_1⟩:=at_T29 HR0.out x5_1 p111 q111;obtain rfl:ad105=ad111:=(by injection e111);have HR111_0:=am hi111_0;have HC111_0:=am hl111_0;clear hi111_0 hl111_0;have HR111_1:=am hi111_1;have HC111_1:=am hl111_1;clear hi111_1 hl111_1;replace p111:=eq_true p111;replace q111:=eq_true q111;have ea_:=Qd (hx110_0.symm.trans hx111_0);injection ea_ with ea_ en_ ec_;subst ea_;subst ec_;clear en_;have ea_:=Qd (hx110_1.symm.trans hx111_1);injection ea_ with ea_ en_ ec_;subst ea_;subst ec_;clear en_;have p112:0≤(x7_4:Int):=Qo;have q112:x7_4<(((rd_T29 l0 x5_1).f1).length:Int):=Qo;obtain⟨ad112,e112,hx112_0,hx112_1,hx112_2⟩:=at_T93 HR111_1.out x7_4 p112 q112;cases e112;replace p112:=eq_true p112;replace q112:=eq_true q112;have p113:0≤(x5_1:Int):=Qo;have q113:x5_1<(l1.length:Int):=Qo;obtain⟨ad113,A113_0,c113_0,A113_1,c113_1,e113,hx113_0,hx113_1,hl113_0,hi113_0,hl113_1,hi113_1⟩:=at_T29 HR1.out x5_1 p113 q113;cases e113;have HR113_0:=am hi113_0;have HC113_0:=am hl113_0;clear hi113_0 hl113_0;have HR113_1:=am hi113_1;have HC113_1:=am hl113_1;clear hi113_1 hl113_1;replace p113:=eq_true p113;replace q113:=eq_true q113;have p114:0≤(x7_4:Int):=Qo;have q114:x7_4<(((rd_T29 l1 x5_1).f1).length:Int):=Qo;obtain⟨ad114,e114,hx114_0,hx114_1,hx114_2⟩:=at_T93 HR113_1.out x7_4 p114 q114;cases e114;replace p114:=eq_true p114;replace q114:=eq_true q114;go_wp2;repeat (go_quiet (fail);try go_wp2)
                    go_ret;exact⟨ze,zd⟩
                   rw [if_neg c23] at H;have c23b0:(!((((rd_T93 ((rd_T29 l0 x5_1).f1) x7_4).f0).toList) == (((rd_T93 ((rd_T29 l1 x5_1).f1) x7_4).f0).toList))||(!((((rd_T93 ((rd_T29 l0 x5_1).f1) x7_4).f1).toList) == (((rd_T93 ((rd_T29 l1 x5_1).f1) x7_4).f1).toList))||(!(((rd_T93 ((rd_T29 l0 x5_1).f1) x7_4).f2) == ((rd_T93 ((rd_T29 l1 x5_1).f1) x7_4).f2)))))=false:=by simpa using c23
                   clear c23;have H':=am H;clear H;have p110:0≤(x5_1:Int):=Qo;have q110:x5_1<(l0.length:Int):=Qo;obtain⟨ad110,A110_0,c110_0,A110_1,c110_1,e110,hx110_0,hx110_1,hl110_0,hi110_0,hl110_1,hi110_1⟩:=at_T29 HR0.out x5_1 p110 q110;obtain rfl:ad105=ad110:=(by injection e110);have HR110_0:=am hi110_0;have HC110_0:=am hl110_0;clear hi110_0 hl110_0;have HR110_1:=am hi110_1;have HC110_1:=am hl110_1;clear hi110_1 hl110_1;replace p110:=eq_true p110;replace q110:=eq_true q110;have p111:0≤(x5_1:Int):=Qo;have q111:x5_1<(l0.length:Int):=Qo;obtain⟨ad111,A111_0,c111_0,A111_1,c111_1,e111,hx111_0,hx111_1,hl111_0,hi111_0,hl111_1,hi111_1⟩:=at_T29 HR0.out x5_1 p111 q111;obtain rfl:ad105=ad111:=(by injection e111);have HR111_0:=am hi111_0;have HC111_0:=am hl111_0;clear hi111_0 hl111_0;have HR111_1:=am hi111_1;have HC111_1:=am hl111_1;clear hi111_1 hl111_1;replace p111:=eq_true p111;replace q111:=eq_true q111;have ea_:=Qd (hx110_0.symm.trans hx111_0);injection ea_ with ea_ en_ ec_;subst ea_;subst ec_;clear en_;have ea_:=Qd (hx110_1.symm.trans hx111_1);injection ea_ with ea_ en_ ec_;subst ea_;subst ec_;clear en_;have p112:0≤(x7_4:Int):=Qo;have q112:x7_4<(((rd_T29 l0 x5_1).f1).length:Int):=Qo;obtain⟨ad112,e112,hx112_0,hx112_1,hx112_2⟩:=at_T93 HR111_1.out x7_4 p112 q112;cases e112;replace p112:=eq_true p112;replace q112:=eq_true q112;have p113:0≤(x5_1:Int):=Qo;have q113:x5_1<(l1.length:Int):=Qo;obtain⟨ad113,A113_0,c113_0,A113_1,c113_1,e113,hx113_0,hx113_1,hl113_0,hi113_0,hl113_1,hi113_1⟩:=at_T29 HR1.out x5_1 p113 q113;cases e113;have HR113_0:=am hi113_0;have HC113_0:=am hl113_0;clear hi113_0 hl113_0;have HR113_1:=am hi113_1;have HC113_1:=am hl113_1;clear hi113_1 hl113_1;replace p113:=eq_true p113;replace q113:=eq_true q113;have p114:0≤(x7_4:Int):=Qo;have q114:x7_4<(((rd_T29 l1 x5_1).f1).length:Int):=Qo;obtain⟨ad114,e114,hx114_0,hx114_1,hx114_2⟩:=at_T93 HR113_1.out x7_4 p114 q114;cases e114;replace p114:=eq_true p114;replace q114:=eq_true q114;go_wp2;repeat (go_quiet (fail);try go_wp2)
                   go_roundg k4
                   case measure=>have:=HK1.out;have:=HJ4.out;have:=HK3.out;have:=HK4.out;omega
                   case rel=>exact ⟨(wrap64 (x7_4+1)),(ze),H',⟨by have:=HK1.out;have:=HJ4.out;have:=HK3.out;have:=HK4.out;omega⟩,zd⟩
                  rw [if_neg c22] at H;exact absurd H (by simp)
                 rw [if_neg c21] at H;exact absurd H (by simp)
                rw [if_neg c20] at H;exact absurd H (by simp)
               rw [if_neg c19] at H;have c19b0:=Qc c19;clear c19;have H':=am H;clear H;have p110:0≤(x5_1:Int):=Qo;have q110:x5_1<(l0.length:Int):=Qo;obtain⟨ad110,A110_0,c110_0,A110_1,c110_1,e110,hx110_0,hx110_1,hl110_0,hi110_0,hl110_1,hi110_1⟩:=at_T29 HR0.out x5_1 p110 q110;obtain rfl:ad105=ad110:=(by injection e110);have HR110_0:=am hi110_0;have HC110_0:=am hl110_0;clear hi110_0 hl110_0;have HR110_1:=am hi110_1;have HC110_1:=am hl110_1;clear hi110_1 hl110_1;replace p110:=eq_true p110;replace q110:=eq_true q110;go_wp2;repeat (go_quiet (fail);try go_wp2)
               go_roundg k4
               case measure=>have:=HK1.out;have:=HJ4.out;have:=HK3.out;have:=HK4.out;omega
               case rel=>exact ⟨(wrap64 (x5_1+1)),(ze),H',⟨by have:=HK1.out;have:=HJ4.out;have:=HK3.out;have:=HK4.out;omega⟩,zd⟩
              rw [if_neg c18] at H;exact absurd H (by simp)
             rw [if_neg c17] at H;exact absurd H (by simp)
          rw [if_neg c11] at H;exact absurd H (by simp)
         rw [if_neg c10] at H;exact absurd H (by simp)
    rw [if_neg c4] at H;have c4b0:=Qc c4;clear c4;obtain rfl:=Qd H;go_wp2;repeat (go_quiet (fail);try go_wp2)
    go_ret;exact⟨ze,zd⟩
 rw [if_neg c3] at H;have c3b0:=Qg c3;have c3b1:=Qi c3;have c3b2:(l0.length == l1.length)=false:=by first|simpa using c3|(simp at c3 ⊢;omega)
 obtain rfl:=Qd H;go_enter Tryz.func102,Tryz.ntmps102;go_wp2;repeat (go_quiet (fail);try go_wp2)
 go_ret;exact⟨ze,zd⟩
end Go.Proofs.YtpbembafpnknhaaGreat.Pr
namespace Go.Proofs.YtpbembafpnknhaaGreat.normOnce
theorem q_inPlace:(Rows.normOnceRow.inPlace == Tryz.pinned.checked.prog.inPlace 4)=true:=by kernel_rfl
theorem q_unfollowed:(Rows.normOnceRow.unfollowed == Tryz.pinned.checked.prog.unfollowed 4)=true:=by kernel_rfl
theorem q_recurses:(Rows.normOnceRow.recurses == Tryz.pinned.checked.prog.recurses 4)=true:=by kernel_rfl
theorem q_named:(Rows.normOnceRow.named == Tryz.pinned.checked.prog.varsNamed 4)=true:=by kernel_rfl
theorem q_veiled:(Rows.normOnceRow.veiled == (Tryz.f4.params.toList++Rows.normOnceSpec.plain.varTypes Tryz.pinned.checked.prog++Tryz.f4.resultTypes.toList).any (Tryz.pinned.checked.prog.veiledRec ·))=true:=by kernel_rfl
theorem facts:joinedFacts Tryz.pinned.checked.prog 4 Tryz.f4 Rows.normOnceSpec Rows.normOnceRow=true:=by
  unfold joinedFacts;rw [q_inPlace,q_unfollowed,q_recurses,q_named,q_veiled,stops_,stopKnobs_,laid_,rowed_,plain_,heard_,mayEnter_,lifts_,make_];kernel_rfl
#print axioms facts
end Go.Proofs.YtpbembafpnknhaaGreat.normOnce
