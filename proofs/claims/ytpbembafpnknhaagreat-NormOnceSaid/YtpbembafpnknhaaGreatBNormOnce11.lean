/- Proof texts of one seat,in one file: the walks of functions and the lemmas under them,printed by programs and typed by hand. Put together by wip/bundle.py. -/
import Derived.Test.YtpbembafpnknhaaGreatRows
import Derived.Test.YtpbembafpnknhaaGreatBNormOnce0
import Derived.Test.YtpbembafpnknhaaGreatBNormOnce1
import Derived.Test.YtpbembafpnknhaaGreatBNormOnce3
import Derived.Test.YtpbembafpnknhaaGreatBNormOnce4
import Derived.Test.YtpbembafpnknhaaGreatBNormOnce6
import Derived.Test.YtpbembafpnknhaaGreatBNormOnce7
set_option maxHeartbeats 8000000
set_option maxRecDepth 100000
set_option linter.unusedVariables false
set_option linter.unusedSimpArgs false
set_option linter.unusedSectionVars false
namespace Go.Proofs.YtpbembafpnknhaaGreat.Pr
open Go.RowKit Go.Proofs.YtpbembafpnknhaaGreatW.PrintWords Go.Proofs.YtpbembafpnknhaaGreatW.PrintLast Go.Proofs.YtpbembafpnknhaaGreatW.PrintMore
attribute [local go_sem] max2_int min2_int max_two min_two max_three min_three max_four min_four
def sentryref4_sentries.l0:Nat→List (S29)→Int→List ByteArray→List (S47)→Option (Bool)
  | 0, _, _, _, _ => none
  | k+1,x1,x5,x102000,x102001=>if x5<(x1.length:Int) then (if 0≤x5 then ((sentryref4_sentry.f k x102000 x102001 ((rd_T29 x1 x5).f0) ((rd_T29 x1 x5).f1)).bind fun t103=>(if t103=true then (sentryref4_sentries.l0 k x1 (wrap64 (x5+1)) x102000 x102001) else (some false))) else (none)) else (some (decide ((x1.length:Int)≤3)))
def sentryref4_sentries.f(k:Nat)(l0_0:List ByteArray)(l0_1:List (S47))(l1:List (S29)):Option (Bool):=sentryref4_sentries.l0 k l1 0 l0_0 l0_1
theorem sentryref4_sentries.calls(k:Nat)(A0_0:Option Addr)(c0_0:Nat)(l0_0:List ByteArray)(A0_1:Option Addr)(c0_1:Nat)(l0_1:List (S47))(A1:Option Addr)(c1:Nat)(l1:List (S29))(r:Bool)(w:World)(hr0_0:Kd.C Kd.string w A0_0 l0_0.length l0_0)(hc0_0:l0_0.length≤c0_0)(hr0_1:Kd.C k47 w A0_1 l0_1.length l0_1)(hc0_1:l0_1.length≤c0_1)(hr1:Kd.C k29 w A1 l1.length l1)(hc1:l1.length≤c1)(h:sentryref4_sentries.f k l0_0 l0_1 l1=some r) :
  Calls Tryz.prog 75 #[.agg #[.slice A0_0 l0_0.length c0_0,.slice A0_1 l0_1.length c0_1],.slice A1 l1.length c1] w fun e w'=>e = .returned (.bool r)∧Below w.heap.size w w':=by
 have hu25:=Tryz.underlying25;have hu29:=Tryz.underlying29;have HR0_0:=am hr0_0;have HC0_0:=am hc0_0;clear hr0_0 hc0_0;have HR0_1:=am hr0_1;have HC0_1:=am hc0_1;clear hr0_1 hc0_1;have HR1:=am hr1;have HC1:=am hc1;clear hr1 hc1;have HB:=am (Below.refl w.heap.size w);have H:(sentryref4_sentries.l0 k l1 0 l0_0 l0_1)=some r:=h;clear h;have H':=am H;clear H;go_enter Tryz.func75,Tryz.ntmps75;go_wp2_with (first|((with_reducible refine gd_ 2 ?_);refine bx_ 2 #[.slice A0_0 l0_0.length c0_0,.slice A0_1 l0_1.length c0_1] 25 ?_;intro gb101 hg w3 hbox hb;have BK101:=am (hbox);have GE101:=am (zg:w.heap.size≤gb101);replace HB:=am (below_step (zb) hb);clear hb hbox hg))
 go_loopg [5] k (fun kq v5 w' => ∃ (x5_1:Int),v5 = .int .i64 x5_1∧Aside0 (sentryref4_sentries.l0 kq l1 x5_1 l0_0 l0_1=some r)∧Aside0 (kq≤k)∧Aside0 (w'.heap[gb101]? = some (.cells #[(.slice A0_0 l0_0.length c0_0),(.slice A0_1 l0_1.length c0_1)] 25 (0,0)))∧Aside0 (Below w.heap.size w w'))
 case atStart=>exact ⟨(0),(ze),H',⟨Nat.le_refl _⟩,⟨zl BK101.out⟩,⟨zb⟩⟩
 case round =>
  clear H';obtain⟨x5_1,rfl,HA,HK1,BK101,HB⟩:=hrel
  cases gk with
  | zero => exact absurd HA.out (by simp [sentryref4_sentries.l0])
  | succ k1 =>
   have H:=HA.out;clear HA;simp only [sentryref4_sentries.l0] at H;by_cases c4:x5_1<(l1.length:Int)
   ·
    rw [if_pos c4] at H;have c4b0:=Qb c4;clear c4;by_cases c5:0≤x5_1
    ·
     rw [if_pos c5] at H;have c5b0:=Qb c5;clear c5;replace H:=Qe H;obtain⟨t103,A60,H⟩:=H;have A6:=am A60;clear A60;by_cases c7:t103=true
     ·
      subst c7;have H1:(sentryref4_sentries.l0 k1 l1 (wrap64 (x5_1+1)) l0_0 l0_1)=some r:=by rw [if_pos rfl] at H;exact H
      clear H;have H:=H1;clear H1;have H':=am H;clear H;try go_wp2
      replace BK101:=am (blk_drew BK101.out);replace HB:=am (below_drew1 HB.out);have p102:0≤(x5_1:Int):=Qo;have q102:x5_1<(l1.length:Int):=Qo;obtain⟨ad102,A102_0,c102_0,A102_1,c102_1,e102,hx102_0,hx102_1,hl102_0,hi102_0,hl102_1,hi102_1⟩:=at_T29 HR1.out x5_1 p102 q102;have hw102_1:=hx102_1;have hw102_0:=hx102_0;cases e102;replace hx102_0:=ba HB hx102_0;replace hx102_1:=ba HB hx102_1;have HR102_0:=am hi102_0;have HC102_0:=am hl102_0;clear hi102_0 hl102_0;have HR102_1:=am hi102_1;have HC102_1:=am hl102_1;clear hi102_1 hl102_1;replace p102:=eq_true p102;replace q102:=eq_true q102;refine start_ (n:=7) (S:=fun w'=>w'.cell? ⟨gb101,0,none⟩=some (.slice A0_0 l0_0.length c0_0)∧w'.cell? ⟨gb101,1,none⟩=some (.slice A0_1 l0_1.length c0_1)∧w'.cell? (ad102.add ((x5_1).toNat * 2))=some (.slice A102_0 ((rd_T29 l1 x5_1).f0).length c102_0)∧w'.cell? ⟨(ad102.add ((x5_1).toNat * 2)).block,(ad102.add ((x5_1).toNat * 2)).off+1,none⟩=some (.slice A102_1 ((rd_T29 l1 x5_1).f1).length c102_1)) (ds:=[]) #[false,false,false,false,false,false,false] (by kernel_rfl) rfl rfl ⟨bc BK101 0,bc BK101 1,(bh HB hw102_0),(bh HB hw102_1)⟩ (fun hHeld=>?_);generalize wr.drew=w8 at BK101 HB HR102_0 HR102_1 hx102_0 hx102_1 hHeld ⊢;refine pure_ (i:=1) (N:=some 13) (v:=?_) (a':=?_) #[false,true,false,false,false,false,false] rfl rfl (by kernel_rfl) (fun _ _ _ h=>h) (Or.inl ⟨by rfl,?_⟩) ?_ ?_
      rotate_left
      ·
       intro w';go_simp
       with_reducible rfl
      rotate_left
      ·
       simp only [Act.put,List.setIfInBounds_toArray,List.set_cons_zero,List.set_cons_succ,i64_w,i32_w];rfl
      refine pure_ (i:=2) (N:=some 14) (v:=?_) (a':=?_) #[false,true,true,false,false,false,false] rfl rfl (by kernel_rfl) (fun _ _ _ h=>h) (Or.inl ⟨by rfl,?_⟩) ?_ ?_
      rotate_left
      ·
       intro w';go_simp
       with_reducible rfl
      rotate_left
      ·
       simp only [Act.put,List.setIfInBounds_toArray,List.set_cons_zero,List.set_cons_succ,i64_w,i32_w];rfl
      refine pure_ (i:=3) (N:=some 15) (v:=?_) (a':=?_) #[false,true,true,true,false,false,false] rfl rfl (by kernel_rfl) (fun _ _ _ h=>h) (Or.inl ⟨by rfl,?_⟩) ?_ ?_
      rotate_left
      ·
       intro w';go_simp
       with_reducible rfl
      rotate_left
      ·
       simp only [Act.put,List.setIfInBounds_toArray,List.set_cons_zero,List.set_cons_succ,i64_w,i32_w];rfl
      refine take_ (i:=0) (N:=some 12) (v:=?_) (a':=?_) #[true,true,true,true,false,false,false] rfl rfl (by kernel_rfl) (fun _ _ _ h=>h) (Or.inl ⟨by rfl,?_⟩) hHeld ?_ ?_
      rotate_left
      ·
       rintro w' ⟨s0,s1,s2,s3⟩;go_simp
       with_reducible rfl
      rotate_left
      ·
       simp only [Act.put,List.setIfInBounds_toArray,List.set_cons_zero,List.set_cons_succ,i64_w,i32_w];rfl
      refine take_ (i:=4) (N:=some 16) (v:=?_) (a':=?_) #[true,true,true,true,true,false,false] rfl rfl (by kernel_rfl) (fun _ _ _ h=>h) (Or.inl ⟨by rfl,?_⟩) hHeld ?_ ?_
      rotate_left
      ·
       rintro w' ⟨s0,s1,s2,s3⟩;go_simp
       with_reducible rfl
      rotate_left
      ·
       simp only [Act.put,List.setIfInBounds_toArray,List.set_cons_zero,List.set_cons_succ,i64_w,i32_w];rfl
      refine one_ (i:=5) (N:=some 17) #[true,true,true,true,true,true,false] rfl rfl (by kernel_rfl) (by decide) (fun K hK=>?_);refine goes_ Tryz.func123 (by kernel_rfl) rfl #[.agg #[.slice A0_0 l0_0.length c0_0,.slice A0_1 l0_1.length c0_1],.agg #[.slice A102_0 ((rd_T29 l1 x5_1).f0).length c102_0,.slice A102_1 ((rd_T29 l1 x5_1).f1).length c102_1]] (by rfl) rfl rfl (za) ?_;with_reducible refine (sentryref4_sentry.calls k1 _ _ l0_0 _ _ l0_1 _ _ ((rd_T29 l1 x5_1).f0) _ _ ((rd_T29 l1 x5_1).f1) true _ ?side1 ?side2 ?side3 ?side4 ?side5 ?side6 ?side7 ?side8 A6.out).mono ?_
      (case side1=>exact zc (Kd.C_below HR0_0.out HB.out))
      (case side2=>exact HC0_0.out)
      (case side3=>exact zc (Kd.C_below HR0_1.out HB.out))
      (case side4=>exact HC0_1.out)
      (case side5=>exact zc (Kd.C_below HR102_0.out HB.out))
      (case side6=>exact HC102_0.out)
      (case side7=>exact zc (Kd.C_below HR102_1.out HB.out))
      (case side8=>exact HC102_1.out)
      rintro e w9 ⟨rfl,hb⟩;refine⟨_,rfl,?_⟩;replace BK101:=am (zw BK101.out hb);replace HB:=am (below_step (zb) hb)
      (try clear hb)
      (try clear hb2)
      (try clear hk)
      (try clear hi)
      refine hK.out _ _ ⟨bc BK101 0,bc BK101 1,(bh HB hw102_0),(bh HB hw102_1)⟩ (fun hHeld=>?_);clear hK K;refine nz_ 17 ?_;refine pure_ (i:=6) (N:=some 18) (v:=?_) (a':=?_) #[true,true,true,true,true,true,true] rfl rfl (by kernel_rfl) (fun _ _ _ h=>h) (Or.inl ⟨by rfl,?_⟩) ?_ ?_
      rotate_left
      ·
       intro w';go_simp
       with_reducible rfl
      rotate_left
      ·
       simp only [Act.put,List.setIfInBounds_toArray,List.set_cons_zero,List.set_cons_succ,i64_w,i32_w];rfl
      refine done_ (by kernel_rfl) ?_;try go_wp2
      go_roundg k1
      case measure=>have:=HK1.out;omega
      case rel=>exact ⟨(wrap64 (x5_1+1)),(ze),H',⟨by have:=HK1.out;omega⟩,⟨zl BK101.out⟩,⟨zb⟩⟩
     replace c7:=Qj c7;subst c7;have H1:(some false)=some r:=by rw [if_neg (show ¬ (false=true) by decide)] at H;exact H
     clear H;have H:=H1;clear H1;obtain rfl:=Qd H;try go_wp2
     replace BK101:=am (blk_drew BK101.out);replace HB:=am (below_drew1 HB.out);have p102:0≤(x5_1:Int):=Qo;have q102:x5_1<(l1.length:Int):=Qo;obtain⟨ad102,A102_0,c102_0,A102_1,c102_1,e102,hx102_0,hx102_1,hl102_0,hi102_0,hl102_1,hi102_1⟩:=at_T29 HR1.out x5_1 p102 q102;have hw102_1:=hx102_1;have hw102_0:=hx102_0;cases e102;replace hx102_0:=ba HB hx102_0;replace hx102_1:=ba HB hx102_1;have HR102_0:=am hi102_0;have HC102_0:=am hl102_0;clear hi102_0 hl102_0;have HR102_1:=am hi102_1;have HC102_1:=am hl102_1;clear hi102_1 hl102_1;replace p102:=eq_true p102;replace q102:=eq_true q102;refine start_ (n:=7) (S:=fun w'=>w'.cell? ⟨gb101,0,none⟩=some (.slice A0_0 l0_0.length c0_0)∧w'.cell? ⟨gb101,1,none⟩=some (.slice A0_1 l0_1.length c0_1)∧w'.cell? (ad102.add ((x5_1).toNat * 2))=some (.slice A102_0 ((rd_T29 l1 x5_1).f0).length c102_0)∧w'.cell? ⟨(ad102.add ((x5_1).toNat * 2)).block,(ad102.add ((x5_1).toNat * 2)).off+1,none⟩=some (.slice A102_1 ((rd_T29 l1 x5_1).f1).length c102_1)) (ds:=[]) #[false,false,false,false,false,false,false] (by kernel_rfl) rfl rfl ⟨bc BK101 0,bc BK101 1,(bh HB hw102_0),(bh HB hw102_1)⟩ (fun hHeld=>?_);generalize wr.drew=w10 at BK101 HB HR102_0 HR102_1 hx102_0 hx102_1 hHeld ⊢;refine pure_ (i:=1) (N:=some 13) (v:=?_) (a':=?_) #[false,true,false,false,false,false,false] rfl rfl (by kernel_rfl) (fun _ _ _ h=>h) (Or.inl ⟨by rfl,?_⟩) ?_ ?_
     rotate_left
     ·
      intro w';go_simp
      with_reducible rfl
     rotate_left
     ·
      simp only [Act.put,List.setIfInBounds_toArray,List.set_cons_zero,List.set_cons_succ,i64_w,i32_w];rfl
     refine pure_ (i:=2) (N:=some 14) (v:=?_) (a':=?_) #[false,true,true,false,false,false,false] rfl rfl (by kernel_rfl) (fun _ _ _ h=>h) (Or.inl ⟨by rfl,?_⟩) ?_ ?_
     rotate_left
     ·
      intro w';go_simp
      with_reducible rfl
     rotate_left
     ·
      simp only [Act.put,List.setIfInBounds_toArray,List.set_cons_zero,List.set_cons_succ,i64_w,i32_w];rfl
     refine pure_ (i:=3) (N:=some 15) (v:=?_) (a':=?_) #[false,true,true,true,false,false,false] rfl rfl (by kernel_rfl) (fun _ _ _ h=>h) (Or.inl ⟨by rfl,?_⟩) ?_ ?_
     rotate_left
     ·
      intro w';go_simp
      with_reducible rfl
     rotate_left
     ·
      simp only [Act.put,List.setIfInBounds_toArray,List.set_cons_zero,List.set_cons_succ,i64_w,i32_w];rfl
     refine take_ (i:=0) (N:=some 12) (v:=?_) (a':=?_) #[true,true,true,true,false,false,false] rfl rfl (by kernel_rfl) (fun _ _ _ h=>h) (Or.inl ⟨by rfl,?_⟩) hHeld ?_ ?_
     rotate_left
     ·
      rintro w' ⟨s0,s1,s2,s3⟩;go_simp
      with_reducible rfl
     rotate_left
     ·
      simp only [Act.put,List.setIfInBounds_toArray,List.set_cons_zero,List.set_cons_succ,i64_w,i32_w];rfl
     refine take_ (i:=4) (N:=some 16) (v:=?_) (a':=?_) #[true,true,true,true,true,false,false] rfl rfl (by kernel_rfl) (fun _ _ _ h=>h) (Or.inl ⟨by rfl,?_⟩) hHeld ?_ ?_
     rotate_left
     ·
      rintro w' ⟨s0,s1,s2,s3⟩;go_simp
      with_reducible rfl
     rotate_left
     ·
      simp only [Act.put,List.setIfInBounds_toArray,List.set_cons_zero,List.set_cons_succ,i64_w,i32_w];rfl
     refine one_ (i:=5) (N:=some 17) #[true,true,true,true,true,true,false] rfl rfl (by kernel_rfl) (by decide) (fun K hK=>?_);refine goes_ Tryz.func123 (by kernel_rfl) rfl #[.agg #[.slice A0_0 l0_0.length c0_0,.slice A0_1 l0_1.length c0_1],.agg #[.slice A102_0 ((rd_T29 l1 x5_1).f0).length c102_0,.slice A102_1 ((rd_T29 l1 x5_1).f1).length c102_1]] (by rfl) rfl rfl (za) ?_;with_reducible refine (sentryref4_sentry.calls k1 _ _ l0_0 _ _ l0_1 _ _ ((rd_T29 l1 x5_1).f0) _ _ ((rd_T29 l1 x5_1).f1) false _ ?side1 ?side2 ?side3 ?side4 ?side5 ?side6 ?side7 ?side8 A6.out).mono ?_
     (case side1=>exact zc (Kd.C_below HR0_0.out HB.out))
     (case side2=>exact HC0_0.out)
     (case side3=>exact zc (Kd.C_below HR0_1.out HB.out))
     (case side4=>exact HC0_1.out)
     (case side5=>exact zc (Kd.C_below HR102_0.out HB.out))
     (case side6=>exact HC102_0.out)
     (case side7=>exact zc (Kd.C_below HR102_1.out HB.out))
     (case side8=>exact HC102_1.out)
     rintro e w11 ⟨rfl,hb⟩;refine⟨_,rfl,?_⟩;replace BK101:=am (zw BK101.out hb);replace HB:=am (below_step (zb) hb)
     (try clear hb)
     (try clear hb2)
     (try clear hk)
     (try clear hi)
     refine hK.out _ _ ⟨bc BK101 0,bc BK101 1,(bh HB hw102_0),(bh HB hw102_1)⟩ (fun hHeld=>?_);clear hK K;refine nz_ 17 ?_;refine pure_ (i:=6) (N:=some 18) (v:=?_) (a':=?_) #[true,true,true,true,true,true,true] rfl rfl (by kernel_rfl) (fun _ _ _ h=>h) (Or.inl ⟨by rfl,?_⟩) ?_ ?_
     rotate_left
     ·
      intro w';go_simp
      with_reducible rfl
     rotate_left
     ·
      simp only [Act.put,List.setIfInBounds_toArray,List.set_cons_zero,List.set_cons_succ,i64_w,i32_w];rfl
     refine done_ (by kernel_rfl) ?_;try go_wp2
     go_ret;exact⟨zf,zb⟩
    rw [if_neg c5] at H;exact absurd H (by simp)
   rw [if_neg c4] at H;have c4b0:=Qc c4;clear c4;obtain rfl:=Qd H;go_wp2;go_ret;exact⟨zf,zb⟩
mutual
def sentryref4_Is.j0:Nat→Bool→List ByteArray→List (S47)→Option (Bool)
  | 0, _, _, _ => none
  | k+1,x21,x102000,x102001=>if x21=true then (some false) else (sentryref4_Is.l0 k 0 x102000 x102001)
def sentryref4_Is.l0:Nat→Int→List ByteArray→List (S47)→Option (Bool)
  | 0, _, _, _ => none
  | k+1,x3,x102000,x102001=>if x3<(x102000.length:Int) then (if 0≤x3 then ((sentryref1_Is.f k (rdOf ByteArray.empty x102000 x3)).bind fun t103=>(if t103=true then (if x3≤(x102000.length:Int) then ((sentryref4_File.f k (x102000.take (x3:Int).toNat) (rdOf ByteArray.empty x102000 x3)).bind fun t106=>(if t106=true then (some false) else (sentryref4_Is.l0 k (wrap64 (x3+1)) x102000 x102001))) else (none)) else (some false))) else (none)) else (sentryref4_Is.l1 k 0 x102000 x102001)
def sentryref4_Is.l1:Nat→Int→List ByteArray→List (S47)→Option (Bool)
  | 0, _, _, _ => none
  | k+1,x4,x102000,x102001=>if x4<(x102001.length:Int) then ((sentryref4_item.f k x102000 x102001 x4).bind fun t107=>(if t107=true then (sentryref4_Is.l1 k (wrap64 (x4+1)) x102000 x102001) else (some false))) else (sentryref4_Is.l2 k 0 x102000 x102001)
def sentryref4_Is.l2:Nat→Int→List ByteArray→List (S47)→Option (Bool)
  | 0, _, _, _ => none
  | k+1,x5,x102000,x102001=>if x5<(x102001.length:Int) then (if 0≤x5 then ((sentryref4_sentries.f k x102000 x102001 ((rd_T47 x102001 x5).f5)).bind fun t109=>(if t109=true then ((sentryref4_sentries.f k x102000 x102001 ((rd_T47 x102001 x5).f6)).bind fun t111=>(if t111=true then (sentryref4_Is.l2 k (wrap64 (x5+1)) x102000 x102001) else (some false))) else (some false))) else (none)) else (some true)
end
def sentryref4_Is.f(k:Nat)(l0_0:List ByteArray)(l0_1:List (S47)):Option (Bool):=if (l0_0.length:Int)>6 then (sentryref4_Is.j0 k true l0_0 l0_1) else (if (l0_1.length:Int)<1 then (sentryref4_Is.j0 k true l0_0 l0_1) else (sentryref4_Is.j0 k (decide ((l0_1.length:Int)>16)) l0_0 l0_1))
def sentryref4_Is.T6:Bool × List (List Nat × List Nat):=(true,[([],[]),([0],[0]),([],[]),([1,2],[1,2]),([3],[3]),([4],[4]),([5],[5]),([6,5],[6]),([7],[7]),([8,7],[7,8]),([7],[7]),([9,10,7],[7,9,10]),([7],[7]),([12,7],[7,12]),([7],[7]),([13,14,7],[7,13,14]),([15,7],[7,15]),([11,16,7,7],[7,11,16]),([7,17],[7,17])])
def sentryref4_Is.B6:List Nat:=[0,1,0,7,15,31,63,127,255,511,255,2047,255,4351,255,28927,61695,131071,262143]
theorem sentryref4_Is.tab6:rtab .any (opsOf Tryz.f34 6)=sentryref4_Is.T6:=by kernel_rfl
theorem sentryref4_Is.bits6:waitsOk sentryref4_Is.T6.2 sentryref4_Is.B6=true:=by kernel_rfl
def sentryref4_Is.T16:Bool × List (List Nat × List Nat):=(true,[([],[]),([],[]),([1],[1]),([],[]),([2,3],[2,3]),([4],[4]),([5],[5]),([0,6],[0,6]),([7],[7]),([8,7],[8]),([9],[9]),([9],[9]),([11,9],[9,11]),([9],[9]),([12,13,9],[9,12,13]),([14,9],[9,14]),([15,9],[9,15]),([10,16,9,9],[9,10,16]),([17,9],[9,17]),([9,18],[9,18])])
def sentryref4_Is.B16:List Nat:=[0,0,2,0,14,30,62,127,255,511,1023,1023,3071,1023,15359,31743,64511,131071,262143,524287]
theorem sentryref4_Is.tab16:rtab .any (opsOf Tryz.f34 16)=sentryref4_Is.T16:=by kernel_rfl
theorem sentryref4_Is.bits16:waitsOk sentryref4_Is.T16.2 sentryref4_Is.B16=true:=by kernel_rfl
theorem sentryref4_Is.calls(k : Nat)(A0_0 : Option Addr)(c0_0 : Nat)(l0_0 : List ByteArray)(A0_1 : Option Addr)(c0_1 : Nat)(l0_1 : List (S47))(r : Bool)(w : World)(hr0_0 : Kd.C Kd.string w A0_0 l0_0.length l0_0)(hc0_0 : l0_0.length ≤ c0_0)(hr0_1 : Kd.C k47 w A0_1 l0_1.length l0_1)(hc0_1 : l0_1.length ≤ c0_1)(h : sentryref4_Is.f k l0_0 l0_1 = some r) :
  Calls Tryz.prog 34 #[.agg #[.slice A0_0 l0_0.length c0_0,.slice A0_1 l0_1.length c0_1]] w fun e w'=>e = .returned (.bool r)∧Below w.heap.size w w':=by
 have hu25:=Tryz.underlying25;have HR0_0:=am hr0_0;have HC0_0:=am hc0_0;clear hr0_0 hc0_0;have HR0_1:=am hr0_1;have HC0_1:=am hc0_1;clear hr0_1 hc0_1;have HB:=am (Below.refl w.heap.size w);have H:(if (l0_0.length:Int)>6 then (sentryref4_Is.j0 k true l0_0 l0_1) else (if (l0_1.length:Int)<1 then (sentryref4_Is.j0 k true l0_0 l0_1) else (sentryref4_Is.j0 k (decide ((l0_1.length:Int)>16)) l0_0 l0_1)))=some r:=h;clear h;have HC2:=am H;clear H;go_enter Tryz.func34,Tryz.ntmps34;go_upto_region 1 with (first|((with_reducible refine gd_ 1 ?_);(try (refine gate_guard (by rfl) ?_;dsimp only));refine bx_ 1 #[.slice A0_0 l0_0.length c0_0,.slice A0_1 l0_1.length c0_1] 25 ?_;intro gb101 hg w3 hbox hb;have BK101:=am (hbox);have GE101:=am (zg:w.heap.size≤gb101);replace HB:=am (below_step (zb) hb);clear hb hbox hg))
 (try simp only [Act.put,List.setIfInBounds_toArray,List.set_cons_zero,List.set_cons_succ])
 go_cut [21] (fun v21 wc => ∃ (kq:Nat) (x21_1:Bool),v21 = .bool x21_1∧Aside0 (sentryref4_Is.j0 kq x21_1 l0_0 l0_1=some r)∧Aside0 (kq≤k)∧Aside0 (wc.heap[gb101]? = some (.cells #[(.slice A0_0 l0_0.length c0_0),(.slice A0_1 l0_1.length c0_1)] 25 (0,0)))∧Aside0 (Below w.heap.size w wc))
 case first =>
  have H:=HC2.out;clear HC2;by_cases c4:(l0_0.length:Int)>6
  ·
   rw [if_pos c4] at H;have c4b0:decide (6<(l0_0.length:Int))=true:=Qb c4;have c4b1:decide (6<l0_0.length)=true:=Qb (by omega);clear c4
   (first|rw [c4b0] | (simp only [i64_w,i32_w];rw [c4b0])|skip)
   have H':=am H;clear H;obtain⟨hcz5_0,hcz5_1⟩:=cs2 BK101.out;go_wp2;go_meet
   case rel=>exact ⟨_,(true),(ze),H',⟨by first|omega|exact Nat.le_refl _⟩,⟨zl BK101.out⟩,⟨zb⟩⟩
  rw [if_neg c4] at H;have c4b0:decide (6<(l0_0.length:Int))=false:=Qc c4;have c4b1:decide (6<l0_0.length)=false:=Qc (by omega);clear c4
  (first|rw [c4b0] | (simp only [i64_w,i32_w];rw [c4b0])|skip)
  by_cases c6:(l0_1.length:Int)<1
  ·
   rw [if_pos c6] at H;have c6b0:=Qb c6;have c6b1:decide (l0_1.length<1)=true:=Qb (by omega);clear c6;have H':=am H;clear H;obtain⟨hcz7_0,hcz7_1⟩:=cs2 BK101.out;go_wp2;go_meet
   case rel=>exact ⟨_,(true),(ze),H',⟨by first|omega|exact Nat.le_refl _⟩,⟨zl BK101.out⟩,⟨zb⟩⟩
  rw [if_neg c6] at H;have c6b0:=Qc c6;have c6b1:decide (l0_1.length<1)=false:=Qc (by omega);clear c6;have H':=am H;clear H;obtain⟨hcz8_0,hcz8_1⟩:=cs2 BK101.out;go_wp2;go_meet
  case rel=>exact ⟨_,(decide ((l0_1.length:Int)>16)),(ze),H',⟨by first|omega|exact Nat.le_refl _⟩,⟨zl BK101.out⟩,⟨zb⟩⟩
 case rest =>
  clear HC2;obtain⟨kq,x21_1,rfl,HA,HJ1,BK101,HB⟩:=hcut
  cases kq with
  | zero => exact absurd HA.out (by simp [sentryref4_Is.j0])
  | succ kj1 =>
   have H:=HA.out;clear HA;simp only [sentryref4_Is.j0] at H;by_cases c9:x21_1=true
   ·
    subst c9;have H1:(some false)=some r:=by rw [if_pos rfl] at H;exact H
    clear H;have H:=H1;clear H1;obtain rfl:=Qd H;go_wp2;go_ret;exact⟨zf,zb⟩
   replace c9:=Qj c9;subst c9;have H1:(sentryref4_Is.l0 kj1 0 l0_0 l0_1)=some r:=by rw [if_neg (show ¬ (false=true) by decide)] at H;exact H
   clear H;have H:=H1;clear H1;have H':=am H;clear H;go_wp2;go_loopg [3] kj1 (fun kq v3 w' => ∃ (x3_2:Int),v3 = .int .i64 x3_2∧Aside0 (sentryref4_Is.l0 kq x3_2 l0_0 l0_1=some r)∧Aside0 (kq≤kj1)∧Aside0 (w'.heap[gb101]? = some (.cells #[(.slice A0_0 l0_0.length c0_0),(.slice A0_1 l0_1.length c0_1)] 25 (0,0)))∧Aside0 (Below w.heap.size w w'))
   case atStart=>exact ⟨(0),(ze),H',⟨Nat.le_refl _⟩,⟨zl BK101.out⟩,⟨zb⟩⟩
   case round =>
    clear H';obtain⟨x3_2,rfl,HA,HK2,BK101,HB⟩:=hrel
    cases gk with
    | zero => exact absurd HA.out (by simp [sentryref4_Is.l0])
    | succ k2 =>
     have H:=HA.out;clear HA;simp only [sentryref4_Is.l0] at H;by_cases c10:x3_2<(l0_0.length:Int)
     ·
      rw [if_pos c10] at H;have c10b0:=Qb c10;clear c10;by_cases c11:0≤x3_2
      ·
       rw [if_pos c11] at H;have c11b0:=Qb c11;clear c11;replace H:=Qe H;obtain⟨t103,A120,H⟩:=H;have A12:=am A120;clear A120;by_cases c13:t103=true
       ·
        subst c13;have H1:(if x3_2≤(l0_0.length:Int) then ((sentryref4_File.f k2 (l0_0.take (x3_2:Int).toNat) (rdOf ByteArray.empty l0_0 x3_2)).bind fun t106=>(if t106=true then (some false) else (sentryref4_Is.l0 k2 (wrap64 (x3_2+1)) l0_0 l0_1))) else (none))=some r:=by rw [if_pos rfl] at H;exact H
        clear H;have H:=H1;clear H1;have c14b0:=eq_true (Qo:0≤x3_2);by_cases c15:x3_2≤(l0_0.length:Int)
        ·
         rw [if_pos c15] at H;have c15b0:=eq_true c15;have c15b1:=Qb c15;clear c15;replace H:=Qe H;obtain⟨t106,A160,H⟩:=H;have A16:=am A160;clear A160;by_cases c17:t106=true
         ·
          subst c17;have H1:(some false)=some r:=by rw [if_pos rfl] at H;exact H
          clear H;have H:=H1;clear H1;obtain rfl:=Qd H;obtain⟨hcz18_0,hcz18_1⟩:=cs2 BK101.out;try go_wp2
          replace BK101:=am (blk_drew BK101.out);replace HB:=am (below_drew1 HB.out);have p102:0≤(x3_2:Int):=Qo;have q102:x3_2<(l0_0.length:Int):=Qo;obtain⟨ad102,e102,hx102_0⟩:=Kd.at_string HR0_0.out x3_2 p102 q102;have hw102_0:=hx102_0;cases e102;replace hx102_0:=ba HB hx102_0;replace p102:=eq_true p102;replace q102:=eq_true q102;have p105:0≤(x3_2:Int):=Qo;have q105:x3_2<(l0_0.length:Int):=Qo;obtain⟨ad105,e105,hx105_0⟩:=Kd.at_string HR0_0.out x3_2 p105 q105;have hw105_0:=hx105_0;obtain rfl:ad102=ad105:=(by injection e105);replace hx105_0:=ba HB hx105_0;replace p105:=eq_true p105;replace q105:=eq_true q105;refine start_ (n:=19) (S:=fun w'=>w'.cell? ⟨gb101,0,none⟩=some (.slice (some ad102) l0_0.length c0_0)∧w'.cell? ⟨gb101,1,none⟩=some (.slice A0_1 l0_1.length c0_1)∧w'.cell? (ad102.add (x3_2).toNat)=some (.string (rdOf ByteArray.empty l0_0 x3_2))∧w'.cell? (ad102.add (x3_2).toNat)=some (.string (rdOf ByteArray.empty l0_0 x3_2))) (ds:=[]) #[false,false,false,false,false,false,false,false,false,false,false,false,false,false,false,false,false,false,false] (by kernel_rfl) rfl rfl ⟨bc BK101 0,bc BK101 1,(bh HB hw102_0),(bh HB hw105_0)⟩ (fun hHeld=>?_);refine with_tabW sentryref4_Is.tab6 sentryref4_Is.bits6 (fun HT_ HW_=>?_);generalize wr.drew=w19 at BK101 HB hx102_0 hx105_0 hHeld ⊢;refine pz_ 0 29 19 1 ?_;refine pz_ 2 31 19 5 ?_;refine tz_ 1 30 19 7 ?_;refine pz_ 3 32 19 15 ?_;refine tz_ 4 33 19 31 ?_;refine oz_ 5 34 19 63 (fun K hK=>?_);refine goes_ Tryz.func72 (by kernel_rfl) rfl #[.string (rdOf ByteArray.empty l0_0 x3_2)] (by rfl) rfl rfl (za) ?_;with_reducible refine (sentryref1_Is.calls k2 (rdOf ByteArray.empty l0_0 x3_2) true _ A12.out).mono ?_
          rintro e w' ⟨rfl,⟨nd,rfl⟩⟩;refine⟨_,rfl,?_⟩;obtain⟨i020,hi020,_,hsz20,_⟩:=info_parts info9;obtain⟨hcut20,hA20,hC20⟩:=print_take_of (P:=Tryz.prog) Value.string (⟨#[]⟩:ByteArray) 22 9 .i64 Tryz.underlying22 hi020 hsz20 (some ad102) c0_0 l0_0 x3_2 (Qo) (Qo) HC0_0.out;have HR104:=am (Kd.C_of_reads (h1:=fun _=>rfl) (hA20 _ (Kd.reads_of_C HR0_0.out)));have HC104:=am hC20;clear hA20 hC20 hi020 hsz20;refine hK.out _ _ ⟨bc BK101 0,bc BK101 1,(bh HB hw102_0),(bh HB hw105_0)⟩ (fun hHeld=>?_);clear hK K;refine nz_ 34 ?_;refine pz_ 6 35 19 127 ?_;refine pz_ 7 36 19 255 ?_;refine pz_ 8 37 19 511 ?_;refine pz_ 10 39 19 1535 ?_;refine pz_ 12 41 19 5631 ?_;refine pz_ 14 43 19 22015 ?_;refine tz_ 9 38 19 22527 ?_;refine pz_ 11 40 19 24575 ?_;refine tz_ 13 42 19 32767 ?_;refine pz_ 15 44 19 65535 ?_;refine tz_ 16 45 19 131071 ?_;refine oz_ 17 46 19 262143 (fun K hK=>?_);refine goes_ Tryz.func73 (by kernel_rfl) rfl #[.slice (some ad102) (l0_0.take (x3_2:Int).toNat).length c0_0,.string (rdOf ByteArray.empty l0_0 x3_2)] (by rfl) rfl rfl (by (try simp only [List.map_toArray,List.map_cons,List.map_nil]);first|done|(rw [show (l0_0.take (x3_2:Int).toNat).length=x3_2.toNat from (by rw [List.length_take];have h_:(x3_2:Int)≤(l0_0.length:Int):=Qo;omega)] <;> rfl)|rfl|(simp only [List.length_drop,List.length_take];rfl)) ?_;with_reducible refine (sentryref4_File.calls k2 _ _ (l0_0.take (x3_2:Int).toNat) (rdOf ByteArray.empty l0_0 x3_2) true _ ?side1 ?side2 A16.out).mono ?_
          (case side1=>exact zc (Kd.C_below HR104.out (zb)))
          (case side2=>exact HC104.out)
          rintro e w' ⟨rfl,⟨nd,rfl⟩⟩;refine⟨_,rfl,?_⟩;refine hK.out _ _ ⟨bc BK101 0,bc BK101 1,(bh HB hw102_0),(bh HB hw105_0)⟩ (fun hHeld=>?_);clear hK K;refine nz_ 46 ?_;refine pz_ 18 47 19 524287 ?_;refine done_ (done_of HT_.out (by kernel_rfl)) ?_;try go_wp2
          go_ret;exact⟨zf,zb⟩
         replace c17:=Qj c17;subst c17;have H1:(sentryref4_Is.l0 k2 (wrap64 (x3_2+1)) l0_0 l0_1)=some r:=by rw [if_neg (show ¬ (false=true) by decide)] at H;exact H
         clear H;have H:=H1;clear H1;have H':=am H;clear H;obtain⟨hcz21_0,hcz21_1⟩:=cs2 BK101.out;try go_wp2
         replace BK101:=am (blk_drew BK101.out);replace HB:=am (below_drew1 HB.out);have p102:0≤(x3_2:Int):=Qo;have q102:x3_2<(l0_0.length:Int):=Qo;obtain⟨ad102,e102,hx102_0⟩:=Kd.at_string HR0_0.out x3_2 p102 q102;have hw102_0:=hx102_0;cases e102;replace hx102_0:=ba HB hx102_0;replace p102:=eq_true p102;replace q102:=eq_true q102;have p105:0≤(x3_2:Int):=Qo;have q105:x3_2<(l0_0.length:Int):=Qo;obtain⟨ad105,e105,hx105_0⟩:=Kd.at_string HR0_0.out x3_2 p105 q105;have hw105_0:=hx105_0;obtain rfl:ad102=ad105:=(by injection e105);replace hx105_0:=ba HB hx105_0;replace p105:=eq_true p105;replace q105:=eq_true q105;refine start_ (n:=19) (S:=fun w'=>w'.cell? ⟨gb101,0,none⟩=some (.slice (some ad102) l0_0.length c0_0)∧w'.cell? ⟨gb101,1,none⟩=some (.slice A0_1 l0_1.length c0_1)∧w'.cell? (ad102.add (x3_2).toNat)=some (.string (rdOf ByteArray.empty l0_0 x3_2))∧w'.cell? (ad102.add (x3_2).toNat)=some (.string (rdOf ByteArray.empty l0_0 x3_2))) (ds:=[]) #[false,false,false,false,false,false,false,false,false,false,false,false,false,false,false,false,false,false,false] (by kernel_rfl) rfl rfl ⟨bc BK101 0,bc BK101 1,(bh HB hw102_0),(bh HB hw105_0)⟩ (fun hHeld=>?_);refine with_tabW sentryref4_Is.tab6 sentryref4_Is.bits6 (fun HT_ HW_=>?_);generalize wr.drew=w22 at BK101 HB hx102_0 hx105_0 hHeld ⊢;refine pz_ 0 29 19 1 ?_;refine pz_ 2 31 19 5 ?_;refine tz_ 1 30 19 7 ?_;refine pz_ 3 32 19 15 ?_;refine tz_ 4 33 19 31 ?_;refine oz_ 5 34 19 63 (fun K hK=>?_);refine goes_ Tryz.func72 (by kernel_rfl) rfl #[.string (rdOf ByteArray.empty l0_0 x3_2)] (by rfl) rfl rfl (za) ?_;with_reducible refine (sentryref1_Is.calls k2 (rdOf ByteArray.empty l0_0 x3_2) true _ A12.out).mono ?_
         rintro e w' ⟨rfl,⟨nd,rfl⟩⟩;refine⟨_,rfl,?_⟩;obtain⟨i023,hi023,_,hsz23,_⟩:=info_parts info9;obtain⟨hcut23,hA23,hC23⟩:=print_take_of (P:=Tryz.prog) Value.string (⟨#[]⟩:ByteArray) 22 9 .i64 Tryz.underlying22 hi023 hsz23 (some ad102) c0_0 l0_0 x3_2 (Qo) (Qo) HC0_0.out;have HR104:=am (Kd.C_of_reads (h1:=fun _=>rfl) (hA23 _ (Kd.reads_of_C HR0_0.out)));have HC104:=am hC23;clear hA23 hC23 hi023 hsz23;refine hK.out _ _ ⟨bc BK101 0,bc BK101 1,(bh HB hw102_0),(bh HB hw105_0)⟩ (fun hHeld=>?_);clear hK K;refine nz_ 34 ?_;refine pz_ 6 35 19 127 ?_;refine pz_ 7 36 19 255 ?_;refine pz_ 8 37 19 511 ?_;refine pz_ 10 39 19 1535 ?_;refine pz_ 12 41 19 5631 ?_;refine pz_ 14 43 19 22015 ?_;refine tz_ 9 38 19 22527 ?_;refine pz_ 11 40 19 24575 ?_;refine tz_ 13 42 19 32767 ?_;refine pz_ 15 44 19 65535 ?_;refine tz_ 16 45 19 131071 ?_;refine oz_ 17 46 19 262143 (fun K hK=>?_);refine goes_ Tryz.func73 (by kernel_rfl) rfl #[.slice (some ad102) (l0_0.take (x3_2:Int).toNat).length c0_0,.string (rdOf ByteArray.empty l0_0 x3_2)] (by rfl) rfl rfl (by (try simp only [List.map_toArray,List.map_cons,List.map_nil]);first|done|(rw [show (l0_0.take (x3_2:Int).toNat).length=x3_2.toNat from (by rw [List.length_take];have h_:(x3_2:Int)≤(l0_0.length:Int):=Qo;omega)] <;> rfl)|rfl|(simp only [List.length_drop,List.length_take];rfl)) ?_;with_reducible refine (sentryref4_File.calls k2 _ _ (l0_0.take (x3_2:Int).toNat) (rdOf ByteArray.empty l0_0 x3_2) false _ ?side1 ?side2 A16.out).mono ?_
         (case side1=>exact zc (Kd.C_below HR104.out (zb)))
         (case side2=>exact HC104.out)
         rintro e w' ⟨rfl,⟨nd,rfl⟩⟩;refine⟨_,rfl,?_⟩;refine hK.out _ _ ⟨bc BK101 0,bc BK101 1,(bh HB hw102_0),(bh HB hw105_0)⟩ (fun hHeld=>?_);clear hK K;refine nz_ 46 ?_;refine pz_ 18 47 19 524287 ?_;refine done_ (done_of HT_.out (by kernel_rfl)) ?_;try go_wp2
         go_roundg k2
         case measure=>have:=HJ1.out;have:=HK2.out;omega
         case rel=>exact ⟨(wrap64 (x3_2+1)),(ze),H',⟨by have:=HJ1.out;have:=HK2.out;omega⟩,⟨zl BK101.out⟩,⟨zb⟩⟩
        rw [if_neg c15] at H;exact absurd H (by simp)
       replace c13:=Qj c13;subst c13;have H1:(some false)=some r:=by rw [if_neg (show ¬ (false=true) by decide)] at H;exact H
       clear H;have H:=H1;clear H1;obtain rfl:=Qd H;obtain⟨hcz24_0,hcz24_1⟩:=cs2 BK101.out;try go_wp2
       replace BK101:=am (blk_drew BK101.out);replace HB:=am (below_drew1 HB.out);have p102:0≤(x3_2:Int):=Qo;have q102:x3_2<(l0_0.length:Int):=Qo;obtain⟨ad102,e102,hx102_0⟩:=Kd.at_string HR0_0.out x3_2 p102 q102;have hw102_0:=hx102_0;cases e102;replace hx102_0:=ba HB hx102_0;replace p102:=eq_true p102;replace q102:=eq_true q102;refine start_ (n:=19) (S:=fun w'=>w'.cell? ⟨gb101,0,none⟩=some (.slice (some ad102) l0_0.length c0_0)∧w'.cell? ⟨gb101,1,none⟩=some (.slice A0_1 l0_1.length c0_1)∧w'.cell? (ad102.add (x3_2).toNat)=some (.string (rdOf ByteArray.empty l0_0 x3_2))) (ds:=[]) #[false,false,false,false,false,false,false,false,false,false,false,false,false,false,false,false,false,false,false] (by kernel_rfl) rfl rfl ⟨bc BK101 0,bc BK101 1,(bh HB hw102_0)⟩ (fun hHeld=>?_);refine with_tabW sentryref4_Is.tab6 sentryref4_Is.bits6 (fun HT_ HW_=>?_);generalize wr.drew=w25 at BK101 HB hx102_0 hHeld ⊢;refine pz_ 0 29 19 1 ?_;refine pz_ 2 31 19 5 ?_;refine tz_ 1 30 19 7 ?_;refine pz_ 3 32 19 15 ?_;refine tz_ 4 33 19 31 ?_;refine oz_ 5 34 19 63 (fun K hK=>?_);refine goes_ Tryz.func72 (by kernel_rfl) rfl #[.string (rdOf ByteArray.empty l0_0 x3_2)] (by rfl) rfl rfl (za) ?_;with_reducible refine (sentryref1_Is.calls k2 (rdOf ByteArray.empty l0_0 x3_2) false _ A12.out).mono ?_
       rintro e w' ⟨rfl,⟨nd,rfl⟩⟩;refine⟨_,rfl,?_⟩;refine hK.out _ _ ⟨bc BK101 0,bc BK101 1,(bh HB hw102_0)⟩ (fun hHeld=>?_);clear hK K;refine nz_ 34 ?_;refine pz_ 6 35 19 127 ?_;refine pz_ 7 36 19 255 ?_;refine pu_ 8 37 19 511 ?_;refine pu_ 9 38 19 1023 ?_;refine pu_ 10 39 19 2047 ?_;refine pu_ 11 40 19 4095 ?_;refine pu_ 12 41 19 8191 ?_;refine pu_ 13 42 19 16383 ?_;refine pu_ 14 43 19 32767 ?_;refine pu_ 15 44 19 65535 ?_;refine pu_ 16 45 19 131071 ?_;refine pu_ 17 46 19 262143 ?_;refine pz_ 18 47 19 524287 ?_;refine done_ (done_of HT_.out (by kernel_rfl)) ?_;try go_wp2
       go_ret;exact⟨zf,zb⟩
      rw [if_neg c11] at H;exact absurd H (by simp)
     rw [if_neg c10] at H;have c10b0:=Qc c10;clear c10;have H':=am H;clear H;obtain⟨hcz26_0,hcz26_1⟩:=cs2 BK101.out;go_wp2;go_loopg [4] k2 (fun kq v4 w' => ∃ (x4_3:Int),v4 = .int .i64 x4_3∧Aside0 (sentryref4_Is.l1 kq x4_3 l0_0 l0_1=some r)∧Aside0 (kq≤k2)∧Aside0 (w'.heap[gb101]? = some (.cells #[(.slice A0_0 l0_0.length c0_0),(.slice A0_1 l0_1.length c0_1)] 25 (0,0)))∧Aside0 (Below w.heap.size w w'))
     case atStart=>exact ⟨(0),(ze),H',⟨Nat.le_refl _⟩,⟨zl BK101.out⟩,⟨zb⟩⟩
     case round =>
      clear H';obtain⟨x4_3,rfl,HA,HK3,BK101,HB⟩:=hrel
      cases gk with
      | zero => exact absurd HA.out (by simp [sentryref4_Is.l1])
      | succ k3 =>
       have H:=HA.out;clear HA;simp only [sentryref4_Is.l1] at H;by_cases c27:x4_3<(l0_1.length:Int)
       ·
        rw [if_pos c27] at H;have c27b0:=Qb c27;clear c27;replace H:=Qe H;obtain⟨t107,A280,H⟩:=H;have A28:=am A280;clear A280;by_cases c29:t107=true
        ·
         subst c29;have H1:(sentryref4_Is.l1 k3 (wrap64 (x4_3+1)) l0_0 l0_1)=some r:=by rw [if_pos rfl] at H;exact H
         clear H;have H:=H1;clear H1;have H':=am H;clear H;obtain⟨hcz30_0,hcz30_1⟩:=cs2 BK101.out;go_wp2_with (first|((with_reducible refine gc_ 74 ?_);refine goesL_ (some 57) rfl rfl Tryz.func74 (by kernel_rfl) rfl #[.agg #[.slice A0_0 l0_0.length c0_0,.slice A0_1 l0_1.length c0_1],.int .i64 x4_3] rfl (za) ?_;(with_reducible refine (sentryref4_item.calls k3 _ _ l0_0 _ _ l0_1 x4_3 true _ ?side1 ?side2 ?side3 ?side4 A28.out).mono ?_);(case side1=>exact zc (Kd.C_below HR0_0.out HB.out));(case side2=>exact HC0_0.out);(case side3=>exact zc (Kd.C_below HR0_1.out HB.out));(case side4=>exact HC0_1.out);rintro e w31 ⟨rfl,hb⟩;refine⟨_,rfl,?_⟩;replace BK101:=am (zw BK101.out hb);replace HB:=am (below_step (zb) hb);(try clear hb);(try clear hb2);(try clear hk);(try clear hi)))
         go_roundg k3
         case measure=>have:=HJ1.out;have:=HK2.out;have:=HK3.out;omega
         case rel=>exact ⟨(wrap64 (x4_3+1)),(ze),H',⟨by have:=HJ1.out;have:=HK2.out;have:=HK3.out;omega⟩,⟨zl BK101.out⟩,⟨zb⟩⟩
        replace c29:=Qj c29;subst c29;have H1:(some false)=some r:=by rw [if_neg (show ¬ (false=true) by decide)] at H;exact H
        clear H;have H:=H1;clear H1;obtain rfl:=Qd H;obtain⟨hcz32_0,hcz32_1⟩:=cs2 BK101.out;go_wp2_with (first|((with_reducible refine gc_ 74 ?_);refine goesL_ (some 57) rfl rfl Tryz.func74 (by kernel_rfl) rfl #[.agg #[.slice A0_0 l0_0.length c0_0,.slice A0_1 l0_1.length c0_1],.int .i64 x4_3] rfl (za) ?_;(with_reducible refine (sentryref4_item.calls k3 _ _ l0_0 _ _ l0_1 x4_3 false _ ?side1 ?side2 ?side3 ?side4 A28.out).mono ?_);(case side1=>exact zc (Kd.C_below HR0_0.out HB.out));(case side2=>exact HC0_0.out);(case side3=>exact zc (Kd.C_below HR0_1.out HB.out));(case side4=>exact HC0_1.out);rintro e w33 ⟨rfl,hb⟩;refine⟨_,rfl,?_⟩;replace BK101:=am (zw BK101.out hb);replace HB:=am (below_step (zb) hb);(try clear hb);(try clear hb2);(try clear hk);(try clear hi)))
        go_ret;exact⟨zf,zb⟩
       rw [if_neg c27] at H;have c27b0:=Qc c27;clear c27;have H':=am H;clear H;obtain⟨hcz34_0,hcz34_1⟩:=cs2 BK101.out;go_wp2;go_loopg [5] k3 (fun kq v5 w' => ∃ (x5_4:Int),v5 = .int .i64 x5_4∧Aside0 (sentryref4_Is.l2 kq x5_4 l0_0 l0_1=some r)∧Aside0 (kq≤k3)∧Aside0 (w'.heap[gb101]? = some (.cells #[(.slice A0_0 l0_0.length c0_0),(.slice A0_1 l0_1.length c0_1)] 25 (0,0)))∧Aside0 (Below w.heap.size w w'))
       case atStart=>exact ⟨(0),(ze),H',⟨Nat.le_refl _⟩,⟨zl BK101.out⟩,⟨zb⟩⟩
       case round =>
        clear H';obtain⟨x5_4,rfl,HA,HK4,BK101,HB⟩:=hrel
        cases gk with
        | zero => exact absurd HA.out (by simp [sentryref4_Is.l2])
        | succ k4 =>
         have H:=HA.out;clear HA;simp only [sentryref4_Is.l2] at H;by_cases c35:x5_4<(l0_1.length:Int)
         ·
          rw [if_pos c35] at H;have c35b0:=Qb c35;clear c35;by_cases c36:0≤x5_4
          ·
           rw [if_pos c36] at H;have c36b0:=Qb c36;clear c36;replace H:=Qe H;obtain⟨t109,A370,H⟩:=H;have A37:=am A370;clear A370;by_cases c38:t109=true
           ·
            subst c38;have H1:((sentryref4_sentries.f k4 l0_0 l0_1 ((rd_T47 l0_1 x5_4).f6)).bind fun t111=>(if t111=true then (sentryref4_Is.l2 k4 (wrap64 (x5_4+1)) l0_0 l0_1) else (some false)))=some r:=by rw [if_pos rfl] at H;exact H
            clear H;have H:=H1;clear H1;replace H:=Qe H;obtain⟨t111,A390,H⟩:=H;have A39:=am A390;clear A390;by_cases c40:t111=true
            ·
             subst c40;have H1:(sentryref4_Is.l2 k4 (wrap64 (x5_4+1)) l0_0 l0_1)=some r:=by rw [if_pos rfl] at H;exact H
             clear H;have H:=H1;clear H1;have H':=am H;clear H;obtain⟨hcz41_0,hcz41_1⟩:=cs2 BK101.out;try go_wp2
             replace BK101:=am (blk_drew BK101.out);replace HB:=am (below_drew1 HB.out);have p108:0≤(x5_4:Int):=Qo;have q108:x5_4<(l0_1.length:Int):=Qo;obtain⟨ad108,A108_5,c108_5,A108_6,c108_6,e108,hx108_0,hx108_1,hx108_2,hx108_3,hx108_4,hx108_5,hx108_6,hl108_5,hi108_5,hl108_6,hi108_6⟩:=at_T47 HR0_1.out x5_4 p108 q108;have hw108_6:=hx108_6;have hw108_5:=hx108_5;have hw108_4:=hx108_4;have hw108_3:=hx108_3;have hw108_2:=hx108_2;have hw108_1:=hx108_1;have hw108_0:=hx108_0;cases e108;replace hx108_0:=ba HB hx108_0;replace hx108_1:=ba HB hx108_1;replace hx108_2:=ba HB hx108_2;replace hx108_3:=ba HB hx108_3;replace hx108_4:=ba HB hx108_4;replace hx108_5:=ba HB hx108_5;replace hx108_6:=ba HB hx108_6;have HR108_5:=am hi108_5;have HC108_5:=am hl108_5;clear hi108_5 hl108_5;have HR108_6:=am hi108_6;have HC108_6:=am hl108_6;clear hi108_6 hl108_6;replace p108:=eq_true p108;replace q108:=eq_true q108;have p110:0≤(x5_4:Int):=Qo;have q110:x5_4<(l0_1.length:Int):=Qo;obtain⟨ad110,A110_5,c110_5,A110_6,c110_6,e110,hx110_0,hx110_1,hx110_2,hx110_3,hx110_4,hx110_5,hx110_6,hl110_5,hi110_5,hl110_6,hi110_6⟩:=at_T47 HR0_1.out x5_4 p110 q110;have hw110_6:=hx110_6;have hw110_5:=hx110_5;have hw110_4:=hx110_4;have hw110_3:=hx110_3;have hw110_2:=hx110_2;have hw110_1:=hx110_1;have hw110_0:=hx110_0;obtain rfl:ad108=ad110:=(by injection e110);replace hx110_0:=ba HB hx110_0;replace hx110_1:=ba HB hx110_1;replace hx110_2:=ba HB hx110_2;replace hx110_3:=ba HB hx110_3;replace hx110_4:=ba HB hx110_4;replace hx110_5:=ba HB hx110_5;replace hx110_6:=ba HB hx110_6;have HR110_5:=am hi110_5;have HC110_5:=am hl110_5;clear hi110_5 hl110_5;have HR110_6:=am hi110_6;have HC110_6:=am hl110_6;clear hi110_6 hl110_6;replace p110:=eq_true p110;replace q110:=eq_true q110;refine start_ (n:=20) (S:=fun w'=>w'.cell? ⟨gb101,0,none⟩=some (.slice A0_0 l0_0.length c0_0)∧w'.cell? ⟨gb101,1,none⟩=some (.slice (some ad108) l0_1.length c0_1)∧w'.cell? (ad108.add ((x5_4).toNat * 7))=some (.string ((rd_T47 l0_1 x5_4).f0))∧w'.cell? ⟨(ad108.add ((x5_4).toNat * 7)).block,(ad108.add ((x5_4).toNat * 7)).off+1,none⟩=some (.int .i64 ((rd_T47 l0_1 x5_4).f1))∧w'.cell? ⟨(ad108.add ((x5_4).toNat * 7)).block,(ad108.add ((x5_4).toNat * 7)).off+2,none⟩=some (.string ((rd_T47 l0_1 x5_4).f2))∧w'.cell? ⟨(ad108.add ((x5_4).toNat * 7)).block,(ad108.add ((x5_4).toNat * 7)).off+3,none⟩=some (.bool ((rd_T47 l0_1 x5_4).f3))∧w'.cell? ⟨(ad108.add ((x5_4).toNat * 7)).block,(ad108.add ((x5_4).toNat * 7)).off+4,none⟩=some (.int .i64 ((rd_T47 l0_1 x5_4).f4))∧w'.cell? ⟨(ad108.add ((x5_4).toNat * 7)).block,(ad108.add ((x5_4).toNat * 7)).off+5,none⟩=some (.slice A108_5 ((rd_T47 l0_1 x5_4).f5).length c108_5)∧w'.cell? ⟨(ad108.add ((x5_4).toNat * 7)).block,(ad108.add ((x5_4).toNat * 7)).off+6,none⟩=some (.slice A108_6 ((rd_T47 l0_1 x5_4).f6).length c108_6)∧w'.cell? (ad108.add ((x5_4).toNat * 7))=some (.string ((rd_T47 l0_1 x5_4).f0))∧w'.cell? ⟨(ad108.add ((x5_4).toNat * 7)).block,(ad108.add ((x5_4).toNat * 7)).off+1,none⟩=some (.int .i64 ((rd_T47 l0_1 x5_4).f1))∧w'.cell? ⟨(ad108.add ((x5_4).toNat * 7)).block,(ad108.add ((x5_4).toNat * 7)).off+2,none⟩=some (.string ((rd_T47 l0_1 x5_4).f2))∧w'.cell? ⟨(ad108.add ((x5_4).toNat * 7)).block,(ad108.add ((x5_4).toNat * 7)).off+3,none⟩=some (.bool ((rd_T47 l0_1 x5_4).f3))∧w'.cell? ⟨(ad108.add ((x5_4).toNat * 7)).block,(ad108.add ((x5_4).toNat * 7)).off+4,none⟩=some (.int .i64 ((rd_T47 l0_1 x5_4).f4))∧w'.cell? ⟨(ad108.add ((x5_4).toNat * 7)).block,(ad108.add ((x5_4).toNat * 7)).off+5,none⟩=some (.slice A110_5 ((rd_T47 l0_1 x5_4).f5).length c110_5)∧w'.cell? ⟨(ad108.add ((x5_4).toNat * 7)).block,(ad108.add ((x5_4).toNat * 7)).off+6,none⟩=some (.slice A110_6 ((rd_T47 l0_1 x5_4).f6).length c110_6)) (ds:=[]) #[false,false,false,false,false,false,false,false,false,false,false,false,false,false,false,false,false,false,false,false] (by kernel_rfl) rfl rfl ⟨bc BK101 0,bc BK101 1,(bh HB hw108_0),(bh HB hw108_1),(bh HB hw108_2),(bh HB hw108_3),(bh HB hw108_4),(bh HB hw108_5),(bh HB hw108_6),(bh HB hw110_0),(bh HB hw110_1),(bh HB hw110_2),(bh HB hw110_3),(bh HB hw110_4),(bh HB hw110_5),(bh HB hw110_6)⟩ (fun hHeld=>?_);refine with_tabW sentryref4_Is.tab16 sentryref4_Is.bits16 (fun HT_ HW_=>?_);generalize wr.drew=w42 at BK101 HB HR108_5 HR108_6 HR110_5 HR110_6 hx108_0 hx108_1 hx108_2 hx108_3 hx108_4 hx108_5 hx108_6 hx110_0 hx110_1 hx110_2 hx110_3 hx110_4 hx110_5 hx110_6 hHeld ⊢;refine pz_ 1 67 20 2 ?_;refine pz_ 3 69 20 10 ?_;refine tz_ 0 66 20 11 ?_;refine tz_ 2 68 20 15 ?_;refine pz_ 4 70 20 31 ?_;refine pz_ 5 71 20 63 ?_;refine tz_ 6 72 20 127 ?_;refine oz_ 7 73 20 255 (fun K hK=>?_);refine goes_ Tryz.func75 (by kernel_rfl) rfl #[.agg #[.slice A0_0 l0_0.length c0_0,.slice (some ad108) l0_1.length c0_1],.slice A108_5 ((rd_T47 l0_1 x5_4).f5).length c108_5] (by rfl) rfl rfl (za) ?_;with_reducible refine (sentryref4_sentries.calls k4 _ _ l0_0 _ _ l0_1 _ _ ((rd_T47 l0_1 x5_4).f5) true _ ?side1 ?side2 ?side3 ?side4 ?side5 ?side6 A37.out).mono ?_
             (case side1=>exact zc (Kd.C_below HR0_0.out HB.out))
             (case side2=>exact HC0_0.out)
             (case side3=>exact zc (Kd.C_below HR0_1.out HB.out))
             (case side4=>exact HC0_1.out)
             (case side5=>exact zc (Kd.C_below HR108_5.out HB.out))
             (case side6=>exact HC108_5.out)
             rintro e w43 ⟨rfl,hb⟩;refine⟨_,rfl,?_⟩;replace BK101:=am (zw BK101.out hb);replace HB:=am (below_step (zb) hb)
             (try clear hb)
             (try clear hb2)
             (try clear hk)
             (try clear hi)
             refine hK.out _ _ ⟨bc BK101 0,bc BK101 1,(bh HB hw108_0),(bh HB hw108_1),(bh HB hw108_2),(bh HB hw108_3),(bh HB hw108_4),(bh HB hw108_5),(bh HB hw108_6),(bh HB hw110_0),(bh HB hw110_1),(bh HB hw110_2),(bh HB hw110_3),(bh HB hw110_4),(bh HB hw110_5),(bh HB hw110_6)⟩ (fun hHeld=>?_);clear hK K;refine nz_ 73 ?_;refine pz_ 8 74 20 511 ?_;refine pz_ 9 75 20 1023 ?_;refine pz_ 11 77 20 3071 ?_;refine pz_ 13 79 20 11263 ?_;refine tz_ 10 76 20 12287 ?_;refine tz_ 12 78 20 16383 ?_;refine pz_ 14 80 20 32767 ?_;refine pz_ 15 81 20 65535 ?_;refine tz_ 16 82 20 131071 ?_;refine oz_ 17 83 20 262143 (fun K hK=>?_);refine goes_ Tryz.func75 (by kernel_rfl) rfl #[.agg #[.slice A0_0 l0_0.length c0_0,.slice (some ad108) l0_1.length c0_1],.slice A108_6 ((rd_T47 l0_1 x5_4).f6).length c108_6] (by rfl) rfl rfl (za) ?_;with_reducible refine (sentryref4_sentries.calls k4 _ _ l0_0 _ _ l0_1 _ _ ((rd_T47 l0_1 x5_4).f6) true _ ?side1 ?side2 ?side3 ?side4 ?side5 ?side6 A39.out).mono ?_
             (case side1=>exact zc (Kd.C_below HR0_0.out HB.out))
             (case side2=>exact HC0_0.out)
             (case side3=>exact zc (Kd.C_below HR0_1.out HB.out))
             (case side4=>exact HC0_1.out)
             (case side5=>exact zc (Kd.C_below HR108_6.out HB.out))
             (case side6=>exact HC108_6.out)
             rintro e w44 ⟨rfl,hb⟩;refine⟨_,rfl,?_⟩;replace BK101:=am (zw BK101.out hb);replace HB:=am (below_step (zb) hb)
             (try clear hb)
             (try clear hb2)
             (try clear hk)
             (try clear hi)
             refine hK.out _ _ ⟨bc BK101 0,bc BK101 1,(bh HB hw108_0),(bh HB hw108_1),(bh HB hw108_2),(bh HB hw108_3),(bh HB hw108_4),(bh HB hw108_5),(bh HB hw108_6),(bh HB hw110_0),(bh HB hw110_1),(bh HB hw110_2),(bh HB hw110_3),(bh HB hw110_4),(bh HB hw110_5),(bh HB hw110_6)⟩ (fun hHeld=>?_);clear hK K;refine nz_ 83 ?_;refine pz_ 18 84 20 524287 ?_;refine pz_ 19 85 20 1048575 ?_;refine done_ (done_of HT_.out (by kernel_rfl)) ?_;try go_wp2
             go_roundg k4
             case measure=>have:=HJ1.out;have:=HK2.out;have:=HK3.out;have:=HK4.out;omega
             case rel=>exact ⟨(wrap64 (x5_4+1)),(ze),H',⟨by have:=HJ1.out;have:=HK2.out;have:=HK3.out;have:=HK4.out;omega⟩,⟨zl BK101.out⟩,⟨zb⟩⟩
            replace c40:=Qj c40;subst c40;have H1:(some false)=some r:=by rw [if_neg (show ¬ (false=true) by decide)] at H;exact H
            clear H;have H:=H1;clear H1;obtain rfl:=Qd H;obtain⟨hcz45_0,hcz45_1⟩:=cs2 BK101.out;try go_wp2
            replace BK101:=am (blk_drew BK101.out);replace HB:=am (below_drew1 HB.out);have p108:0≤(x5_4:Int):=Qo;have q108:x5_4<(l0_1.length:Int):=Qo;obtain⟨ad108,A108_5,c108_5,A108_6,c108_6,e108,hx108_0,hx108_1,hx108_2,hx108_3,hx108_4,hx108_5,hx108_6,hl108_5,hi108_5,hl108_6,hi108_6⟩:=at_T47 HR0_1.out x5_4 p108 q108;have hw108_6:=hx108_6;have hw108_5:=hx108_5;have hw108_4:=hx108_4;have hw108_3:=hx108_3;have hw108_2:=hx108_2;have hw108_1:=hx108_1;have hw108_0:=hx108_0;cases e108;replace hx108_0:=ba HB hx108_0;replace hx108_1:=ba HB hx108_1;replace hx108_2:=ba HB hx108_2;replace hx108_3:=ba HB hx108_3;replace hx108_4:=ba HB hx108_4;replace hx108_5:=ba HB hx108_5;replace hx108_6:=ba HB hx108_6;have HR108_5:=am hi108_5;have HC108_5:=am hl108_5;clear hi108_5 hl108_5;have HR108_6:=am hi108_6;have HC108_6:=am hl108_6;clear hi108_6 hl108_6;replace p108:=eq_true p108;replace q108:=eq_true q108;have p110:0≤(x5_4:Int):=Qo;have q110:x5_4<(l0_1.length:Int):=Qo;obtain⟨ad110,A110_5,c110_5,A110_6,c110_6,e110,hx110_0,hx110_1,hx110_2,hx110_3,hx110_4,hx110_5,hx110_6,hl110_5,hi110_5,hl110_6,hi110_6⟩:=at_T47 HR0_1.out x5_4 p110 q110;have hw110_6:=hx110_6;have hw110_5:=hx110_5;have hw110_4:=hx110_4;have hw110_3:=hx110_3;have hw110_2:=hx110_2;have hw110_1:=hx110_1;have hw110_0:=hx110_0;obtain rfl:ad108=ad110:=(by injection e110);replace hx110_0:=ba HB hx110_0;replace hx110_1:=ba HB hx110_1;replace hx110_2:=ba HB hx110_2;replace hx110_3:=ba HB hx110_3;replace hx110_4:=ba HB hx110_4;replace hx110_5:=ba HB hx110_5;replace hx110_6:=ba HB hx110_6;have HR110_5:=am hi110_5;have HC110_5:=am hl110_5;clear hi110_5 hl110_5;have HR110_6:=am hi110_6;have HC110_6:=am hl110_6;clear hi110_6 hl110_6;replace p110:=eq_true p110;replace q110:=eq_true q110;refine start_ (n:=20) (S:=fun w'=>w'.cell? ⟨gb101,0,none⟩=some (.slice A0_0 l0_0.length c0_0)∧w'.cell? ⟨gb101,1,none⟩=some (.slice (some ad108) l0_1.length c0_1)∧w'.cell? (ad108.add ((x5_4).toNat * 7))=some (.string ((rd_T47 l0_1 x5_4).f0))∧w'.cell? ⟨(ad108.add ((x5_4).toNat * 7)).block,(ad108.add ((x5_4).toNat * 7)).off+1,none⟩=some (.int .i64 ((rd_T47 l0_1 x5_4).f1))∧w'.cell? ⟨(ad108.add ((x5_4).toNat * 7)).block,(ad108.add ((x5_4).toNat * 7)).off+2,none⟩=some (.string ((rd_T47 l0_1 x5_4).f2))∧w'.cell? ⟨(ad108.add ((x5_4).toNat * 7)).block,(ad108.add ((x5_4).toNat * 7)).off+3,none⟩=some (.bool ((rd_T47 l0_1 x5_4).f3))∧w'.cell? ⟨(ad108.add ((x5_4).toNat * 7)).block,(ad108.add ((x5_4).toNat * 7)).off+4,none⟩=some (.int .i64 ((rd_T47 l0_1 x5_4).f4))∧w'.cell? ⟨(ad108.add ((x5_4).toNat * 7)).block,(ad108.add ((x5_4).toNat * 7)).off+5,none⟩=some (.slice A108_5 ((rd_T47 l0_1 x5_4).f5).length c108_5)∧w'.cell? ⟨(ad108.add ((x5_4).toNat * 7)).block,(ad108.add ((x5_4).toNat * 7)).off+6,none⟩=some (.slice A108_6 ((rd_T47 l0_1 x5_4).f6).length c108_6)∧w'.cell? (ad108.add ((x5_4).toNat * 7))=some (.string ((rd_T47 l0_1 x5_4).f0))∧w'.cell? ⟨(ad108.add ((x5_4).toNat * 7)).block,(ad108.add ((x5_4).toNat * 7)).off+1,none⟩=some (.int .i64 ((rd_T47 l0_1 x5_4).f1))∧w'.cell? ⟨(ad108.add ((x5_4).toNat * 7)).block,(ad108.add ((x5_4).toNat * 7)).off+2,none⟩=some (.string ((rd_T47 l0_1 x5_4).f2))∧w'.cell? ⟨(ad108.add ((x5_4).toNat * 7)).block,(ad108.add ((x5_4).toNat * 7)).off+3,none⟩=some (.bool ((rd_T47 l0_1 x5_4).f3))∧w'.cell? ⟨(ad108.add ((x5_4).toNat * 7)).block,(ad108.add ((x5_4).toNat * 7)).off+4,none⟩=some (.int .i64 ((rd_T47 l0_1 x5_4).f4))∧w'.cell? ⟨(ad108.add ((x5_4).toNat * 7)).block,(ad108.add ((x5_4).toNat * 7)).off+5,none⟩=some (.slice A110_5 ((rd_T47 l0_1 x5_4).f5).length c110_5)∧w'.cell? ⟨(ad108.add ((x5_4).toNat * 7)).block,(ad108.add ((x5_4).toNat * 7)).off+6,none⟩=some (.slice A110_6 ((rd_T47 l0_1 x5_4).f6).length c110_6)) (ds:=[]) #[false,false,false,false,false,false,false,false,false,false,false,false,false,false,false,false,false,false,false,false] (by kernel_rfl) rfl rfl ⟨bc BK101 0,bc BK101 1,(bh HB hw108_0),(bh HB hw108_1),(bh HB hw108_2),(bh HB hw108_3),(bh HB hw108_4),(bh HB hw108_5),(bh HB hw108_6),(bh HB hw110_0),(bh HB hw110_1),(bh HB hw110_2),(bh HB hw110_3),(bh HB hw110_4),(bh HB hw110_5),(bh HB hw110_6)⟩ (fun hHeld=>?_);refine with_tabW sentryref4_Is.tab16 sentryref4_Is.bits16 (fun HT_ HW_=>?_);generalize wr.drew=w46 at BK101 HB HR108_5 HR108_6 HR110_5 HR110_6 hx108_0 hx108_1 hx108_2 hx108_3 hx108_4 hx108_5 hx108_6 hx110_0 hx110_1 hx110_2 hx110_3 hx110_4 hx110_5 hx110_6 hHeld ⊢;refine pz_ 1 67 20 2 ?_;refine pz_ 3 69 20 10 ?_;refine tz_ 0 66 20 11 ?_;refine tz_ 2 68 20 15 ?_;refine pz_ 4 70 20 31 ?_;refine pz_ 5 71 20 63 ?_;refine tz_ 6 72 20 127 ?_;refine oz_ 7 73 20 255 (fun K hK=>?_);refine goes_ Tryz.func75 (by kernel_rfl) rfl #[.agg #[.slice A0_0 l0_0.length c0_0,.slice (some ad108) l0_1.length c0_1],.slice A108_5 ((rd_T47 l0_1 x5_4).f5).length c108_5] (by rfl) rfl rfl (za) ?_;with_reducible refine (sentryref4_sentries.calls k4 _ _ l0_0 _ _ l0_1 _ _ ((rd_T47 l0_1 x5_4).f5) true _ ?side1 ?side2 ?side3 ?side4 ?side5 ?side6 A37.out).mono ?_
            (case side1=>exact zc (Kd.C_below HR0_0.out HB.out))
            (case side2=>exact HC0_0.out)
            (case side3=>exact zc (Kd.C_below HR0_1.out HB.out))
            (case side4=>exact HC0_1.out)
            (case side5=>exact zc (Kd.C_below HR108_5.out HB.out))
            (case side6=>exact HC108_5.out)
            rintro e w47 ⟨rfl,hb⟩;refine⟨_,rfl,?_⟩;replace BK101:=am (zw BK101.out hb);replace HB:=am (below_step (zb) hb)
            (try clear hb)
            (try clear hb2)
            (try clear hk)
            (try clear hi)
            refine hK.out _ _ ⟨bc BK101 0,bc BK101 1,(bh HB hw108_0),(bh HB hw108_1),(bh HB hw108_2),(bh HB hw108_3),(bh HB hw108_4),(bh HB hw108_5),(bh HB hw108_6),(bh HB hw110_0),(bh HB hw110_1),(bh HB hw110_2),(bh HB hw110_3),(bh HB hw110_4),(bh HB hw110_5),(bh HB hw110_6)⟩ (fun hHeld=>?_);clear hK K;refine nz_ 73 ?_;refine pz_ 8 74 20 511 ?_;refine pz_ 9 75 20 1023 ?_;refine pz_ 11 77 20 3071 ?_;refine pz_ 13 79 20 11263 ?_;refine tz_ 10 76 20 12287 ?_;refine tz_ 12 78 20 16383 ?_;refine pz_ 14 80 20 32767 ?_;refine pz_ 15 81 20 65535 ?_;refine tz_ 16 82 20 131071 ?_;refine oz_ 17 83 20 262143 (fun K hK=>?_);refine goes_ Tryz.func75 (by kernel_rfl) rfl #[.agg #[.slice A0_0 l0_0.length c0_0,.slice (some ad108) l0_1.length c0_1],.slice A108_6 ((rd_T47 l0_1 x5_4).f6).length c108_6] (by rfl) rfl rfl (za) ?_;with_reducible refine (sentryref4_sentries.calls k4 _ _ l0_0 _ _ l0_1 _ _ ((rd_T47 l0_1 x5_4).f6) false _ ?side1 ?side2 ?side3 ?side4 ?side5 ?side6 A39.out).mono ?_
            (case side1=>exact zc (Kd.C_below HR0_0.out HB.out))
            (case side2=>exact HC0_0.out)
            (case side3=>exact zc (Kd.C_below HR0_1.out HB.out))
            (case side4=>exact HC0_1.out)
            (case side5=>exact zc (Kd.C_below HR108_6.out HB.out))
            (case side6=>exact HC108_6.out)
            rintro e w48 ⟨rfl,hb⟩;refine⟨_,rfl,?_⟩;replace BK101:=am (zw BK101.out hb);replace HB:=am (below_step (zb) hb)
            (try clear hb)
            (try clear hb2)
            (try clear hk)
            (try clear hi)
            refine hK.out _ _ ⟨bc BK101 0,bc BK101 1,(bh HB hw108_0),(bh HB hw108_1),(bh HB hw108_2),(bh HB hw108_3),(bh HB hw108_4),(bh HB hw108_5),(bh HB hw108_6),(bh HB hw110_0),(bh HB hw110_1),(bh HB hw110_2),(bh HB hw110_3),(bh HB hw110_4),(bh HB hw110_5),(bh HB hw110_6)⟩ (fun hHeld=>?_);clear hK K;refine nz_ 83 ?_;refine pz_ 18 84 20 524287 ?_;refine pz_ 19 85 20 1048575 ?_;refine done_ (done_of HT_.out (by kernel_rfl)) ?_;try go_wp2
            go_ret;exact⟨zf,zb⟩
           replace c38:=Qj c38;subst c38;have H1:(some false)=some r:=by rw [if_neg (show ¬ (false=true) by decide)] at H;exact H
           clear H;have H:=H1;clear H1;obtain rfl:=Qd H;obtain⟨hcz49_0,hcz49_1⟩:=cs2 BK101.out;try go_wp2
           replace BK101:=am (blk_drew BK101.out);replace HB:=am (below_drew1 HB.out);have p108:0≤(x5_4:Int):=Qo;have q108:x5_4<(l0_1.length:Int):=Qo;obtain⟨ad108,A108_5,c108_5,A108_6,c108_6,e108,hx108_0,hx108_1,hx108_2,hx108_3,hx108_4,hx108_5,hx108_6,hl108_5,hi108_5,hl108_6,hi108_6⟩:=at_T47 HR0_1.out x5_4 p108 q108;have hw108_6:=hx108_6;have hw108_5:=hx108_5;have hw108_4:=hx108_4;have hw108_3:=hx108_3;have hw108_2:=hx108_2;have hw108_1:=hx108_1;have hw108_0:=hx108_0;cases e108;replace hx108_0:=ba HB hx108_0;replace hx108_1:=ba HB hx108_1;replace hx108_2:=ba HB hx108_2;replace hx108_3:=ba HB hx108_3;replace hx108_4:=ba HB hx108_4;replace hx108_5:=ba HB hx108_5;replace hx108_6:=ba HB hx108_6;have HR108_5:=am hi108_5;have HC108_5:=am hl108_5;clear hi108_5 hl108_5;have HR108_6:=am hi108_6;have HC108_6:=am hl108_6;clear hi108_6 hl108_6;replace p108:=eq_true p108;replace q108:=eq_true q108;refine start_ (n:=20) (S:=fun w'=>w'.cell? ⟨gb101,0,none⟩=some (.slice A0_0 l0_0.length c0_0)∧w'.cell? ⟨gb101,1,none⟩=some (.slice (some ad108) l0_1.length c0_1)∧w'.cell? (ad108.add ((x5_4).toNat * 7))=some (.string ((rd_T47 l0_1 x5_4).f0))∧w'.cell? ⟨(ad108.add ((x5_4).toNat * 7)).block,(ad108.add ((x5_4).toNat * 7)).off+1,none⟩=some (.int .i64 ((rd_T47 l0_1 x5_4).f1))∧w'.cell? ⟨(ad108.add ((x5_4).toNat * 7)).block,(ad108.add ((x5_4).toNat * 7)).off+2,none⟩=some (.string ((rd_T47 l0_1 x5_4).f2))∧w'.cell? ⟨(ad108.add ((x5_4).toNat * 7)).block,(ad108.add ((x5_4).toNat * 7)).off+3,none⟩=some (.bool ((rd_T47 l0_1 x5_4).f3))∧w'.cell? ⟨(ad108.add ((x5_4).toNat * 7)).block,(ad108.add ((x5_4).toNat * 7)).off+4,none⟩=some (.int .i64 ((rd_T47 l0_1 x5_4).f4))∧w'.cell? ⟨(ad108.add ((x5_4).toNat * 7)).block,(ad108.add ((x5_4).toNat * 7)).off+5,none⟩=some (.slice A108_5 ((rd_T47 l0_1 x5_4).f5).length c108_5)∧w'.cell? ⟨(ad108.add ((x5_4).toNat * 7)).block,(ad108.add ((x5_4).toNat * 7)).off+6,none⟩=some (.slice A108_6 ((rd_T47 l0_1 x5_4).f6).length c108_6)) (ds:=[]) #[false,false,false,false,false,false,false,false,false,false,false,false,false,false,false,false,false,false,false,false] (by kernel_rfl) rfl rfl ⟨bc BK101 0,bc BK101 1,(bh HB hw108_0),(bh HB hw108_1),(bh HB hw108_2),(bh HB hw108_3),(bh HB hw108_4),(bh HB hw108_5),(bh HB hw108_6)⟩ (fun hHeld=>?_);refine with_tabW sentryref4_Is.tab16 sentryref4_Is.bits16 (fun HT_ HW_=>?_);generalize wr.drew=w50 at BK101 HB HR108_5 HR108_6 hx108_0 hx108_1 hx108_2 hx108_3 hx108_4 hx108_5 hx108_6 hHeld ⊢;refine pz_ 1 67 20 2 ?_;refine pz_ 3 69 20 10 ?_;refine tz_ 0 66 20 11 ?_;refine tz_ 2 68 20 15 ?_;refine pz_ 4 70 20 31 ?_;refine pz_ 5 71 20 63 ?_;refine tz_ 6 72 20 127 ?_;refine oz_ 7 73 20 255 (fun K hK=>?_);refine goes_ Tryz.func75 (by kernel_rfl) rfl #[.agg #[.slice A0_0 l0_0.length c0_0,.slice (some ad108) l0_1.length c0_1],.slice A108_5 ((rd_T47 l0_1 x5_4).f5).length c108_5] (by rfl) rfl rfl (za) ?_;with_reducible refine (sentryref4_sentries.calls k4 _ _ l0_0 _ _ l0_1 _ _ ((rd_T47 l0_1 x5_4).f5) false _ ?side1 ?side2 ?side3 ?side4 ?side5 ?side6 A37.out).mono ?_
           (case side1=>exact zc (Kd.C_below HR0_0.out HB.out))
           (case side2=>exact HC0_0.out)
           (case side3=>exact zc (Kd.C_below HR0_1.out HB.out))
           (case side4=>exact HC0_1.out)
           (case side5=>exact zc (Kd.C_below HR108_5.out HB.out))
           (case side6=>exact HC108_5.out)
           rintro e w51 ⟨rfl,hb⟩;refine⟨_,rfl,?_⟩;replace BK101:=am (zw BK101.out hb);replace HB:=am (below_step (zb) hb)
           (try clear hb)
           (try clear hb2)
           (try clear hk)
           (try clear hi)
           refine hK.out _ _ ⟨bc BK101 0,bc BK101 1,(bh HB hw108_0),(bh HB hw108_1),(bh HB hw108_2),(bh HB hw108_3),(bh HB hw108_4),(bh HB hw108_5),(bh HB hw108_6)⟩ (fun hHeld=>?_);clear hK K;refine nz_ 73 ?_;refine pz_ 8 74 20 511 ?_;refine pz_ 9 75 20 1023 ?_;refine pu_ 10 76 20 2047 ?_;refine pu_ 11 77 20 4095 ?_;refine pu_ 12 78 20 8191 ?_;refine pu_ 13 79 20 16383 ?_;refine pu_ 14 80 20 32767 ?_;refine pu_ 15 81 20 65535 ?_;refine pu_ 16 82 20 131071 ?_;refine pu_ 17 83 20 262143 ?_;refine pu_ 18 84 20 524287 ?_;refine pz_ 19 85 20 1048575 ?_;refine done_ (done_of HT_.out (by kernel_rfl)) ?_;try go_wp2
           go_ret;exact⟨zf,zb⟩
          rw [if_neg c36] at H;exact absurd H (by simp)
         rw [if_neg c35] at H;have c35b0:=Qc c35;clear c35;obtain rfl:=Qd H;obtain⟨hcz52_0,hcz52_1⟩:=cs2 BK101.out;go_wp2;go_ret;exact⟨zf,zb⟩
end Go.Proofs.YtpbembafpnknhaaGreat.Pr
