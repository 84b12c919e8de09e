/- Proof texts of one seat, in one file: the walks of functions and the lemmas under them, printed by programs and typed by hand. Put together by wip/bundle.py. -/
import Derived.Test.YtpbembafpnknhaaGreatRows
import Derived.ArgAppend
import Derived.Below
import Derived.BigQuiet
import Derived.ChangeArms
import Derived.ChangeOld
import Derived.ChangeSlices
import Derived.Deep.AppendLies
import Derived.Deep.CutBlock
import Derived.Deep.DeepCutAuto
import Derived.Deep.Draws
import Derived.Deep.LoopGhost
import Derived.Deep.OwnRows
import Derived.Deep.QuietTactic
import Derived.Deep.RegionHeld3
import Derived.Deep.RegionLawGrows
import Derived.Deep.Upon
import Derived.Ground.Names2Prog
import Derived.Ground.SlgfProg
import Derived.Ground.SlgnProg
import Derived.Ground.SlsfProg
import Derived.JoinedOf
import Derived.KernelRfl
import Derived.Laws.BitsLemmas
import Derived.Laws.BytesArg
import Derived.Laws.IdiomCopy
import Derived.Laws.MakeOwn
import Derived.Laws.OwnMore
import Derived.Laws.Rows
import Derived.Laws.Slices
import Derived.Laws.StructEq
import Derived.Lib.AppendStr
import Derived.Lib.ConvBytes
import Derived.Lib.Hide
import Derived.Maps.AppendAt
import Derived.OpenShut
import Derived.OrdersHeld
import Derived.OwnWalk
import Derived.ProofKit
import Derived.RowKit
import Derived.RowKit3
import Derived.Shelf.GgSortFunc.InsertionK
import Derived.Shelf.SlGeneric
import Derived.Shelf.SlSortCmp.NoneTotal
import Derived.Shelf.Slices.In.SortNone
import Derived.Shelf.SlicesE.Clone
import Derived.Shelf.SlicesQ.IndexFunc
import Derived.Shelf.Sort.Plain
import Derived.ShutString
import Derived.SizedLaws
import Derived.Sort.Grow
import Derived.Sort.Walk0
import Derived.StillTailTactics
import Derived.Tactics
import Derived.WalkKit
import Derived.WalkSpells
import Derived.WideLaws
import Derived.Test.YtpbembafpnknhaaGreatBNormOrders0
import Derived.Test.YtpbembafpnknhaaGreatBNormOrders1
import Derived.Test.YtpbembafpnknhaaGreatBNormOrders2
import Derived.Test.YtpbembafpnknhaaGreatBNormOrders3
import Derived.Test.YtpbembafpnknhaaGreatBNormOrders4
import Derived.Test.YtpbembafpnknhaaGreatBNormOrders5
import Derived.Test.YtpbembafpnknhaaGreatBNormOrders6
namespace Go.Proofs.YtpbembafpnknhaaGreat.Pr
open Go.RowKit Go.Proofs.YtpbembafpnknhaaGreatW.PrintWords Go.Proofs.YtpbembafpnknhaaGreatW.PrintLast Go.Proofs.YtpbembafpnknhaaGreatW.PrintMore
attribute [local go_sem] max2_int min2_int max_two min_two max_three min_three max_four min_four   -- for this text's walks alone
set_option linter.unusedVariables false
set_option linter.unusedSimpArgs false
attribute [local go_sem high] eqA93
def api_Cond_231.l0 : Nat → List (S93) → List (S93) → Int → Int → Option (Bool)
  | 0, _, _, _, _ => none
  | k + 1, x0, x1, x12, x13 => if x13 < x12 then (if 0 ≤ x13 then (if x13 < (x0.length : Int) then (if x13 < (x1.length : Int) then (if (!((((rd_T93 x0 x13).f0).toList) == (((rd_T93 x1 x13).f0).toList)) || (!((((rd_T93 x0 x13).f1).toList) == (((rd_T93 x1 x13).f1).toList)) || (!(((rd_T93 x0 x13).f2) == ((rd_T93 x1 x13).f2))))) = true then (some false) else (api_Cond_231.l0 k x0 x1 x12 (wrap64 (x13 + 1)))) else (none)) else (none)) else (none)) else (some true)
def api_Cond_231.f (k : Nat) (l0 : List (S93)) (l1 : List (S93)) : Option (Bool) := if (l0.length : Int) = (l1.length : Int) then (api_Cond_231.l0 k l0 l1 (l0.length : Int) 0) else (some false)
theorem api_Cond_231.mono_l : ∀ k, (∀ y0 y1 y2 y3, LeO (api_Cond_231.l0 k y0 y1 y2 y3) (api_Cond_231.l0 (k + 1) y0 y1 y2 y3))
  | 0 => fun _ _ _ _ r h => by simp [api_Cond_231.l0] at h
  | k + 1 => by
    have ih0 := api_Cond_231.mono_l k
    · intro y0 y1 y2 y3
      unfold api_Cond_231.l0
      repeat' first
      | (with_reducible exact ih0 _ _ _ _)
      | (with_reducible exact LeO.refl _)
      | (with_reducible exact LeO.none _)
      | (with_reducible refine LeO.ite ?_ ?_)
      | (with_reducible refine LeO.bind ?_ (fun _ => ?_))
      | exact ih0 _ _ _ _
      | exact LeO.none _
      | refine LeO.ite ?_ ?_
      | refine LeO.bind ?_ (fun _ => ?_)
theorem api_Cond_231.mono : ∀ a0 a1 k, LeO (api_Cond_231.f k a0 a1) (api_Cond_231.f (k + 1) a0 a1) := by
  intro a0 a1 k
  have ih0 := api_Cond_231.mono_l k
  unfold api_Cond_231.f
  repeat' first
      | (with_reducible exact ih0 _ _ _ _)
      | (with_reducible exact LeO.refl _)
      | (with_reducible exact LeO.none _)
      | (with_reducible refine LeO.ite ?_ ?_)
      | (with_reducible refine LeO.bind ?_ (fun _ => ?_))
      | exact ih0 _ _ _ _
      | exact LeO.none _
      | refine LeO.ite ?_ ?_
      | refine LeO.bind ?_ (fun _ => ?_)
set_option maxHeartbeats 8000000 in
set_option maxRecDepth 100000 in
theorem api_Cond_231.calls (k : Nat) (A0 : Option Addr) (c0 : Nat) (l0 : List (S93)) (A1 : Option Addr) (c1 : Nat) (l1 : List (S93)) (r : Bool) (w : World) (hr0 : Kd.C k93 w A0 l0.length l0) (hc0 : l0.length ≤ c0) (hr1 : Kd.C k93 w A1 l1.length l1) (hc1 : l1.length ≤ c1) (h : api_Cond_231.f k l0 l1 = some r) :
    Calls Tryz.prog 231 #[.slice A0 l0.length c0, .slice A1 l1.length c1] w fun e w' => e = .returned (.bool r) ∧ Drawn0 w w' := by
  have hu93 := Tryz.underlying93
  have HR0 := am hr0
  have HC0 := am hc0
  clear hr0 hc0
  have HR1 := am hr1
  have HC1 := am hc1
  clear hr1 hc1
  have H : (if (l0.length : Int) = (l1.length : Int) then (api_Cond_231.l0 k l0 l1 (l0.length : Int) 0) else (some false)) = some r := h
  clear h
  by_cases c3 : (l0.length : Int) = (l1.length : Int)
  · rw [if_pos c3] at H
    have c3b0 : ((l0.length : Int) == (l1.length : Int)) = true := beq_iff_eq.mpr c3
    have c3b1 : ((l0.length : Int) != (l1.length : Int)) = false := bne_eq_false_iff_eq.mpr c3
    have c3b2 : (l0.length == l1.length) = true := by first | simpa using c3 | (simp at c3 ⊢; omega)
    clear c3
    have H' := am H
    clear H
    go_enter Tryz.func231, Tryz.ntmps231
    go_wp2
    repeat (go_quiet (fail); try go_wp2)
    go_loopg [13] k (fun kq v13 w' => ∃ (x13_1 : Int), v13 = .int .i64 x13_1 ∧ Aside0 (api_Cond_231.l0 kq l0 l1 (l0.length : Int) x13_1 = some r) ∧ Aside0 (kq ≤ k) ∧ Drawn0 w w')
    case atStart => exact ⟨(0), (ze), H', ⟨Nat.le_refl _⟩, zd⟩
    case round =>
      clear H'
      try clear c1
      try clear c2
      try clear p2
      try clear c3
      try clear c3b0
      try clear c3b1
      try clear c3b2
      obtain ⟨x13_1, rfl, HA, HK1, ⟨m1, rfl⟩⟩ := hrel
      cases gk with
      | zero => exact absurd HA.out (by simp [api_Cond_231.l0])
      | succ k1 =>
        have H := HA.out
        clear HA
        simp only [api_Cond_231.l0] at H
        by_cases c4 : x13_1 < (l0.length : Int)
        · rw [if_pos c4] at H
          have c4b0 : decide (x13_1 < (l0.length : Int)) = true := decide_eq_true c4
          clear c4
          by_cases c5 : 0 ≤ x13_1
          · rw [if_pos c5] at H
            have c5b0 : decide (0 ≤ x13_1) = true := decide_eq_true c5
            clear c5
            by_cases c6 : x13_1 < (l0.length : Int)
            · rw [if_pos c6] at H
              have c6b0 : decide (x13_1 < (l0.length : Int)) = true := decide_eq_true c6
              clear c6
              by_cases c7 : x13_1 < (l1.length : Int)
              · rw [if_pos c7] at H
                have c7b0 : decide (x13_1 < (l1.length : Int)) = true := decide_eq_true c7
                clear c7
                by_cases c8 : (!((((rd_T93 l0 x13_1).f0).toList) == (((rd_T93 l1 x13_1).f0).toList)) || (!((((rd_T93 l0 x13_1).f1).toList) == (((rd_T93 l1 x13_1).f1).toList)) || (!(((rd_T93 l0 x13_1).f2) == ((rd_T93 l1 x13_1).f2))))) = true
                · rw [if_pos c8] at H
                  have c8b0 : (!((((rd_T93 l0 x13_1).f0).toList) == (((rd_T93 l1 x13_1).f0).toList)) || (!((((rd_T93 l0 x13_1).f1).toList) == (((rd_T93 l1 x13_1).f1).toList)) || (!(((rd_T93 l0 x13_1).f2) == ((rd_T93 l1 x13_1).f2))))) = true := c8
                  clear c8
                  obtain rfl := Option.some.inj H
                  have p101 : 0 ≤ (x13_1 : Int) := of_decide_eq_true (zas)
                  have q101 : x13_1 < (l0.length : Int) := of_decide_eq_true (zas)
                  obtain ⟨ad101, e101, hx101_0, hx101_1, hx101_2⟩ := at_T93 HR0.out x13_1 p101 q101
                  cases e101
                  replace p101 := eq_true p101
                  replace q101 := eq_true q101
                  have p102 : 0 ≤ (x13_1 : Int) := of_decide_eq_true (zas)
                  have q102 : x13_1 < (l1.length : Int) := of_decide_eq_true (zas)
                  obtain ⟨ad102, e102, hx102_0, hx102_1, hx102_2⟩ := at_T93 HR1.out x13_1 p102 q102
                  cases e102
                  replace p102 := eq_true p102
                  replace q102 := eq_true q102
                  go_wp2
                  repeat (go_quiet (fail); try go_wp2)
                  go_ret
                  exact ⟨ze, zd⟩
                · rw [if_neg c8] at H
                  have c8b0 : (!((((rd_T93 l0 x13_1).f0).toList) == (((rd_T93 l1 x13_1).f0).toList)) || (!((((rd_T93 l0 x13_1).f1).toList) == (((rd_T93 l1 x13_1).f1).toList)) || (!(((rd_T93 l0 x13_1).f2) == ((rd_T93 l1 x13_1).f2))))) = false := by simpa using c8
                  clear c8
                  have H' := am H
                  clear H
                  have p101 : 0 ≤ (x13_1 : Int) := of_decide_eq_true (zas)
                  have q101 : x13_1 < (l0.length : Int) := of_decide_eq_true (zas)
                  obtain ⟨ad101, e101, hx101_0, hx101_1, hx101_2⟩ := at_T93 HR0.out x13_1 p101 q101
                  cases e101
                  replace p101 := eq_true p101
                  replace q101 := eq_true q101
                  have p102 : 0 ≤ (x13_1 : Int) := of_decide_eq_true (zas)
                  have q102 : x13_1 < (l1.length : Int) := of_decide_eq_true (zas)
                  obtain ⟨ad102, e102, hx102_0, hx102_1, hx102_2⟩ := at_T93 HR1.out x13_1 p102 q102
                  cases e102
                  replace p102 := eq_true p102
                  replace q102 := eq_true q102
                  go_wp2
                  repeat (go_quiet (fail); try go_wp2)
                  go_roundg k1
                  case measure => have := HK1.out; omega
                  case rel => exact ⟨(wrap64 (x13_1 + 1)), (ze), H', ⟨by have := HK1.out; omega⟩, zd⟩
              · rw [if_neg c7] at H
                exact absurd H (by simp)
            · rw [if_neg c6] at H
              exact absurd H (by simp)
          · rw [if_neg c5] at H
            exact absurd H (by simp)
        · rw [if_neg c4] at H
          have c4b0 : decide (x13_1 < (l0.length : Int)) = false := decide_eq_false c4
          clear c4
          obtain rfl := Option.some.inj H
          go_wp2
          repeat (go_quiet (fail); try go_wp2)
          go_ret
          exact ⟨ze, zd⟩
  · rw [if_neg c3] at H
    have c3b0 : ((l0.length : Int) == (l1.length : Int)) = false := beq_eq_false_iff_ne.mpr c3
    have c3b1 : ((l0.length : Int) != (l1.length : Int)) = true := bne_iff_ne.mpr c3
    have c3b2 : (l0.length == l1.length) = false := by first | simpa using c3 | (simp at c3 ⊢; omega)
    obtain rfl := Option.some.inj H
    go_enter Tryz.func231, Tryz.ntmps231
    go_wp2
    repeat (go_quiet (fail); try go_wp2)
    go_ret
    exact ⟨ze, zd⟩
end Go.Proofs.YtpbembafpnknhaaGreat.Pr
namespace Go.Proofs.YtpbembafpnknhaaGreat.Pr
open Go.RowKit Go.Proofs.YtpbembafpnknhaaGreatW.PrintWords Go.Proofs.YtpbembafpnknhaaGreatW.PrintLast Go.Proofs.YtpbembafpnknhaaGreatW.PrintMore
attribute [local go_sem] max2_int min2_int max_two min_two max_three min_three max_four min_four   -- for this text's walks alone
set_option linter.unusedVariables false
set_option linter.unusedSimpArgs false
def model_sameSentry.f (k : Nat) (l0_0 : List (S78)) (l0_1 : List (S93)) (l1_0 : List (S78)) (l1_1 : List (S93)) : Option (Bool) := (api_On_230.f k l0_0 l1_0).bind fun t103 => (if t103 = true then ((api_Cond_231.f k l0_1 l1_1).bind fun t104 => (some t104)) else (some false))
theorem model_sameSentry.mono : ∀ a0 a1 a2 a3 k, LeO (model_sameSentry.f k a0 a1 a2 a3) (model_sameSentry.f (k + 1) a0 a1 a2 a3) := by
  intro a0 a1 a2 a3 k
  unfold model_sameSentry.f
  repeat' first
      | (with_reducible exact api_Cond_231.mono _ _ _)
      | (with_reducible exact api_On_230.mono _ _ _)
      | (with_reducible exact LeO.refl _)
      | (with_reducible exact LeO.none _)
      | (with_reducible refine LeO.ite ?_ ?_)
      | (with_reducible refine LeO.bind ?_ (fun _ => ?_))
      | exact api_Cond_231.mono _ _ _
      | exact api_On_230.mono _ _ _
      | exact LeO.none _
      | refine LeO.ite ?_ ?_
      | refine LeO.bind ?_ (fun _ => ?_)
set_option maxHeartbeats 8000000 in
set_option maxRecDepth 100000 in
theorem model_sameSentry.calls (k : Nat) (A0_0 : Option Addr) (c0_0 : Nat) (l0_0 : List (S78)) (A0_1 : Option Addr) (c0_1 : Nat) (l0_1 : List (S93)) (A1_0 : Option Addr) (c1_0 : Nat) (l1_0 : List (S78)) (A1_1 : Option Addr) (c1_1 : Nat) (l1_1 : List (S93)) (r : Bool) (w : World) (hr0_0 : Kd.C k78 w A0_0 l0_0.length l0_0) (hc0_0 : l0_0.length ≤ c0_0) (hr0_1 : Kd.C k93 w A0_1 l0_1.length l0_1) (hc0_1 : l0_1.length ≤ c0_1) (hr1_0 : Kd.C k78 w A1_0 l1_0.length l1_0) (hc1_0 : l1_0.length ≤ c1_0) (hr1_1 : Kd.C k93 w A1_1 l1_1.length l1_1) (hc1_1 : l1_1.length ≤ c1_1) (h : model_sameSentry.f k l0_0 l0_1 l1_0 l1_1 = some r) :
    Calls Tryz.prog 188 #[.agg #[.slice A0_0 l0_0.length c0_0, .slice A0_1 l0_1.length c0_1], .agg #[.slice A1_0 l1_0.length c1_0, .slice A1_1 l1_1.length c1_1]] w fun e w' => e = .returned (.bool r) ∧ Below w.heap.size w w' := by
  have hu29 := Tryz.underlying29
  have HR0_0 := am hr0_0
  have HC0_0 := am hc0_0
  clear hr0_0 hc0_0
  have HR0_1 := am hr0_1
  have HC0_1 := am hc0_1
  clear hr0_1 hc0_1
  have HR1_0 := am hr1_0
  have HC1_0 := am hc1_0
  clear hr1_0 hc1_0
  have HR1_1 := am hr1_1
  have HC1_1 := am hc1_1
  clear hr1_1 hc1_1
  have HB := am (Below.refl w.heap.size w)
  have H : ((api_On_230.f k l0_0 l1_0).bind fun t103 => (if t103 = true then ((api_Cond_231.f k l0_1 l1_1).bind fun t104 => (some t104)) else (some false))) = some r := h
  clear h
  replace H := Option.bind_eq_some_iff.mp H
  obtain ⟨t103, A30, H⟩ := H
  replace H : (if t103 = true then ((api_Cond_231.f k l0_1 l1_1).bind fun t104 => (some t104)) else (some false)) = some r := H
  have A3 := am A30
  clear A30
  by_cases c4 : t103 = true
  · subst c4
    have H1 : ((api_Cond_231.f k l0_1 l1_1).bind fun t104 => (some t104)) = some r := by rw [if_pos rfl] at H; exact H
    clear H
    have H := H1
    clear H1
    replace H := Option.bind_eq_some_iff.mp H
    obtain ⟨t104, A50, H⟩ := H
    replace H : (some t104) = some r := H
    have A5 := am A50
    clear A50
    obtain rfl := Option.some.inj H
    go_enter Tryz.func188, Tryz.ntmps188
    go_wp2_with (first | ((with_reducible refine gd_ 2 ?_); refine bx_ 2 #[.slice A0_0 l0_0.length c0_0, .slice A0_1 l0_1.length c0_1] 29 ?_; intro gb101 hg w6 hbox hb; have BK101 := am (hbox); have GW101 := am (zg : w.heap.size ≤ gb101); have GE101 := am (zg : w.heap.size ≤ gb101); replace HB := am (below_step (zb) hb); clear hb hbox hg) | ((with_reducible refine gd_ 3 ?_); refine bx_ 3 #[.slice A1_0 l1_0.length c1_0, .slice A1_1 l1_1.length c1_1] 29 ?_; intro gb102 hg w7 hbox hb; have BK102 := am (hbox); have GW102 := am (zg : w.heap.size ≤ gb102); have GE102 := am (zg : w.heap.size ≤ gb102); replace HB := am (below_step (zb) hb); have NB101_102 := am ((zn BK101.out : gb101 ≠ gb102)); have NB102_101 := am ((zm BK101.out : gb102 ≠ gb101)); replace BK101 := am (zw BK101.out hb); clear hb hbox hg; have hnb8 := NB101_102.out; have hnc8 := NB102_101.out; obtain ⟨hcz9_0, hcz9_1, hfz9_0, hfz9_1⟩ := cf2 BK101.out; obtain ⟨hcz10_0, hcz10_1, hfz10_0, hfz10_1⟩ := cf2 BK102.out) | ((with_reducible refine gc_ 230 ?_); refine goesL_ (some 9) rfl rfl Tryz.func230 (by kernel_rfl) rfl #[.slice A0_0 l0_0.length c0_0, .slice A1_0 l1_0.length c1_0] rfl (za) ?_; (with_reducible refine (api_On_230.calls k _ _ l0_0 _ _ l1_0 true _ ?side1 ?side2 ?side3 ?side4 A3.out).mono ?_); (case side1 => exact zc (Kd.C_below HR0_0.out HB.out)); (case side2 => exact HC0_0.out); (case side3 => exact zc (Kd.C_below HR1_0.out HB.out)); (case side4 => exact HC1_0.out); rintro e w' ⟨rfl, ⟨nd, rfl⟩⟩; refine ⟨_, rfl, ?_⟩) | (go_at_call 231; (with_reducible refine (api_Cond_231.calls k _ _ l0_1 _ _ l1_1 t104 _ ?side1 ?side2 ?side3 ?side4 A5.out).mono ?_); (case side1 => exact zc (Kd.C_below HR0_1.out (zb))); (case side2 => exact HC0_1.out); (case side3 => exact zc (Kd.C_below HR1_1.out (zb))); (case side4 => exact HC1_1.out); rintro e w' ⟨rfl, ⟨nd, rfl⟩⟩))
    go_ret
    exact ⟨zf, zb⟩
  · replace c4 := Bool.eq_false_iff.mpr c4
    subst c4
    have H1 : (some false) = some r := by rw [if_neg (show ¬ (false = true) by decide)] at H; exact H
    clear H
    have H := H1
    clear H1
    obtain rfl := Option.some.inj H
    go_enter Tryz.func188, Tryz.ntmps188
    go_wp2_with (first | ((with_reducible refine gd_ 2 ?_); refine bx_ 2 #[.slice A0_0 l0_0.length c0_0, .slice A0_1 l0_1.length c0_1] 29 ?_; intro gb101 hg w11 hbox hb; have BK101 := am (hbox); have GW101 := am (zg : w.heap.size ≤ gb101); have GE101 := am (zg : w.heap.size ≤ gb101); replace HB := am (below_step (zb) hb); clear hb hbox hg) | ((with_reducible refine gd_ 3 ?_); refine bx_ 3 #[.slice A1_0 l1_0.length c1_0, .slice A1_1 l1_1.length c1_1] 29 ?_; intro gb102 hg w12 hbox hb; have BK102 := am (hbox); have GW102 := am (zg : w.heap.size ≤ gb102); have GE102 := am (zg : w.heap.size ≤ gb102); replace HB := am (below_step (zb) hb); have NB101_102 := am ((zn BK101.out : gb101 ≠ gb102)); have NB102_101 := am ((zm BK101.out : gb102 ≠ gb101)); replace BK101 := am (zw BK101.out hb); clear hb hbox hg; have hnb13 := NB101_102.out; have hnc13 := NB102_101.out; obtain ⟨hcz14_0, hcz14_1, hfz14_0, hfz14_1⟩ := cf2 BK101.out; obtain ⟨hcz15_0, hcz15_1, hfz15_0, hfz15_1⟩ := cf2 BK102.out) | ((with_reducible refine gc_ 230 ?_); refine goesL_ (some 9) rfl rfl Tryz.func230 (by kernel_rfl) rfl #[.slice A0_0 l0_0.length c0_0, .slice A1_0 l1_0.length c1_0] rfl (za) ?_; (with_reducible refine (api_On_230.calls k _ _ l0_0 _ _ l1_0 false _ ?side1 ?side2 ?side3 ?side4 A3.out).mono ?_); (case side1 => exact zc (Kd.C_below HR0_0.out HB.out)); (case side2 => exact HC0_0.out); (case side3 => exact zc (Kd.C_below HR1_0.out HB.out)); (case side4 => exact HC1_0.out); rintro e w' ⟨rfl, ⟨nd, rfl⟩⟩; refine ⟨_, rfl, ?_⟩))
    go_ret
    exact ⟨zf, zb⟩
end Go.Proofs.YtpbembafpnknhaaGreat.Pr
namespace Go.Proofs.YtpbembafpnknhaaGreat.Pr
open Go.RowKit Go.Proofs.YtpbembafpnknhaaGreatW.PrintWords Go.Proofs.YtpbembafpnknhaaGreatW.PrintLast Go.Proofs.YtpbembafpnknhaaGreatW.PrintMore
attribute [local go_sem] max2_int min2_int max_two min_two max_three min_three max_four min_four   -- for this text's walks alone
set_option linter.unusedVariables false
set_option linter.unusedSimpArgs false
def slices_EqualFunc_sameSentry.l0 : Nat → List (S29) → List (S29) → Int → Int → Option (Bool)
  | 0, _, _, _, _ => none
  | k + 1, x1, x15, x16, x17 => if x17 < x16 then (if 0 ≤ x17 then (if x17 < (x15.length : Int) then (if x17 < (x1.length : Int) then ((model_sameSentry.f k ((rd_T29 x15 x17).f0) ((rd_T29 x15 x17).f1) ((rd_T29 x1 x17).f0) ((rd_T29 x1 x17).f1)).bind fun t105 => (if t105 = true then (slices_EqualFunc_sameSentry.l0 k x1 x15 x16 (wrap64 (x17 + 1))) else (some false))) else (none)) else (none)) else (none)) else (some true)
def slices_EqualFunc_sameSentry.f (k : Nat) (l0 : List (S29)) (l1 : List (S29))  : Option (Bool) := if (l0.length : Int) = (l1.length : Int) then (slices_EqualFunc_sameSentry.l0 k l1 l0 (l0.length : Int) 0) else (some false)
theorem slices_EqualFunc_sameSentry.mono_l : ∀ k, (∀ y0 y1 y2 y3, LeO (slices_EqualFunc_sameSentry.l0 k y0 y1 y2 y3) (slices_EqualFunc_sameSentry.l0 (k + 1) y0 y1 y2 y3))
  | 0 => fun _ _ _ _ r h => by simp [slices_EqualFunc_sameSentry.l0] at h
  | k + 1 => by
    have ih0 := slices_EqualFunc_sameSentry.mono_l k
    · intro y0 y1 y2 y3
      unfold slices_EqualFunc_sameSentry.l0
      repeat' first
      | (with_reducible exact ih0 _ _ _ _)
      | (with_reducible exact model_sameSentry.mono _ _ _ _ _)
      | (with_reducible exact LeO.refl _)
      | (with_reducible exact LeO.none _)
      | (with_reducible refine LeO.ite ?_ ?_)
      | (with_reducible refine LeO.bind ?_ (fun _ => ?_))
      | exact ih0 _ _ _ _
      | exact model_sameSentry.mono _ _ _ _ _
      | exact LeO.none _
      | refine LeO.ite ?_ ?_
      | refine LeO.bind ?_ (fun _ => ?_)
theorem slices_EqualFunc_sameSentry.mono : ∀ a0 a1 k, LeO (slices_EqualFunc_sameSentry.f k a0 a1) (slices_EqualFunc_sameSentry.f (k + 1) a0 a1) := by
  intro a0 a1 k
  have ih0 := slices_EqualFunc_sameSentry.mono_l k
  unfold slices_EqualFunc_sameSentry.f
  repeat' first
      | (with_reducible exact ih0 _ _ _ _)
      | (with_reducible exact model_sameSentry.mono _ _ _ _ _)
      | (with_reducible exact LeO.refl _)
      | (with_reducible exact LeO.none _)
      | (with_reducible refine LeO.ite ?_ ?_)
      | (with_reducible refine LeO.bind ?_ (fun _ => ?_))
      | exact ih0 _ _ _ _
      | exact model_sameSentry.mono _ _ _ _ _
      | exact LeO.none _
      | refine LeO.ite ?_ ?_
      | refine LeO.bind ?_ (fun _ => ?_)
set_option maxHeartbeats 8000000 in
set_option maxRecDepth 100000 in
theorem slices_EqualFunc_sameSentry.calls (k : Nat) (A0 : Option Addr) (c0 : Nat) (l0 : List (S29)) (A1 : Option Addr) (c1 : Nat) (l1 : List (S29))  (r : Bool) (w : World) (hr0 : Kd.C k29 w A0 l0.length l0) (hc0 : l0.length ≤ c0) (hr1 : Kd.C k29 w A1 l1.length l1) (hc1 : l1.length ≤ c1) (h : slices_EqualFunc_sameSentry.f k l0 l1 = some r) :
    Calls Tryz.prog 187 #[.slice A0 l0.length c0, .slice A1 l1.length c1, (.func (.func 188) #[] #[])] w fun e w' => e = .returned (.bool r) ∧ Below w.heap.size w w' := by
  have hu29 := Tryz.underlying29
  have HR0 := am hr0
  have HC0 := am hc0
  clear hr0 hc0
  have HR1 := am hr1
  have HC1 := am hc1
  clear hr1 hc1
  have HB := am (Below.refl w.heap.size w)
  have H : (if (l0.length : Int) = (l1.length : Int) then (slices_EqualFunc_sameSentry.l0 k l1 l0 (l0.length : Int) 0) else (some false)) = some r := h
  clear h
  by_cases c4 : (l0.length : Int) = (l1.length : Int)
  · rw [if_pos c4] at H
    have c4b0 : ((l0.length : Int) == (l1.length : Int)) = true := beq_iff_eq.mpr c4
    have c4b1 : ((l0.length : Int) != (l1.length : Int)) = false := bne_eq_false_iff_eq.mpr c4
    have c4b2 : (l0.length == l1.length) = true := by first | simpa using c4 | (simp at c4 ⊢; omega)
    clear c4
    have H' := am H
    clear H
    go_enter Tryz.func187, Tryz.ntmps187
    go_wp2
    go_loopg [17] k (fun kq v17 w' => ∃ (x17_1 : Int), v17 = .int .i64 x17_1 ∧ Aside0 (slices_EqualFunc_sameSentry.l0 kq l1 l0 (l0.length : Int) x17_1 = some r) ∧ Aside0 (kq ≤ k) ∧ Aside0 (Below w.heap.size w w'))
    case atStart => exact ⟨(0), (ze), H', ⟨Nat.le_refl _⟩, ⟨zb⟩⟩
    case round =>
      clear H'
      try clear c1
      try clear p2
      try clear c3
      try clear c4
      try clear c4b0
      try clear c4b1
      try clear c4b2
      obtain ⟨x17_1, rfl, HA, HK1, HB⟩ := hrel
      cases gk with
      | zero => exact absurd HA.out (by simp [slices_EqualFunc_sameSentry.l0])
      | succ k1 =>
        have H := HA.out
        clear HA
        simp only [slices_EqualFunc_sameSentry.l0] at H
        by_cases c5 : x17_1 < (l0.length : Int)
        · rw [if_pos c5] at H
          have c5b0 : decide (x17_1 < (l0.length : Int)) = true := decide_eq_true c5
          clear c5
          by_cases c6 : 0 ≤ x17_1
          · rw [if_pos c6] at H
            have c6b0 : decide (0 ≤ x17_1) = true := decide_eq_true c6
            clear c6
            by_cases c7 : x17_1 < (l0.length : Int)
            · rw [if_pos c7] at H
              have c7b0 : decide (x17_1 < (l0.length : Int)) = true := decide_eq_true c7
              clear c7
              by_cases c8 : x17_1 < (l1.length : Int)
              · rw [if_pos c8] at H
                have c8b0 : decide (x17_1 < (l1.length : Int)) = true := decide_eq_true c8
                clear c8
                replace H := Option.bind_eq_some_iff.mp H
                obtain ⟨t105, A90, H⟩ := H
                replace H : (if t105 = true then (slices_EqualFunc_sameSentry.l0 k1 l1 l0 (l0.length : Int) (wrap64 (x17_1 + 1))) else (some false)) = some r := H
                have A9 := am A90
                clear A90
                by_cases c10 : t105 = true
                · subst c10
                  have H1 : (slices_EqualFunc_sameSentry.l0 k1 l1 l0 (l0.length : Int) (wrap64 (x17_1 + 1))) = some r := by rw [if_pos rfl] at H; exact H
                  clear H
                  have H := H1
                  clear H1
                  have H' := am H
                  clear H
                  have p101 : 0 ≤ (x17_1 : Int) := of_decide_eq_true (zas)
                  have q101 : x17_1 < (l0.length : Int) := of_decide_eq_true (zas)
                  obtain ⟨ad101, A101_0, c101_0, A101_1, c101_1, e101, hx101_0, hx101_1, hl101_0, hi101_0, hl101_1, hi101_1⟩ := at_T29 HR0.out x17_1 p101 q101
                  cases e101
                  replace hx101_0 := ba HB hx101_0
                  replace hx101_1 := ba HB hx101_1
                  have HR101_0 := am hi101_0
                  have HC101_0 := am hl101_0
                  clear hi101_0 hl101_0
                  have HR101_1 := am hi101_1
                  have HC101_1 := am hl101_1
                  clear hi101_1 hl101_1
                  replace p101 := eq_true p101
                  replace q101 := eq_true q101
                  go_wp2_with (first | ((with_reducible refine gd_ 8 ?_); refine bx_ 8 #[.slice none 0 0, .slice none 0 0] 29 ?_; intro gb102 hg w11 hbox hb; have BK102 := am (hbox); have GW102 := am (zg : w.heap.size ≤ gb102); have GE102 := am (zg : w.heap.size ≤ gb102); replace HB := am (below_step (zb) hb); clear hb hbox hg; obtain ⟨hcz12_0, hcz12_1, hfz12_0, hfz12_1⟩ := cf2 BK102.out; have p103 : 0 ≤ (x17_1 : Int) := of_decide_eq_true (zas); have q103 : x17_1 < (l1.length : Int) := of_decide_eq_true (zas); obtain ⟨ad103, A103_0, c103_0, A103_1, c103_1, e103, hx103_0, hx103_1, hl103_0, hi103_0, hl103_1, hi103_1⟩ := at_T29 HR1.out x17_1 p103 q103; cases e103; have hn103_0 : ad103.block ≠ gb102 := Nat.ne_of_lt (Nat.lt_of_lt_of_le (zy hx103_0) GW102.out); have hn103_1 : ad103.block ≠ gb102 := Nat.ne_of_lt (Nat.lt_of_lt_of_le (zy hx103_0) GW102.out); replace hx103_0 := ba HB hx103_0; replace hx103_1 := ba HB hx103_1; have HR103_0 := am hi103_0; have HC103_0 := am hl103_0; clear hi103_0 hl103_0; have HR103_1 := am hi103_1; have HC103_1 := am hl103_1; clear hi103_1 hl103_1; replace hx103_0 := (cell_far (p := ⟨gb102, 0, none⟩) (zx hn103_0) (.slice A101_0 ((rd_T29 l0 x17_1).f0).length c101_0)).trans hx103_0; replace hx103_1 := (cell_far (p := ⟨gb102, 0, none⟩) (zx hn103_0) (.slice A101_0 ((rd_T29 l0 x17_1).f0).length c101_0)).trans hx103_1; replace hx103_0 := (cell_far (p := ⟨gb102, 1, none⟩) (zx hn103_1) (.slice A101_1 ((rd_T29 l0 x17_1).f1).length c101_1)).trans hx103_0; replace hx103_1 := (cell_far (p := ⟨gb102, 1, none⟩) (zx hn103_1) (.slice A101_1 ((rd_T29 l0 x17_1).f1).length c101_1)).trans hx103_1; clear hn103_0; clear hn103_1; replace p103 := eq_true p103; replace q103 := eq_true q103) | ((with_reducible refine gd_ 9 ?_); refine bx_ 9 #[.slice none 0 0, .slice none 0 0] 29 ?_; intro gb104 hg w13 hbox hb; have BK104 := am (hbox); have GW104 := am (zg : w.heap.size ≤ gb104); have GE104 := am (zg : w.heap.size ≤ gb104); replace HB := am (below_step (zb) hb); have NB102_104 := am ((by rw [hg]; exact Nat.ne_of_lt (blk_lt (g := gb102) (o := .cells #[.slice A101_0 ((rd_T29 l0 x17_1).f0).length c101_0, .slice A101_1 ((rd_T29 l0 x17_1).f1).length c101_1] 29 (0, 0)) (by refine zl ?_; refine blk_put (cs := #[.slice A101_0 ((rd_T29 l0 x17_1).f0).length c101_0, .slice none 0 0]) ?_ 1 _ rfl; refine zl ?_; refine blk_put (cs := #[.slice none 0 0, .slice none 0 0]) ?_ 0 _ rfl; refine zl ?_; exact BK102.out)) : gb102 ≠ gb104)); have NB104_102 := am ((by rw [hg]; exact Nat.ne_of_gt (blk_lt (g := gb102) (o := .cells #[.slice A101_0 ((rd_T29 l0 x17_1).f0).length c101_0, .slice A101_1 ((rd_T29 l0 x17_1).f1).length c101_1] 29 (0, 0)) (by refine zl ?_; refine blk_put (cs := #[.slice A101_0 ((rd_T29 l0 x17_1).f0).length c101_0, .slice none 0 0]) ?_ 1 _ rfl; refine zl ?_; refine blk_put (cs := #[.slice none 0 0, .slice none 0 0]) ?_ 0 _ rfl; refine zl ?_; exact BK102.out)) : gb104 ≠ gb102)); replace BK102 := am (blk_below (g := gb102) (o := .cells #[.slice A101_0 ((rd_T29 l0 x17_1).f0).length c101_0, .slice A101_1 ((rd_T29 l0 x17_1).f1).length c101_1] 29 (0, 0)) (by refine zl ?_; refine blk_put (cs := #[.slice A101_0 ((rd_T29 l0 x17_1).f0).length c101_0, .slice none 0 0]) ?_ 1 _ rfl; refine zl ?_; refine blk_put (cs := #[.slice none 0 0, .slice none 0 0]) ?_ 0 _ rfl; refine zl ?_; exact BK102.out) hb); clear hb hbox hg; have hnb14 := NB104_102.out; have hnc14 := NB102_104.out; obtain ⟨hcz15_0, hcz15_1, hfz15_0, hfz15_1⟩ := cf2 BK104.out; obtain ⟨hcz16_0, hcz16_1, hfz16_0, hfz16_1⟩ := cf2 BK102.out) | ((with_reducible refine gate_callee_d (f := 188) rfl ?_); refine goesLd_ (some 29) rfl rfl Tryz.func188 (by kernel_rfl) rfl #[.agg #[.slice A101_0 ((rd_T29 l0 x17_1).f0).length c101_0, .slice A101_1 ((rd_T29 l0 x17_1).f1).length c101_1], .agg #[.slice A103_0 ((rd_T29 l1 x17_1).f0).length c103_0, .slice A103_1 ((rd_T29 l1 x17_1).f1).length c103_1]] rfl (za) ?_; (with_reducible refine (model_sameSentry.calls k1 _ _ ((rd_T29 l0 x17_1).f0) _ _ ((rd_T29 l0 x17_1).f1) _ _ ((rd_T29 l1 x17_1).f0) _ _ ((rd_T29 l1 x17_1).f1) true _ ?side1 ?side2 ?side3 ?side4 ?side5 ?side6 ?side7 ?side8 A9.out).mono ?_); (case side1 => exact Kd.C_below HR101_0.out (zb)); (case side2 => exact HC101_0.out); (case side3 => exact Kd.C_below HR101_1.out (zb)); (case side4 => exact HC101_1.out); (case side5 => exact Kd.C_below HR103_0.out (zb)); (case side6 => exact HC103_0.out); (case side7 => exact Kd.C_below HR103_1.out (zb)); (case side8 => exact HC103_1.out); rintro e w17 ⟨rfl, hb⟩; refine ⟨_, rfl, ?_⟩; replace BK102 := am (blk_below (g := gb102) (o := .cells #[.slice A101_0 ((rd_T29 l0 x17_1).f0).length c101_0, .slice A101_1 ((rd_T29 l0 x17_1).f1).length c101_1] 29 (0, 0)) (by refine zl ?_; refine blk_far ?_ NB102_104.out _; refine zl ?_; refine blk_far ?_ NB102_104.out _; refine zl ?_; exact BK102.out) hb); replace BK104 := am (blk_below (g := gb104) (o := .cells #[.slice A103_0 ((rd_T29 l1 x17_1).f0).length c103_0, .slice A103_1 ((rd_T29 l1 x17_1).f1).length c103_1] 29 (0, 0)) (by refine zl ?_; refine blk_put (cs := #[.slice A103_0 ((rd_T29 l1 x17_1).f0).length c103_0, .slice none 0 0]) ?_ 1 _ rfl; refine zl ?_; refine blk_put (cs := #[.slice none 0 0, .slice none 0 0]) ?_ 0 _ rfl; refine zl ?_; exact BK104.out) hb); replace HB := am (below_step (zb) hb); (try clear hb); (try clear hb2); (try clear hk); (try clear hi)))
                  go_roundg k1
                  case measure => have := HK1.out; omega
                  case rel => exact ⟨(wrap64 (x17_1 + 1)), (ze), H', ⟨by have := HK1.out; omega⟩, ⟨zb⟩⟩
                · replace c10 := Bool.eq_false_iff.mpr c10
                  subst c10
                  have H1 : (some false) = some r := by rw [if_neg (show ¬ (false = true) by decide)] at H; exact H
                  clear H
                  have H := H1
                  clear H1
                  obtain rfl := Option.some.inj H
                  have p101 : 0 ≤ (x17_1 : Int) := of_decide_eq_true (zas)
                  have q101 : x17_1 < (l0.length : Int) := of_decide_eq_true (zas)
                  obtain ⟨ad101, A101_0, c101_0, A101_1, c101_1, e101, hx101_0, hx101_1, hl101_0, hi101_0, hl101_1, hi101_1⟩ := at_T29 HR0.out x17_1 p101 q101
                  cases e101
                  replace hx101_0 := ba HB hx101_0
                  replace hx101_1 := ba HB hx101_1
                  have HR101_0 := am hi101_0
                  have HC101_0 := am hl101_0
                  clear hi101_0 hl101_0
                  have HR101_1 := am hi101_1
                  have HC101_1 := am hl101_1
                  clear hi101_1 hl101_1
                  replace p101 := eq_true p101
                  replace q101 := eq_true q101
                  go_wp2_with (first | ((with_reducible refine gd_ 8 ?_); refine bx_ 8 #[.slice none 0 0, .slice none 0 0] 29 ?_; intro gb102 hg w18 hbox hb; have BK102 := am (hbox); have GW102 := am (zg : w.heap.size ≤ gb102); have GE102 := am (zg : w.heap.size ≤ gb102); replace HB := am (below_step (zb) hb); clear hb hbox hg; obtain ⟨hcz19_0, hcz19_1, hfz19_0, hfz19_1⟩ := cf2 BK102.out; have p103 : 0 ≤ (x17_1 : Int) := of_decide_eq_true (zas); have q103 : x17_1 < (l1.length : Int) := of_decide_eq_true (zas); obtain ⟨ad103, A103_0, c103_0, A103_1, c103_1, e103, hx103_0, hx103_1, hl103_0, hi103_0, hl103_1, hi103_1⟩ := at_T29 HR1.out x17_1 p103 q103; cases e103; have hn103_0 : ad103.block ≠ gb102 := Nat.ne_of_lt (Nat.lt_of_lt_of_le (zy hx103_0) GW102.out); have hn103_1 : ad103.block ≠ gb102 := Nat.ne_of_lt (Nat.lt_of_lt_of_le (zy hx103_0) GW102.out); replace hx103_0 := ba HB hx103_0; replace hx103_1 := ba HB hx103_1; have HR103_0 := am hi103_0; have HC103_0 := am hl103_0; clear hi103_0 hl103_0; have HR103_1 := am hi103_1; have HC103_1 := am hl103_1; clear hi103_1 hl103_1; replace hx103_0 := (cell_far (p := ⟨gb102, 0, none⟩) (zx hn103_0) (.slice A101_0 ((rd_T29 l0 x17_1).f0).length c101_0)).trans hx103_0; replace hx103_1 := (cell_far (p := ⟨gb102, 0, none⟩) (zx hn103_0) (.slice A101_0 ((rd_T29 l0 x17_1).f0).length c101_0)).trans hx103_1; replace hx103_0 := (cell_far (p := ⟨gb102, 1, none⟩) (zx hn103_1) (.slice A101_1 ((rd_T29 l0 x17_1).f1).length c101_1)).trans hx103_0; replace hx103_1 := (cell_far (p := ⟨gb102, 1, none⟩) (zx hn103_1) (.slice A101_1 ((rd_T29 l0 x17_1).f1).length c101_1)).trans hx103_1; clear hn103_0; clear hn103_1; replace p103 := eq_true p103; replace q103 := eq_true q103) | ((with_reducible refine gd_ 9 ?_); refine bx_ 9 #[.slice none 0 0, .slice none 0 0] 29 ?_; intro gb104 hg w20 hbox hb; have BK104 := am (hbox); have GW104 := am (zg : w.heap.size ≤ gb104); have GE104 := am (zg : w.heap.size ≤ gb104); replace HB := am (below_step (zb) hb); have NB102_104 := am ((by rw [hg]; exact Nat.ne_of_lt (blk_lt (g := gb102) (o := .cells #[.slice A101_0 ((rd_T29 l0 x17_1).f0).length c101_0, .slice A101_1 ((rd_T29 l0 x17_1).f1).length c101_1] 29 (0, 0)) (by refine zl ?_; refine blk_put (cs := #[.slice A101_0 ((rd_T29 l0 x17_1).f0).length c101_0, .slice none 0 0]) ?_ 1 _ rfl; refine zl ?_; refine blk_put (cs := #[.slice none 0 0, .slice none 0 0]) ?_ 0 _ rfl; refine zl ?_; exact BK102.out)) : gb102 ≠ gb104)); have NB104_102 := am ((by rw [hg]; exact Nat.ne_of_gt (blk_lt (g := gb102) (o := .cells #[.slice A101_0 ((rd_T29 l0 x17_1).f0).length c101_0, .slice A101_1 ((rd_T29 l0 x17_1).f1).length c101_1] 29 (0, 0)) (by refine zl ?_; refine blk_put (cs := #[.slice A101_0 ((rd_T29 l0 x17_1).f0).length c101_0, .slice none 0 0]) ?_ 1 _ rfl; refine zl ?_; refine blk_put (cs := #[.slice none 0 0, .slice none 0 0]) ?_ 0 _ rfl; refine zl ?_; exact BK102.out)) : gb104 ≠ gb102)); replace BK102 := am (blk_below (g := gb102) (o := .cells #[.slice A101_0 ((rd_T29 l0 x17_1).f0).length c101_0, .slice A101_1 ((rd_T29 l0 x17_1).f1).length c101_1] 29 (0, 0)) (by refine zl ?_; refine blk_put (cs := #[.slice A101_0 ((rd_T29 l0 x17_1).f0).length c101_0, .slice none 0 0]) ?_ 1 _ rfl; refine zl ?_; refine blk_put (cs := #[.slice none 0 0, .slice none 0 0]) ?_ 0 _ rfl; refine zl ?_; exact BK102.out) hb); clear hb hbox hg; have hnb21 := NB104_102.out; have hnc21 := NB102_104.out; obtain ⟨hcz22_0, hcz22_1, hfz22_0, hfz22_1⟩ := cf2 BK104.out; obtain ⟨hcz23_0, hcz23_1, hfz23_0, hfz23_1⟩ := cf2 BK102.out) | ((with_reducible refine gate_callee_d (f := 188) rfl ?_); refine goesLd_ (some 29) rfl rfl Tryz.func188 (by kernel_rfl) rfl #[.agg #[.slice A101_0 ((rd_T29 l0 x17_1).f0).length c101_0, .slice A101_1 ((rd_T29 l0 x17_1).f1).length c101_1], .agg #[.slice A103_0 ((rd_T29 l1 x17_1).f0).length c103_0, .slice A103_1 ((rd_T29 l1 x17_1).f1).length c103_1]] rfl (za) ?_; (with_reducible refine (model_sameSentry.calls k1 _ _ ((rd_T29 l0 x17_1).f0) _ _ ((rd_T29 l0 x17_1).f1) _ _ ((rd_T29 l1 x17_1).f0) _ _ ((rd_T29 l1 x17_1).f1) false _ ?side1 ?side2 ?side3 ?side4 ?side5 ?side6 ?side7 ?side8 A9.out).mono ?_); (case side1 => exact Kd.C_below HR101_0.out (zb)); (case side2 => exact HC101_0.out); (case side3 => exact Kd.C_below HR101_1.out (zb)); (case side4 => exact HC101_1.out); (case side5 => exact Kd.C_below HR103_0.out (zb)); (case side6 => exact HC103_0.out); (case side7 => exact Kd.C_below HR103_1.out (zb)); (case side8 => exact HC103_1.out); rintro e w24 ⟨rfl, hb⟩; refine ⟨_, rfl, ?_⟩; replace BK102 := am (blk_below (g := gb102) (o := .cells #[.slice A101_0 ((rd_T29 l0 x17_1).f0).length c101_0, .slice A101_1 ((rd_T29 l0 x17_1).f1).length c101_1] 29 (0, 0)) (by refine zl ?_; refine blk_far ?_ NB102_104.out _; refine zl ?_; refine blk_far ?_ NB102_104.out _; refine zl ?_; exact BK102.out) hb); replace BK104 := am (blk_below (g := gb104) (o := .cells #[.slice A103_0 ((rd_T29 l1 x17_1).f0).length c103_0, .slice A103_1 ((rd_T29 l1 x17_1).f1).length c103_1] 29 (0, 0)) (by refine zl ?_; refine blk_put (cs := #[.slice A103_0 ((rd_T29 l1 x17_1).f0).length c103_0, .slice none 0 0]) ?_ 1 _ rfl; refine zl ?_; refine blk_put (cs := #[.slice none 0 0, .slice none 0 0]) ?_ 0 _ rfl; refine zl ?_; exact BK104.out) hb); replace HB := am (below_step (zb) hb); (try clear hb); (try clear hb2); (try clear hk); (try clear hi)))
                  go_ret
                  exact ⟨zf, zb⟩
              · rw [if_neg c8] at H
                exact absurd H (by simp)
            · rw [if_neg c7] at H
              exact absurd H (by simp)
          · rw [if_neg c6] at H
            exact absurd H (by simp)
        · rw [if_neg c5] at H
          have c5b0 : decide (x17_1 < (l0.length : Int)) = false := decide_eq_false c5
          clear c5
          obtain rfl := Option.some.inj H
          go_wp2
          go_ret
          exact ⟨zf, zb⟩
  · rw [if_neg c4] at H
    have c4b0 : ((l0.length : Int) == (l1.length : Int)) = false := beq_eq_false_iff_ne.mpr c4
    have c4b1 : ((l0.length : Int) != (l1.length : Int)) = true := bne_iff_ne.mpr c4
    have c4b2 : (l0.length == l1.length) = false := by first | simpa using c4 | (simp at c4 ⊢; omega)
    obtain rfl := Option.some.inj H
    go_enter Tryz.func187, Tryz.ntmps187
    go_wp2
    go_ret
    exact ⟨zf, zb⟩
end Go.Proofs.YtpbembafpnknhaaGreat.Pr
namespace Go.Proofs.YtpbembafpnknhaaGreat.Pr
open Go.RowKit Go.Proofs.YtpbembafpnknhaaGreatW.PrintWords Go.Proofs.YtpbembafpnknhaaGreatW.PrintLast Go.Proofs.YtpbembafpnknhaaGreatW.PrintMore
attribute [local go_sem] max2_int min2_int max_two min_two max_three min_three max_four min_four   -- for this text's walks alone
set_option linter.unusedVariables false
set_option linter.unusedSimpArgs false
def model_SameSentries.f (k : Nat) (l0 : List (S29)) (l1 : List (S29)) : Option (Bool) := (slices_EqualFunc_sameSentry.f k l0 l1).bind fun t101 => (some t101)
theorem model_SameSentries.mono : ∀ a0 a1 k, LeO (model_SameSentries.f k a0 a1) (model_SameSentries.f (k + 1) a0 a1) := by
  intro a0 a1 k
  unfold model_SameSentries.f
  repeat' first
      | (with_reducible exact slices_EqualFunc_sameSentry.mono _ _ _)
      | (with_reducible exact LeO.refl _)
      | (with_reducible exact LeO.none _)
      | (with_reducible refine LeO.ite ?_ ?_)
      | (with_reducible refine LeO.bind ?_ (fun _ => ?_))
      | exact slices_EqualFunc_sameSentry.mono _ _ _
      | exact LeO.none _
      | refine LeO.ite ?_ ?_
      | refine LeO.bind ?_ (fun _ => ?_)
set_option maxHeartbeats 8000000 in
set_option maxRecDepth 100000 in
theorem model_SameSentries.calls (k : Nat) (A0 : Option Addr) (c0 : Nat) (l0 : List (S29)) (A1 : Option Addr) (c1 : Nat) (l1 : List (S29)) (r : Bool) (w : World) (hr0 : Kd.C k29 w A0 l0.length l0) (hc0 : l0.length ≤ c0) (hr1 : Kd.C k29 w A1 l1.length l1) (hc1 : l1.length ≤ c1) (h : model_SameSentries.f k l0 l1 = some r) :
    Calls Tryz.prog 140 #[.slice A0 l0.length c0, .slice A1 l1.length c1] w fun e w' => e = .returned (.bool r) ∧ Below w.heap.size w w' := by
  have HR0 := am hr0
  have HC0 := am hc0
  clear hr0 hc0
  have HR1 := am hr1
  have HC1 := am hc1
  clear hr1 hc1
  have HB := am (Below.refl w.heap.size w)
  have H : ((slices_EqualFunc_sameSentry.f k l0 l1).bind fun t101 => (some t101)) = some r := h
  clear h
  replace H := Option.bind_eq_some_iff.mp H
  obtain ⟨t101, A30, H⟩ := H
  replace H : (some t101) = some r := H
  have A3 := am A30
  clear A30
  obtain rfl := Option.some.inj H
  go_enter Tryz.func140, Tryz.ntmps140
  go_wp2_with (first | ((with_reducible refine gc_ 187 ?_); refine goesL_ (some 7) rfl rfl Tryz.func187 (by kernel_rfl) rfl #[.slice A0 l0.length c0, .slice A1 l1.length c1, (.func (.func 188) #[] #[])] rfl (za) ?_; (with_reducible refine (slices_EqualFunc_sameSentry.calls k _ _ l0 _ _ l1 t101 _ ?side1 ?side2 ?side3 ?side4 A3.out).mono ?_); (case side1 => exact zc HR0.out); (case side2 => exact HC0.out); (case side3 => exact zc HR1.out); (case side4 => exact HC1.out); rintro e w4 ⟨rfl, hb⟩; refine ⟨_, rfl, ?_⟩; replace HB := am (below_step (zb) hb); (try clear hb); (try clear hb2); (try clear hk); (try clear hi)))
  go_ret
  exact ⟨zf, zb⟩
end Go.Proofs.YtpbembafpnknhaaGreat.Pr
namespace Go.Proofs.YtpbembafpnknhaaGreat.Pr
open Go.RowKit Go.Proofs.YtpbembafpnknhaaGreatW.PrintWords Go.Proofs.YtpbembafpnknhaaGreatW.PrintLast Go.Proofs.YtpbembafpnknhaaGreatW.PrintMore
attribute [local go_sem] max2_int min2_int max_two min_two max_three min_three max_four min_four   -- for this text's walks alone
set_option linter.unusedVariables false
set_option linter.unusedSimpArgs false
def model_SameItem.f (k : Nat) (a0_0 : ByteArray) (a0_1 : Int) (a0_2 : ByteArray) (a0_3 : Bool) (a0_4 : Int) (l0_5 : List (S29)) (l0_6 : List (S29)) (a1_0 : ByteArray) (a1_1 : Int) (a1_2 : ByteArray) (a1_3 : Bool) (a1_4 : Int) (l1_5 : List (S29)) (l1_6 : List (S29)) : Option (Bool) := if a0_0.toList = a1_0.toList then (if a0_1 = a1_1 then (if a0_2.toList = a1_2.toList then (if (a0_3 == a1_3) = true then (if a0_4 = a1_4 then ((model_SameSentries.f k l0_5 l1_5).bind fun t103 => (if t103 = true then ((model_SameSentries.f k l0_6 l1_6).bind fun t104 => (some t104)) else (some false))) else (some false)) else (some false)) else (some false)) else (some false)) else (some false)
theorem model_SameItem.mono : ∀ a0 a1 a2 a3 a4 a5 a6 a7 a8 a9 a10 a11 a12 a13 k, LeO (model_SameItem.f k a0 a1 a2 a3 a4 a5 a6 a7 a8 a9 a10 a11 a12 a13) (model_SameItem.f (k + 1) a0 a1 a2 a3 a4 a5 a6 a7 a8 a9 a10 a11 a12 a13) := by
  intro a0 a1 a2 a3 a4 a5 a6 a7 a8 a9 a10 a11 a12 a13 k
  unfold model_SameItem.f
  repeat' first
      | (with_reducible exact model_SameSentries.mono _ _ _)
      | (with_reducible exact LeO.refl _)
      | (with_reducible exact LeO.none _)
      | (with_reducible refine LeO.ite ?_ ?_)
      | (with_reducible refine LeO.bind ?_ (fun _ => ?_))
      | exact model_SameSentries.mono _ _ _
      | exact LeO.none _
      | refine LeO.ite ?_ ?_
      | refine LeO.bind ?_ (fun _ => ?_)
set_option maxHeartbeats 8000000 in
set_option maxRecDepth 100000 in
theorem model_SameItem.calls (k : Nat) (a0_0 : ByteArray) (a0_1 : Int) (a0_2 : ByteArray) (a0_3 : Bool) (a0_4 : Int) (A0_5 : Option Addr) (c0_5 : Nat) (l0_5 : List (S29)) (A0_6 : Option Addr) (c0_6 : Nat) (l0_6 : List (S29)) (a1_0 : ByteArray) (a1_1 : Int) (a1_2 : ByteArray) (a1_3 : Bool) (a1_4 : Int) (A1_5 : Option Addr) (c1_5 : Nat) (l1_5 : List (S29)) (A1_6 : Option Addr) (c1_6 : Nat) (l1_6 : List (S29)) (r : Bool) (w : World) (hr0_5 : Kd.C k29 w A0_5 l0_5.length l0_5) (hc0_5 : l0_5.length ≤ c0_5) (hr0_6 : Kd.C k29 w A0_6 l0_6.length l0_6) (hc0_6 : l0_6.length ≤ c0_6) (hr1_5 : Kd.C k29 w A1_5 l1_5.length l1_5) (hc1_5 : l1_5.length ≤ c1_5) (hr1_6 : Kd.C k29 w A1_6 l1_6.length l1_6) (hc1_6 : l1_6.length ≤ c1_6) (h : model_SameItem.f k a0_0 a0_1 a0_2 a0_3 a0_4 l0_5 l0_6 a1_0 a1_1 a1_2 a1_3 a1_4 l1_5 l1_6 = some r) :
    Calls Tryz.prog 115 #[.agg #[.string a0_0, .int .i64 a0_1, .string a0_2, .bool a0_3, .int .i64 a0_4, .slice A0_5 l0_5.length c0_5, .slice A0_6 l0_6.length c0_6], .agg #[.string a1_0, .int .i64 a1_1, .string a1_2, .bool a1_3, .int .i64 a1_4, .slice A1_5 l1_5.length c1_5, .slice A1_6 l1_6.length c1_6]] w fun e w' => e = .returned (.bool r) ∧ Below w.heap.size w w' := by
  have hu47 := Tryz.underlying47
  have HR0_5 := am hr0_5
  have HC0_5 := am hc0_5
  clear hr0_5 hc0_5
  have HR0_6 := am hr0_6
  have HC0_6 := am hc0_6
  clear hr0_6 hc0_6
  have HR1_5 := am hr1_5
  have HC1_5 := am hc1_5
  clear hr1_5 hc1_5
  have HR1_6 := am hr1_6
  have HC1_6 := am hc1_6
  clear hr1_6 hc1_6
  have HB := am (Below.refl w.heap.size w)
  have H : (if a0_0.toList = a1_0.toList then (if a0_1 = a1_1 then (if a0_2.toList = a1_2.toList then (if (a0_3 == a1_3) = true then (if a0_4 = a1_4 then ((model_SameSentries.f k l0_5 l1_5).bind fun t103 => (if t103 = true then ((model_SameSentries.f k l0_6 l1_6).bind fun t104 => (some t104)) else (some false))) else (some false)) else (some false)) else (some false)) else (some false)) else (some false)) = some r := h
  clear h
  by_cases c3 : a0_0.toList = a1_0.toList
  · rw [if_pos c3] at H
    have c3b0 : (a0_0.toList == a1_0.toList) = true := beq_iff_eq.mpr c3
    have c3b1 : (a0_0.toList != a1_0.toList) = false := bne_eq_false_iff_eq.mpr c3
    clear c3
    by_cases c4 : a0_1 = a1_1
    · rw [if_pos c4] at H
      have c4b0 : (a0_1 == a1_1) = true := beq_iff_eq.mpr c4
      have c4b1 : (a0_1 != a1_1) = false := bne_eq_false_iff_eq.mpr c4
      clear c4
      by_cases c5 : a0_2.toList = a1_2.toList
      · rw [if_pos c5] at H
        have c5b0 : (a0_2.toList == a1_2.toList) = true := beq_iff_eq.mpr c5
        have c5b1 : (a0_2.toList != a1_2.toList) = false := bne_eq_false_iff_eq.mpr c5
        clear c5
        by_cases c6 : (a0_3 == a1_3) = true
        · rw [if_pos c6] at H
          have c6b0 : (a0_3 == a1_3) = true := c6
          (try (have c6b1 : decide (a0_3 = a1_3) = true := by simpa using c6))
          (try (have c6b2 : (a0_3 == a1_3) = true := by simpa using c6))
          clear c6
          by_cases c7 : a0_4 = a1_4
          · rw [if_pos c7] at H
            have c7b0 : (a0_4 == a1_4) = true := beq_iff_eq.mpr c7
            have c7b1 : (a0_4 != a1_4) = false := bne_eq_false_iff_eq.mpr c7
            clear c7
            replace H := Option.bind_eq_some_iff.mp H
            obtain ⟨t103, A80, H⟩ := H
            replace H : (if t103 = true then ((model_SameSentries.f k l0_6 l1_6).bind fun t104 => (some t104)) else (some false)) = some r := H
            have A8 := am A80
            clear A80
            by_cases c9 : t103 = true
            · subst c9
              have H1 : ((model_SameSentries.f k l0_6 l1_6).bind fun t104 => (some t104)) = some r := by rw [if_pos rfl] at H; exact H
              clear H
              have H := H1
              clear H1
              replace H := Option.bind_eq_some_iff.mp H
              obtain ⟨t104, A100, H⟩ := H
              replace H : (some t104) = some r := H
              have A10 := am A100
              clear A100
              obtain rfl := Option.some.inj H
              go_enter Tryz.func115, Tryz.ntmps115
              go_wp2_with (first | ((with_reducible refine gd_ 2 ?_); refine bx_ 2 #[.string a0_0, .int .i64 a0_1, .string a0_2, .bool a0_3, .int .i64 a0_4, .slice A0_5 l0_5.length c0_5, .slice A0_6 l0_6.length c0_6] 47 ?_; intro gb101 hg w11 hbox hb; have BK101 := am (hbox); have GW101 := am (zg : w.heap.size ≤ gb101); have GE101 := am (zg : w.heap.size ≤ gb101); replace HB := am (below_step (zb) hb); clear hb hbox hg) | ((with_reducible refine gd_ 3 ?_); refine bx_ 3 #[.string a1_0, .int .i64 a1_1, .string a1_2, .bool a1_3, .int .i64 a1_4, .slice A1_5 l1_5.length c1_5, .slice A1_6 l1_6.length c1_6] 47 ?_; intro gb102 hg w12 hbox hb; have BK102 := am (hbox); have GW102 := am (zg : w.heap.size ≤ gb102); have GE102 := am (zg : w.heap.size ≤ gb102); replace HB := am (below_step (zb) hb); have NB101_102 := am ((zn BK101.out : gb101 ≠ gb102)); have NB102_101 := am ((zm BK101.out : gb102 ≠ gb101)); replace BK101 := am (zw BK101.out hb); clear hb hbox hg; have hnb13 := NB101_102.out; have hnc13 := NB102_101.out; obtain ⟨hcz14_0, hcz14_1, hcz14_2, hcz14_3, hcz14_4, hcz14_5, hcz14_6, hfz14_0, hfz14_1, hfz14_2, hfz14_3, hfz14_4, hfz14_5, hfz14_6⟩ := cf7 BK101.out; obtain ⟨hcz15_0, hcz15_1, hcz15_2, hcz15_3, hcz15_4, hcz15_5, hcz15_6, hfz15_0, hfz15_1, hfz15_2, hfz15_3, hfz15_4, hfz15_5, hfz15_6⟩ := cf7 BK102.out) | (go_at_call 140; (with_reducible refine (model_SameSentries.calls k _ _ l0_5 _ _ l1_5 true _ ?side1 ?side2 ?side3 ?side4 A8.out).mono ?_); (case side1 => exact zc (Kd.C_below HR0_5.out HB.out)); (case side2 => exact HC0_5.out); (case side3 => exact zc (Kd.C_below HR1_5.out HB.out)); (case side4 => exact HC1_5.out); rintro e w16 ⟨rfl, hb⟩; replace BK101 := am (zw BK101.out hb); replace BK102 := am (zw BK102.out hb); replace HB := am (below_step (zb) hb); (try clear hb); (try clear hb2); (try clear hk); (try clear hi); obtain ⟨hcz17_0, hcz17_1, hcz17_2, hcz17_3, hcz17_4, hcz17_5, hcz17_6, hfz17_0, hfz17_1, hfz17_2, hfz17_3, hfz17_4, hfz17_5, hfz17_6⟩ := cf7 BK101.out; obtain ⟨hcz18_0, hcz18_1, hcz18_2, hcz18_3, hcz18_4, hcz18_5, hcz18_6, hfz18_0, hfz18_1, hfz18_2, hfz18_3, hfz18_4, hfz18_5, hfz18_6⟩ := cf7 BK102.out) | (go_at_call 140; (with_reducible refine (model_SameSentries.calls k _ _ l0_6 _ _ l1_6 t104 _ ?side1 ?side2 ?side3 ?side4 A10.out).mono ?_); (case side1 => exact zc (Kd.C_below HR0_6.out HB.out)); (case side2 => exact HC0_6.out); (case side3 => exact zc (Kd.C_below HR1_6.out HB.out)); (case side4 => exact HC1_6.out); rintro e w19 ⟨rfl, hb⟩; replace BK101 := am (zw BK101.out hb); replace BK102 := am (zw BK102.out hb); replace HB := am (below_step (zb) hb); (try clear hb); (try clear hb2); (try clear hk); (try clear hi)))
              go_ret
              exact ⟨zf, zb⟩
            · replace c9 := Bool.eq_false_iff.mpr c9
              subst c9
              have H1 : (some false) = some r := by rw [if_neg (show ¬ (false = true) by decide)] at H; exact H
              clear H
              have H := H1
              clear H1
              obtain rfl := Option.some.inj H
              go_enter Tryz.func115, Tryz.ntmps115
              go_wp2_with (first | ((with_reducible refine gd_ 2 ?_); refine bx_ 2 #[.string a0_0, .int .i64 a0_1, .string a0_2, .bool a0_3, .int .i64 a0_4, .slice A0_5 l0_5.length c0_5, .slice A0_6 l0_6.length c0_6] 47 ?_; intro gb101 hg w20 hbox hb; have BK101 := am (hbox); have GW101 := am (zg : w.heap.size ≤ gb101); have GE101 := am (zg : w.heap.size ≤ gb101); replace HB := am (below_step (zb) hb); clear hb hbox hg) | ((with_reducible refine gd_ 3 ?_); refine bx_ 3 #[.string a1_0, .int .i64 a1_1, .string a1_2, .bool a1_3, .int .i64 a1_4, .slice A1_5 l1_5.length c1_5, .slice A1_6 l1_6.length c1_6] 47 ?_; intro gb102 hg w21 hbox hb; have BK102 := am (hbox); have GW102 := am (zg : w.heap.size ≤ gb102); have GE102 := am (zg : w.heap.size ≤ gb102); replace HB := am (below_step (zb) hb); have NB101_102 := am ((zn BK101.out : gb101 ≠ gb102)); have NB102_101 := am ((zm BK101.out : gb102 ≠ gb101)); replace BK101 := am (zw BK101.out hb); clear hb hbox hg; have hnb22 := NB101_102.out; have hnc22 := NB102_101.out; obtain ⟨hcz23_0, hcz23_1, hcz23_2, hcz23_3, hcz23_4, hcz23_5, hcz23_6, hfz23_0, hfz23_1, hfz23_2, hfz23_3, hfz23_4, hfz23_5, hfz23_6⟩ := cf7 BK101.out; obtain ⟨hcz24_0, hcz24_1, hcz24_2, hcz24_3, hcz24_4, hcz24_5, hcz24_6, hfz24_0, hfz24_1, hfz24_2, hfz24_3, hfz24_4, hfz24_5, hfz24_6⟩ := cf7 BK102.out) | (go_at_call 140; (with_reducible refine (model_SameSentries.calls k _ _ l0_5 _ _ l1_5 false _ ?side1 ?side2 ?side3 ?side4 A8.out).mono ?_); (case side1 => exact zc (Kd.C_below HR0_5.out HB.out)); (case side2 => exact HC0_5.out); (case side3 => exact zc (Kd.C_below HR1_5.out HB.out)); (case side4 => exact HC1_5.out); rintro e w25 ⟨rfl, hb⟩; replace BK101 := am (zw BK101.out hb); replace BK102 := am (zw BK102.out hb); replace HB := am (below_step (zb) hb); (try clear hb); (try clear hb2); (try clear hk); (try clear hi)))
              go_ret
              exact ⟨zf, zb⟩
          · rw [if_neg c7] at H
            have c7b0 : (a0_4 == a1_4) = false := beq_eq_false_iff_ne.mpr c7
            have c7b1 : (a0_4 != a1_4) = true := bne_iff_ne.mpr c7
            obtain rfl := Option.some.inj H
            go_enter Tryz.func115, Tryz.ntmps115
            go_wp2_with (first | ((with_reducible refine gd_ 2 ?_); refine bx_ 2 #[.string a0_0, .int .i64 a0_1, .string a0_2, .bool a0_3, .int .i64 a0_4, .slice A0_5 l0_5.length c0_5, .slice A0_6 l0_6.length c0_6] 47 ?_; intro gb101 hg w26 hbox hb; have BK101 := am (hbox); have GW101 := am (zg : w.heap.size ≤ gb101); have GE101 := am (zg : w.heap.size ≤ gb101); replace HB := am (below_step (zb) hb); clear hb hbox hg) | ((with_reducible refine gd_ 3 ?_); refine bx_ 3 #[.string a1_0, .int .i64 a1_1, .string a1_2, .bool a1_3, .int .i64 a1_4, .slice A1_5 l1_5.length c1_5, .slice A1_6 l1_6.length c1_6] 47 ?_; intro gb102 hg w27 hbox hb; have BK102 := am (hbox); have GW102 := am (zg : w.heap.size ≤ gb102); have GE102 := am (zg : w.heap.size ≤ gb102); replace HB := am (below_step (zb) hb); have NB101_102 := am ((zn BK101.out : gb101 ≠ gb102)); have NB102_101 := am ((zm BK101.out : gb102 ≠ gb101)); replace BK101 := am (zw BK101.out hb); clear hb hbox hg; have hnb28 := NB101_102.out; have hnc28 := NB102_101.out; obtain ⟨hcz29_0, hcz29_1, hcz29_2, hcz29_3, hcz29_4, hcz29_5, hcz29_6, hfz29_0, hfz29_1, hfz29_2, hfz29_3, hfz29_4, hfz29_5, hfz29_6⟩ := cf7 BK101.out; obtain ⟨hcz30_0, hcz30_1, hcz30_2, hcz30_3, hcz30_4, hcz30_5, hcz30_6, hfz30_0, hfz30_1, hfz30_2, hfz30_3, hfz30_4, hfz30_5, hfz30_6⟩ := cf7 BK102.out))
            go_ret
            exact ⟨zf, zb⟩
        · rw [if_neg c6] at H
          have c6b0 : (a0_3 == a1_3) = false := by simpa using c6
          (try (have c6b1 : decide (a0_3 = a1_3) = false := by simpa using c6))
          (try (have c6b2 : (a0_3 == a1_3) = false := by simpa using c6))
          (try (have c6b3 : ¬ (a0_3 = a1_3) := by simpa using c6))
          clear c6
          obtain rfl := Option.some.inj H
          go_enter Tryz.func115, Tryz.ntmps115
          go_wp2_with (first | ((with_reducible refine gd_ 2 ?_); refine bx_ 2 #[.string a0_0, .int .i64 a0_1, .string a0_2, .bool a0_3, .int .i64 a0_4, .slice A0_5 l0_5.length c0_5, .slice A0_6 l0_6.length c0_6] 47 ?_; intro gb101 hg w31 hbox hb; have BK101 := am (hbox); have GW101 := am (zg : w.heap.size ≤ gb101); have GE101 := am (zg : w.heap.size ≤ gb101); replace HB := am (below_step (zb) hb); clear hb hbox hg) | ((with_reducible refine gd_ 3 ?_); refine bx_ 3 #[.string a1_0, .int .i64 a1_1, .string a1_2, .bool a1_3, .int .i64 a1_4, .slice A1_5 l1_5.length c1_5, .slice A1_6 l1_6.length c1_6] 47 ?_; intro gb102 hg w32 hbox hb; have BK102 := am (hbox); have GW102 := am (zg : w.heap.size ≤ gb102); have GE102 := am (zg : w.heap.size ≤ gb102); replace HB := am (below_step (zb) hb); have NB101_102 := am ((zn BK101.out : gb101 ≠ gb102)); have NB102_101 := am ((zm BK101.out : gb102 ≠ gb101)); replace BK101 := am (zw BK101.out hb); clear hb hbox hg; have hnb33 := NB101_102.out; have hnc33 := NB102_101.out; obtain ⟨hcz34_0, hcz34_1, hcz34_2, hcz34_3, hcz34_4, hcz34_5, hcz34_6, hfz34_0, hfz34_1, hfz34_2, hfz34_3, hfz34_4, hfz34_5, hfz34_6⟩ := cf7 BK101.out; obtain ⟨hcz35_0, hcz35_1, hcz35_2, hcz35_3, hcz35_4, hcz35_5, hcz35_6, hfz35_0, hfz35_1, hfz35_2, hfz35_3, hfz35_4, hfz35_5, hfz35_6⟩ := cf7 BK102.out))
          go_ret
          exact ⟨zf, zb⟩
      · rw [if_neg c5] at H
        have c5b0 : (a0_2.toList == a1_2.toList) = false := beq_eq_false_iff_ne.mpr c5
        have c5b1 : (a0_2.toList != a1_2.toList) = true := bne_iff_ne.mpr c5
        obtain rfl := Option.some.inj H
        go_enter Tryz.func115, Tryz.ntmps115
        go_wp2_with (first | ((with_reducible refine gd_ 2 ?_); refine bx_ 2 #[.string a0_0, .int .i64 a0_1, .string a0_2, .bool a0_3, .int .i64 a0_4, .slice A0_5 l0_5.length c0_5, .slice A0_6 l0_6.length c0_6] 47 ?_; intro gb101 hg w36 hbox hb; have BK101 := am (hbox); have GW101 := am (zg : w.heap.size ≤ gb101); have GE101 := am (zg : w.heap.size ≤ gb101); replace HB := am (below_step (zb) hb); clear hb hbox hg) | ((with_reducible refine gd_ 3 ?_); refine bx_ 3 #[.string a1_0, .int .i64 a1_1, .string a1_2, .bool a1_3, .int .i64 a1_4, .slice A1_5 l1_5.length c1_5, .slice A1_6 l1_6.length c1_6] 47 ?_; intro gb102 hg w37 hbox hb; have BK102 := am (hbox); have GW102 := am (zg : w.heap.size ≤ gb102); have GE102 := am (zg : w.heap.size ≤ gb102); replace HB := am (below_step (zb) hb); have NB101_102 := am ((zn BK101.out : gb101 ≠ gb102)); have NB102_101 := am ((zm BK101.out : gb102 ≠ gb101)); replace BK101 := am (zw BK101.out hb); clear hb hbox hg; have hnb38 := NB101_102.out; have hnc38 := NB102_101.out; obtain ⟨hcz39_0, hcz39_1, hcz39_2, hcz39_3, hcz39_4, hcz39_5, hcz39_6, hfz39_0, hfz39_1, hfz39_2, hfz39_3, hfz39_4, hfz39_5, hfz39_6⟩ := cf7 BK101.out; obtain ⟨hcz40_0, hcz40_1, hcz40_2, hcz40_3, hcz40_4, hcz40_5, hcz40_6, hfz40_0, hfz40_1, hfz40_2, hfz40_3, hfz40_4, hfz40_5, hfz40_6⟩ := cf7 BK102.out))
        go_ret
        exact ⟨zf, zb⟩
    · rw [if_neg c4] at H
      have c4b0 : (a0_1 == a1_1) = false := beq_eq_false_iff_ne.mpr c4
      have c4b1 : (a0_1 != a1_1) = true := bne_iff_ne.mpr c4
      obtain rfl := Option.some.inj H
      go_enter Tryz.func115, Tryz.ntmps115
      go_wp2_with (first | ((with_reducible refine gd_ 2 ?_); refine bx_ 2 #[.string a0_0, .int .i64 a0_1, .string a0_2, .bool a0_3, .int .i64 a0_4, .slice A0_5 l0_5.length c0_5, .slice A0_6 l0_6.length c0_6] 47 ?_; intro gb101 hg w41 hbox hb; have BK101 := am (hbox); have GW101 := am (zg : w.heap.size ≤ gb101); have GE101 := am (zg : w.heap.size ≤ gb101); replace HB := am (below_step (zb) hb); clear hb hbox hg) | ((with_reducible refine gd_ 3 ?_); refine bx_ 3 #[.string a1_0, .int .i64 a1_1, .string a1_2, .bool a1_3, .int .i64 a1_4, .slice A1_5 l1_5.length c1_5, .slice A1_6 l1_6.length c1_6] 47 ?_; intro gb102 hg w42 hbox hb; have BK102 := am (hbox); have GW102 := am (zg : w.heap.size ≤ gb102); have GE102 := am (zg : w.heap.size ≤ gb102); replace HB := am (below_step (zb) hb); have NB101_102 := am ((zn BK101.out : gb101 ≠ gb102)); have NB102_101 := am ((zm BK101.out : gb102 ≠ gb101)); replace BK101 := am (zw BK101.out hb); clear hb hbox hg; have hnb43 := NB101_102.out; have hnc43 := NB102_101.out; obtain ⟨hcz44_0, hcz44_1, hcz44_2, hcz44_3, hcz44_4, hcz44_5, hcz44_6, hfz44_0, hfz44_1, hfz44_2, hfz44_3, hfz44_4, hfz44_5, hfz44_6⟩ := cf7 BK101.out; obtain ⟨hcz45_0, hcz45_1, hcz45_2, hcz45_3, hcz45_4, hcz45_5, hcz45_6, hfz45_0, hfz45_1, hfz45_2, hfz45_3, hfz45_4, hfz45_5, hfz45_6⟩ := cf7 BK102.out))
      go_ret
      exact ⟨zf, zb⟩
  · rw [if_neg c3] at H
    have c3b0 : (a0_0.toList == a1_0.toList) = false := beq_eq_false_iff_ne.mpr c3
    have c3b1 : (a0_0.toList != a1_0.toList) = true := bne_iff_ne.mpr c3
    obtain rfl := Option.some.inj H
    go_enter Tryz.func115, Tryz.ntmps115
    go_wp2_with (first | ((with_reducible refine gd_ 2 ?_); refine bx_ 2 #[.string a0_0, .int .i64 a0_1, .string a0_2, .bool a0_3, .int .i64 a0_4, .slice A0_5 l0_5.length c0_5, .slice A0_6 l0_6.length c0_6] 47 ?_; intro gb101 hg w46 hbox hb; have BK101 := am (hbox); have GW101 := am (zg : w.heap.size ≤ gb101); have GE101 := am (zg : w.heap.size ≤ gb101); replace HB := am (below_step (zb) hb); clear hb hbox hg) | ((with_reducible refine gd_ 3 ?_); refine bx_ 3 #[.string a1_0, .int .i64 a1_1, .string a1_2, .bool a1_3, .int .i64 a1_4, .slice A1_5 l1_5.length c1_5, .slice A1_6 l1_6.length c1_6] 47 ?_; intro gb102 hg w47 hbox hb; have BK102 := am (hbox); have GW102 := am (zg : w.heap.size ≤ gb102); have GE102 := am (zg : w.heap.size ≤ gb102); replace HB := am (below_step (zb) hb); have NB101_102 := am ((zn BK101.out : gb101 ≠ gb102)); have NB102_101 := am ((zm BK101.out : gb102 ≠ gb101)); replace BK101 := am (zw BK101.out hb); clear hb hbox hg; have hnb48 := NB101_102.out; have hnc48 := NB102_101.out; obtain ⟨hcz49_0, hcz49_1, hcz49_2, hcz49_3, hcz49_4, hcz49_5, hcz49_6, hfz49_0, hfz49_1, hfz49_2, hfz49_3, hfz49_4, hfz49_5, hfz49_6⟩ := cf7 BK101.out; obtain ⟨hcz50_0, hcz50_1, hcz50_2, hcz50_3, hcz50_4, hcz50_5, hcz50_6, hfz50_0, hfz50_1, hfz50_2, hfz50_3, hfz50_4, hfz50_5, hfz50_6⟩ := cf7 BK102.out))
    go_ret
    exact ⟨zf, zb⟩
end Go.Proofs.YtpbembafpnknhaaGreat.Pr
namespace Go.Proofs.YtpbembafpnknhaaGreat.Pr
open Go.RowKit Go.Proofs.YtpbembafpnknhaaGreatW.PrintWords Go.Proofs.YtpbembafpnknhaaGreatW.PrintLast Go.Proofs.YtpbembafpnknhaaGreatW.PrintMore
attribute [local go_sem] max2_int min2_int max_two min_two max_three min_three max_four min_four   -- for this text's walks alone
set_option linter.unusedVariables false
set_option linter.unusedSimpArgs false
def slices_EqualFunc_SameItem.l0 : Nat → List (S47) → List (S47) → Int → Int → Option (Bool)
  | 0, _, _, _, _ => none
  | k + 1, x1, x15, x16, x17 => if x17 < x16 then (if 0 ≤ x17 then (if x17 < (x15.length : Int) then (if x17 < (x1.length : Int) then ((model_SameItem.f k ((rd_T47 x15 x17).f0) ((rd_T47 x15 x17).f1) ((rd_T47 x15 x17).f2) ((rd_T47 x15 x17).f3) ((rd_T47 x15 x17).f4) ((rd_T47 x15 x17).f5) ((rd_T47 x15 x17).f6) ((rd_T47 x1 x17).f0) ((rd_T47 x1 x17).f1) ((rd_T47 x1 x17).f2) ((rd_T47 x1 x17).f3) ((rd_T47 x1 x17).f4) ((rd_T47 x1 x17).f5) ((rd_T47 x1 x17).f6)).bind fun t105 => (if t105 = true then (slices_EqualFunc_SameItem.l0 k x1 x15 x16 (wrap64 (x17 + 1))) else (some false))) else (none)) else (none)) else (none)) else (some true)
def slices_EqualFunc_SameItem.f (k : Nat) (l0 : List (S47)) (l1 : List (S47))  : Option (Bool) := if (l0.length : Int) = (l1.length : Int) then (slices_EqualFunc_SameItem.l0 k l1 l0 (l0.length : Int) 0) else (some false)
theorem slices_EqualFunc_SameItem.mono_l : ∀ k, (∀ y0 y1 y2 y3, LeO (slices_EqualFunc_SameItem.l0 k y0 y1 y2 y3) (slices_EqualFunc_SameItem.l0 (k + 1) y0 y1 y2 y3))
  | 0 => fun _ _ _ _ r h => by simp [slices_EqualFunc_SameItem.l0] at h
  | k + 1 => by
    have ih0 := slices_EqualFunc_SameItem.mono_l k
    · intro y0 y1 y2 y3
      unfold slices_EqualFunc_SameItem.l0
      repeat' first
      | (with_reducible exact ih0 _ _ _ _)
      | (with_reducible exact model_SameItem.mono _ _ _ _ _ _ _ _ _ _ _ _ _ _ _)
      | (with_reducible exact LeO.refl _)
      | (with_reducible exact LeO.none _)
      | (with_reducible refine LeO.ite ?_ ?_)
      | (with_reducible refine LeO.bind ?_ (fun _ => ?_))
      | exact ih0 _ _ _ _
      | exact model_SameItem.mono _ _ _ _ _ _ _ _ _ _ _ _ _ _ _
      | exact LeO.none _
      | refine LeO.ite ?_ ?_
      | refine LeO.bind ?_ (fun _ => ?_)
theorem slices_EqualFunc_SameItem.mono : ∀ a0 a1 k, LeO (slices_EqualFunc_SameItem.f k a0 a1) (slices_EqualFunc_SameItem.f (k + 1) a0 a1) := by
  intro a0 a1 k
  have ih0 := slices_EqualFunc_SameItem.mono_l k
  unfold slices_EqualFunc_SameItem.f
  repeat' first
      | (with_reducible exact ih0 _ _ _ _)
      | (with_reducible exact model_SameItem.mono _ _ _ _ _ _ _ _ _ _ _ _ _ _ _)
      | (with_reducible exact LeO.refl _)
      | (with_reducible exact LeO.none _)
      | (with_reducible refine LeO.ite ?_ ?_)
      | (with_reducible refine LeO.bind ?_ (fun _ => ?_))
      | exact ih0 _ _ _ _
      | exact model_SameItem.mono _ _ _ _ _ _ _ _ _ _ _ _ _ _ _
      | exact LeO.none _
      | refine LeO.ite ?_ ?_
      | refine LeO.bind ?_ (fun _ => ?_)
set_option maxHeartbeats 8000000 in
set_option maxRecDepth 100000 in
theorem slices_EqualFunc_SameItem.calls (k : Nat) (A0 : Option Addr) (c0 : Nat) (l0 : List (S47)) (A1 : Option Addr) (c1 : Nat) (l1 : List (S47))  (r : Bool) (w : World) (hr0 : Kd.C k47 w A0 l0.length l0) (hc0 : l0.length ≤ c0) (hr1 : Kd.C k47 w A1 l1.length l1) (hc1 : l1.length ≤ c1) (h : slices_EqualFunc_SameItem.f k l0 l1 = some r) :
    Calls Tryz.prog 114 #[.slice A0 l0.length c0, .slice A1 l1.length c1, (.func (.func 115) #[] #[])] w fun e w' => e = .returned (.bool r) ∧ Below w.heap.size w w' := by
  have hu47 := Tryz.underlying47
  have HR0 := am hr0
  have HC0 := am hc0
  clear hr0 hc0
  have HR1 := am hr1
  have HC1 := am hc1
  clear hr1 hc1
  have HB := am (Below.refl w.heap.size w)
  have H : (if (l0.length : Int) = (l1.length : Int) then (slices_EqualFunc_SameItem.l0 k l1 l0 (l0.length : Int) 0) else (some false)) = some r := h
  clear h
  by_cases c4 : (l0.length : Int) = (l1.length : Int)
  · rw [if_pos c4] at H
    have c4b0 : ((l0.length : Int) == (l1.length : Int)) = true := beq_iff_eq.mpr c4
    have c4b1 : ((l0.length : Int) != (l1.length : Int)) = false := bne_eq_false_iff_eq.mpr c4
    have c4b2 : (l0.length == l1.length) = true := by first | simpa using c4 | (simp at c4 ⊢; omega)
    clear c4
    have H' := am H
    clear H
    go_enter Tryz.func114, Tryz.ntmps114
    go_wp2
    go_loopg [17] k (fun kq v17 w' => ∃ (x17_1 : Int), v17 = .int .i64 x17_1 ∧ Aside0 (slices_EqualFunc_SameItem.l0 kq l1 l0 (l0.length : Int) x17_1 = some r) ∧ Aside0 (kq ≤ k) ∧ Aside0 (Below w.heap.size w w'))
    case atStart => exact ⟨(0), (ze), H', ⟨Nat.le_refl _⟩, ⟨zb⟩⟩
    case round =>
      clear H'
      try clear c1
      try clear p2
      try clear c3
      try clear c4
      try clear c4b0
      try clear c4b1
      try clear c4b2
      obtain ⟨x17_1, rfl, HA, HK1, HB⟩ := hrel
      cases gk with
      | zero => exact absurd HA.out (by simp [slices_EqualFunc_SameItem.l0])
      | succ k1 =>
        have H := HA.out
        clear HA
        simp only [slices_EqualFunc_SameItem.l0] at H
        by_cases c5 : x17_1 < (l0.length : Int)
        · rw [if_pos c5] at H
          have c5b0 : decide (x17_1 < (l0.length : Int)) = true := decide_eq_true c5
          clear c5
          by_cases c6 : 0 ≤ x17_1
          · rw [if_pos c6] at H
            have c6b0 : decide (0 ≤ x17_1) = true := decide_eq_true c6
            clear c6
            by_cases c7 : x17_1 < (l0.length : Int)
            · rw [if_pos c7] at H
              have c7b0 : decide (x17_1 < (l0.length : Int)) = true := decide_eq_true c7
              clear c7
              by_cases c8 : x17_1 < (l1.length : Int)
              · rw [if_pos c8] at H
                have c8b0 : decide (x17_1 < (l1.length : Int)) = true := decide_eq_true c8
                clear c8
                replace H := Option.bind_eq_some_iff.mp H
                obtain ⟨t105, A90, H⟩ := H
                replace H : (if t105 = true then (slices_EqualFunc_SameItem.l0 k1 l1 l0 (l0.length : Int) (wrap64 (x17_1 + 1))) else (some false)) = some r := H
                have A9 := am A90
                clear A90
                by_cases c10 : t105 = true
                · subst c10
                  have H1 : (slices_EqualFunc_SameItem.l0 k1 l1 l0 (l0.length : Int) (wrap64 (x17_1 + 1))) = some r := by rw [if_pos rfl] at H; exact H
                  clear H
                  have H := H1
                  clear H1
                  have H' := am H
                  clear H
                  have p101 : 0 ≤ (x17_1 : Int) := of_decide_eq_true (zas)
                  have q101 : x17_1 < (l0.length : Int) := of_decide_eq_true (zas)
                  obtain ⟨ad101, A101_5, c101_5, A101_6, c101_6, e101, hx101_0, hx101_1, hx101_2, hx101_3, hx101_4, hx101_5, hx101_6, hl101_5, hi101_5, hl101_6, hi101_6⟩ := at_T47 HR0.out x17_1 p101 q101
                  cases e101
                  replace hx101_0 := ba HB hx101_0
                  replace hx101_1 := ba HB hx101_1
                  replace hx101_2 := ba HB hx101_2
                  replace hx101_3 := ba HB hx101_3
                  replace hx101_4 := ba HB hx101_4
                  replace hx101_5 := ba HB hx101_5
                  replace hx101_6 := ba HB hx101_6
                  have HR101_5 := am hi101_5
                  have HC101_5 := am hl101_5
                  clear hi101_5 hl101_5
                  have HR101_6 := am hi101_6
                  have HC101_6 := am hl101_6
                  clear hi101_6 hl101_6
                  replace p101 := eq_true p101
                  replace q101 := eq_true q101
                  go_wp2_with (first | ((with_reducible refine gd_ 8 ?_); refine bx_ 8 #[.string (⟨#[]⟩ : ByteArray), .int .i64 0, .string (⟨#[]⟩ : ByteArray), .bool false, .int .i64 0, .slice none 0 0, .slice none 0 0] 47 ?_; intro gb102 hg w11 hbox hb; have BK102 := am (hbox); have GW102 := am (zg : w.heap.size ≤ gb102); have GE102 := am (zg : w.heap.size ≤ gb102); replace HB := am (below_step (zb) hb); clear hb hbox hg; obtain ⟨hcz12_0, hcz12_1, hcz12_2, hcz12_3, hcz12_4, hcz12_5, hcz12_6, hfz12_0, hfz12_1, hfz12_2, hfz12_3, hfz12_4, hfz12_5, hfz12_6⟩ := cf7 BK102.out; have p103 : 0 ≤ (x17_1 : Int) := of_decide_eq_true (zas); have q103 : x17_1 < (l1.length : Int) := of_decide_eq_true (zas); obtain ⟨ad103, A103_5, c103_5, A103_6, c103_6, e103, hx103_0, hx103_1, hx103_2, hx103_3, hx103_4, hx103_5, hx103_6, hl103_5, hi103_5, hl103_6, hi103_6⟩ := at_T47 HR1.out x17_1 p103 q103; cases e103; have hn103_0 : ad103.block ≠ gb102 := Nat.ne_of_lt (Nat.lt_of_lt_of_le (zy hx103_0) GW102.out); have hn103_1 : ad103.block ≠ gb102 := Nat.ne_of_lt (Nat.lt_of_lt_of_le (zy hx103_0) GW102.out); have hn103_2 : ad103.block ≠ gb102 := Nat.ne_of_lt (Nat.lt_of_lt_of_le (zy hx103_0) GW102.out); have hn103_3 : ad103.block ≠ gb102 := Nat.ne_of_lt (Nat.lt_of_lt_of_le (zy hx103_0) GW102.out); have hn103_4 : ad103.block ≠ gb102 := Nat.ne_of_lt (Nat.lt_of_lt_of_le (zy hx103_0) GW102.out); have hn103_5 : ad103.block ≠ gb102 := Nat.ne_of_lt (Nat.lt_of_lt_of_le (zy hx103_0) GW102.out); have hn103_6 : ad103.block ≠ gb102 := Nat.ne_of_lt (Nat.lt_of_lt_of_le (zy hx103_0) GW102.out); replace hx103_0 := ba HB hx103_0; replace hx103_1 := ba HB hx103_1; replace hx103_2 := ba HB hx103_2; replace hx103_3 := ba HB hx103_3; replace hx103_4 := ba HB hx103_4; replace hx103_5 := ba HB hx103_5; replace hx103_6 := ba HB hx103_6; have HR103_5 := am hi103_5; have HC103_5 := am hl103_5; clear hi103_5 hl103_5; have HR103_6 := am hi103_6; have HC103_6 := am hl103_6; clear hi103_6 hl103_6; replace hx103_0 := (cell_far (p := ⟨gb102, 0, none⟩) (zx hn103_0) (.string ((rd_T47 l0 x17_1).f0))).trans hx103_0; replace hx103_1 := (cell_far (p := ⟨gb102, 0, none⟩) (zx hn103_0) (.string ((rd_T47 l0 x17_1).f0))).trans hx103_1; replace hx103_2 := (cell_far (p := ⟨gb102, 0, none⟩) (zx hn103_0) (.string ((rd_T47 l0 x17_1).f0))).trans hx103_2; replace hx103_3 := (cell_far (p := ⟨gb102, 0, none⟩) (zx hn103_0) (.string ((rd_T47 l0 x17_1).f0))).trans hx103_3; replace hx103_4 := (cell_far (p := ⟨gb102, 0, none⟩) (zx hn103_0) (.string ((rd_T47 l0 x17_1).f0))).trans hx103_4; replace hx103_5 := (cell_far (p := ⟨gb102, 0, none⟩) (zx hn103_0) (.string ((rd_T47 l0 x17_1).f0))).trans hx103_5; replace hx103_6 := (cell_far (p := ⟨gb102, 0, none⟩) (zx hn103_0) (.string ((rd_T47 l0 x17_1).f0))).trans hx103_6; replace hx103_0 := (cell_far (p := ⟨gb102, 1, none⟩) (zx hn103_1) (.int .i64 ((rd_T47 l0 x17_1).f1))).trans hx103_0; replace hx103_1 := (cell_far (p := ⟨gb102, 1, none⟩) (zx hn103_1) (.int .i64 ((rd_T47 l0 x17_1).f1))).trans hx103_1; replace hx103_2 := (cell_far (p := ⟨gb102, 1, none⟩) (zx hn103_1) (.int .i64 ((rd_T47 l0 x17_1).f1))).trans hx103_2; replace hx103_3 := (cell_far (p := ⟨gb102, 1, none⟩) (zx hn103_1) (.int .i64 ((rd_T47 l0 x17_1).f1))).trans hx103_3; replace hx103_4 := (cell_far (p := ⟨gb102, 1, none⟩) (zx hn103_1) (.int .i64 ((rd_T47 l0 x17_1).f1))).trans hx103_4; replace hx103_5 := (cell_far (p := ⟨gb102, 1, none⟩) (zx hn103_1) (.int .i64 ((rd_T47 l0 x17_1).f1))).trans hx103_5; replace hx103_6 := (cell_far (p := ⟨gb102, 1, none⟩) (zx hn103_1) (.int .i64 ((rd_T47 l0 x17_1).f1))).trans hx103_6; replace hx103_0 := (cell_far (p := ⟨gb102, 2, none⟩) (zx hn103_2) (.string ((rd_T47 l0 x17_1).f2))).trans hx103_0; replace hx103_1 := (cell_far (p := ⟨gb102, 2, none⟩) (zx hn103_2) (.string ((rd_T47 l0 x17_1).f2))).trans hx103_1; replace hx103_2 := (cell_far (p := ⟨gb102, 2, none⟩) (zx hn103_2) (.string ((rd_T47 l0 x17_1).f2))).trans hx103_2; replace hx103_3 := (cell_far (p := ⟨gb102, 2, none⟩) (zx hn103_2) (.string ((rd_T47 l0 x17_1).f2))).trans hx103_3; replace hx103_4 := (cell_far (p := ⟨gb102, 2, none⟩) (zx hn103_2) (.string ((rd_T47 l0 x17_1).f2))).trans hx103_4; replace hx103_5 := (cell_far (p := ⟨gb102, 2, none⟩) (zx hn103_2) (.string ((rd_T47 l0 x17_1).f2))).trans hx103_5; replace hx103_6 := (cell_far (p := ⟨gb102, 2, none⟩) (zx hn103_2) (.string ((rd_T47 l0 x17_1).f2))).trans hx103_6; replace hx103_0 := (cell_far (p := ⟨gb102, 3, none⟩) (zx hn103_3) (.bool ((rd_T47 l0 x17_1).f3))).trans hx103_0; replace hx103_1 := (cell_far (p := ⟨gb102, 3, none⟩) (zx hn103_3) (.bool ((rd_T47 l0 x17_1).f3))).trans hx103_1; replace hx103_2 := (cell_far (p := ⟨gb102, 3, none⟩) (zx hn103_3) (.bool ((rd_T47 l0 x17_1).f3))).trans hx103_2; replace hx103_3 := (cell_far (p := ⟨gb102, 3, none⟩) (zx hn103_3) (.bool ((rd_T47 l0 x17_1).f3))).trans hx103_3; replace hx103_4 := (cell_far (p := ⟨gb102, 3, none⟩) (zx hn103_3) (.bool ((rd_T47 l0 x17_1).f3))).trans hx103_4; replace hx103_5 := (cell_far (p := ⟨gb102, 3, none⟩) (zx hn103_3) (.bool ((rd_T47 l0 x17_1).f3))).trans hx103_5; replace hx103_6 := (cell_far (p := ⟨gb102, 3, none⟩) (zx hn103_3) (.bool ((rd_T47 l0 x17_1).f3))).trans hx103_6; replace hx103_0 := (cell_far (p := ⟨gb102, 4, none⟩) (zx hn103_4) (.int .i64 ((rd_T47 l0 x17_1).f4))).trans hx103_0; replace hx103_1 := (cell_far (p := ⟨gb102, 4, none⟩) (zx hn103_4) (.int .i64 ((rd_T47 l0 x17_1).f4))).trans hx103_1; replace hx103_2 := (cell_far (p := ⟨gb102, 4, none⟩) (zx hn103_4) (.int .i64 ((rd_T47 l0 x17_1).f4))).trans hx103_2; replace hx103_3 := (cell_far (p := ⟨gb102, 4, none⟩) (zx hn103_4) (.int .i64 ((rd_T47 l0 x17_1).f4))).trans hx103_3; replace hx103_4 := (cell_far (p := ⟨gb102, 4, none⟩) (zx hn103_4) (.int .i64 ((rd_T47 l0 x17_1).f4))).trans hx103_4; replace hx103_5 := (cell_far (p := ⟨gb102, 4, none⟩) (zx hn103_4) (.int .i64 ((rd_T47 l0 x17_1).f4))).trans hx103_5; replace hx103_6 := (cell_far (p := ⟨gb102, 4, none⟩) (zx hn103_4) (.int .i64 ((rd_T47 l0 x17_1).f4))).trans hx103_6; replace hx103_0 := (cell_far (p := ⟨gb102, 5, none⟩) (zx hn103_5) (.slice A101_5 ((rd_T47 l0 x17_1).f5).length c101_5)).trans hx103_0; replace hx103_1 := (cell_far (p := ⟨gb102, 5, none⟩) (zx hn103_5) (.slice A101_5 ((rd_T47 l0 x17_1).f5).length c101_5)).trans hx103_1; replace hx103_2 := (cell_far (p := ⟨gb102, 5, none⟩) (zx hn103_5) (.slice A101_5 ((rd_T47 l0 x17_1).f5).length c101_5)).trans hx103_2; replace hx103_3 := (cell_far (p := ⟨gb102, 5, none⟩) (zx hn103_5) (.slice A101_5 ((rd_T47 l0 x17_1).f5).length c101_5)).trans hx103_3; replace hx103_4 := (cell_far (p := ⟨gb102, 5, none⟩) (zx hn103_5) (.slice A101_5 ((rd_T47 l0 x17_1).f5).length c101_5)).trans hx103_4; replace hx103_5 := (cell_far (p := ⟨gb102, 5, none⟩) (zx hn103_5) (.slice A101_5 ((rd_T47 l0 x17_1).f5).length c101_5)).trans hx103_5; replace hx103_6 := (cell_far (p := ⟨gb102, 5, none⟩) (zx hn103_5) (.slice A101_5 ((rd_T47 l0 x17_1).f5).length c101_5)).trans hx103_6; replace hx103_0 := (cell_far (p := ⟨gb102, 6, none⟩) (zx hn103_6) (.slice A101_6 ((rd_T47 l0 x17_1).f6).length c101_6)).trans hx103_0; replace hx103_1 := (cell_far (p := ⟨gb102, 6, none⟩) (zx hn103_6) (.slice A101_6 ((rd_T47 l0 x17_1).f6).length c101_6)).trans hx103_1; replace hx103_2 := (cell_far (p := ⟨gb102, 6, none⟩) (zx hn103_6) (.slice A101_6 ((rd_T47 l0 x17_1).f6).length c101_6)).trans hx103_2; replace hx103_3 := (cell_far (p := ⟨gb102, 6, none⟩) (zx hn103_6) (.slice A101_6 ((rd_T47 l0 x17_1).f6).length c101_6)).trans hx103_3; replace hx103_4 := (cell_far (p := ⟨gb102, 6, none⟩) (zx hn103_6) (.slice A101_6 ((rd_T47 l0 x17_1).f6).length c101_6)).trans hx103_4; replace hx103_5 := (cell_far (p := ⟨gb102, 6, none⟩) (zx hn103_6) (.slice A101_6 ((rd_T47 l0 x17_1).f6).length c101_6)).trans hx103_5; replace hx103_6 := (cell_far (p := ⟨gb102, 6, none⟩) (zx hn103_6) (.slice A101_6 ((rd_T47 l0 x17_1).f6).length c101_6)).trans hx103_6; clear hn103_0; clear hn103_1; clear hn103_2; clear hn103_3; clear hn103_4; clear hn103_5; clear hn103_6; replace p103 := eq_true p103; replace q103 := eq_true q103) | ((with_reducible refine gd_ 9 ?_); refine bx_ 9 #[.string (⟨#[]⟩ : ByteArray), .int .i64 0, .string (⟨#[]⟩ : ByteArray), .bool false, .int .i64 0, .slice none 0 0, .slice none 0 0] 47 ?_; intro gb104 hg w13 hbox hb; have BK104 := am (hbox); have GW104 := am (zg : w.heap.size ≤ gb104); have GE104 := am (zg : w.heap.size ≤ gb104); replace HB := am (below_step (zb) hb); have NB102_104 := am ((by rw [hg]; exact Nat.ne_of_lt (blk_lt (g := gb102) (o := .cells #[.string ((rd_T47 l0 x17_1).f0), .int .i64 ((rd_T47 l0 x17_1).f1), .string ((rd_T47 l0 x17_1).f2), .bool ((rd_T47 l0 x17_1).f3), .int .i64 ((rd_T47 l0 x17_1).f4), .slice A101_5 ((rd_T47 l0 x17_1).f5).length c101_5, .slice A101_6 ((rd_T47 l0 x17_1).f6).length c101_6] 47 (0, 0)) (by refine zl ?_; refine blk_put (cs := #[.string ((rd_T47 l0 x17_1).f0), .int .i64 ((rd_T47 l0 x17_1).f1), .string ((rd_T47 l0 x17_1).f2), .bool ((rd_T47 l0 x17_1).f3), .int .i64 ((rd_T47 l0 x17_1).f4), .slice A101_5 ((rd_T47 l0 x17_1).f5).length c101_5, .slice none 0 0]) ?_ 6 _ rfl; refine zl ?_; refine blk_put (cs := #[.string ((rd_T47 l0 x17_1).f0), .int .i64 ((rd_T47 l0 x17_1).f1), .string ((rd_T47 l0 x17_1).f2), .bool ((rd_T47 l0 x17_1).f3), .int .i64 ((rd_T47 l0 x17_1).f4), .slice none 0 0, .slice none 0 0]) ?_ 5 _ rfl; refine zl ?_; refine blk_put (cs := #[.string ((rd_T47 l0 x17_1).f0), .int .i64 ((rd_T47 l0 x17_1).f1), .string ((rd_T47 l0 x17_1).f2), .bool ((rd_T47 l0 x17_1).f3), .int .i64 0, .slice none 0 0, .slice none 0 0]) ?_ 4 _ rfl; refine zl ?_; refine blk_put (cs := #[.string ((rd_T47 l0 x17_1).f0), .int .i64 ((rd_T47 l0 x17_1).f1), .string ((rd_T47 l0 x17_1).f2), .bool false, .int .i64 0, .slice none 0 0, .slice none 0 0]) ?_ 3 _ rfl; refine zl ?_; refine blk_put (cs := #[.string ((rd_T47 l0 x17_1).f0), .int .i64 ((rd_T47 l0 x17_1).f1), .string (⟨#[]⟩ : ByteArray), .bool false, .int .i64 0, .slice none 0 0, .slice none 0 0]) ?_ 2 _ rfl; refine zl ?_; refine blk_put (cs := #[.string ((rd_T47 l0 x17_1).f0), .int .i64 0, .string (⟨#[]⟩ : ByteArray), .bool false, .int .i64 0, .slice none 0 0, .slice none 0 0]) ?_ 1 _ rfl; refine zl ?_; refine blk_put (cs := #[.string (⟨#[]⟩ : ByteArray), .int .i64 0, .string (⟨#[]⟩ : ByteArray), .bool false, .int .i64 0, .slice none 0 0, .slice none 0 0]) ?_ 0 _ rfl; refine zl ?_; exact BK102.out)) : gb102 ≠ gb104)); have NB104_102 := am ((by rw [hg]; exact Nat.ne_of_gt (blk_lt (g := gb102) (o := .cells #[.string ((rd_T47 l0 x17_1).f0), .int .i64 ((rd_T47 l0 x17_1).f1), .string ((rd_T47 l0 x17_1).f2), .bool ((rd_T47 l0 x17_1).f3), .int .i64 ((rd_T47 l0 x17_1).f4), .slice A101_5 ((rd_T47 l0 x17_1).f5).length c101_5, .slice A101_6 ((rd_T47 l0 x17_1).f6).length c101_6] 47 (0, 0)) (by refine zl ?_; refine blk_put (cs := #[.string ((rd_T47 l0 x17_1).f0), .int .i64 ((rd_T47 l0 x17_1).f1), .string ((rd_T47 l0 x17_1).f2), .bool ((rd_T47 l0 x17_1).f3), .int .i64 ((rd_T47 l0 x17_1).f4), .slice A101_5 ((rd_T47 l0 x17_1).f5).length c101_5, .slice none 0 0]) ?_ 6 _ rfl; refine zl ?_; refine blk_put (cs := #[.string ((rd_T47 l0 x17_1).f0), .int .i64 ((rd_T47 l0 x17_1).f1), .string ((rd_T47 l0 x17_1).f2), .bool ((rd_T47 l0 x17_1).f3), .int .i64 ((rd_T47 l0 x17_1).f4), .slice none 0 0, .slice none 0 0]) ?_ 5 _ rfl; refine zl ?_; refine blk_put (cs := #[.string ((rd_T47 l0 x17_1).f0), .int .i64 ((rd_T47 l0 x17_1).f1), .string ((rd_T47 l0 x17_1).f2), .bool ((rd_T47 l0 x17_1).f3), .int .i64 0, .slice none 0 0, .slice none 0 0]) ?_ 4 _ rfl; refine zl ?_; refine blk_put (cs := #[.string ((rd_T47 l0 x17_1).f0), .int .i64 ((rd_T47 l0 x17_1).f1), .string ((rd_T47 l0 x17_1).f2), .bool false, .int .i64 0, .slice none 0 0, .slice none 0 0]) ?_ 3 _ rfl; refine zl ?_; refine blk_put (cs := #[.string ((rd_T47 l0 x17_1).f0), .int .i64 ((rd_T47 l0 x17_1).f1), .string (⟨#[]⟩ : ByteArray), .bool false, .int .i64 0, .slice none 0 0, .slice none 0 0]) ?_ 2 _ rfl; refine zl ?_; refine blk_put (cs := #[.string ((rd_T47 l0 x17_1).f0), .int .i64 0, .string (⟨#[]⟩ : ByteArray), .bool false, .int .i64 0, .slice none 0 0, .slice none 0 0]) ?_ 1 _ rfl; refine zl ?_; refine blk_put (cs := #[.string (⟨#[]⟩ : ByteArray), .int .i64 0, .string (⟨#[]⟩ : ByteArray), .bool false, .int .i64 0, .slice none 0 0, .slice none 0 0]) ?_ 0 _ rfl; refine zl ?_; exact BK102.out)) : gb104 ≠ gb102)); replace BK102 := am (blk_below (g := gb102) (o := .cells #[.string ((rd_T47 l0 x17_1).f0), .int .i64 ((rd_T47 l0 x17_1).f1), .string ((rd_T47 l0 x17_1).f2), .bool ((rd_T47 l0 x17_1).f3), .int .i64 ((rd_T47 l0 x17_1).f4), .slice A101_5 ((rd_T47 l0 x17_1).f5).length c101_5, .slice A101_6 ((rd_T47 l0 x17_1).f6).length c101_6] 47 (0, 0)) (by refine zl ?_; refine blk_put (cs := #[.string ((rd_T47 l0 x17_1).f0), .int .i64 ((rd_T47 l0 x17_1).f1), .string ((rd_T47 l0 x17_1).f2), .bool ((rd_T47 l0 x17_1).f3), .int .i64 ((rd_T47 l0 x17_1).f4), .slice A101_5 ((rd_T47 l0 x17_1).f5).length c101_5, .slice none 0 0]) ?_ 6 _ rfl; refine zl ?_; refine blk_put (cs := #[.string ((rd_T47 l0 x17_1).f0), .int .i64 ((rd_T47 l0 x17_1).f1), .string ((rd_T47 l0 x17_1).f2), .bool ((rd_T47 l0 x17_1).f3), .int .i64 ((rd_T47 l0 x17_1).f4), .slice none 0 0, .slice none 0 0]) ?_ 5 _ rfl; refine zl ?_; refine blk_put (cs := #[.string ((rd_T47 l0 x17_1).f0), .int .i64 ((rd_T47 l0 x17_1).f1), .string ((rd_T47 l0 x17_1).f2), .bool ((rd_T47 l0 x17_1).f3), .int .i64 0, .slice none 0 0, .slice none 0 0]) ?_ 4 _ rfl; refine zl ?_; refine blk_put (cs := #[.string ((rd_T47 l0 x17_1).f0), .int .i64 ((rd_T47 l0 x17_1).f1), .string ((rd_T47 l0 x17_1).f2), .bool false, .int .i64 0, .slice none 0 0, .slice none 0 0]) ?_ 3 _ rfl; refine zl ?_; refine blk_put (cs := #[.string ((rd_T47 l0 x17_1).f0), .int .i64 ((rd_T47 l0 x17_1).f1), .string (⟨#[]⟩ : ByteArray), .bool false, .int .i64 0, .slice none 0 0, .slice none 0 0]) ?_ 2 _ rfl; refine zl ?_; refine blk_put (cs := #[.string ((rd_T47 l0 x17_1).f0), .int .i64 0, .string (⟨#[]⟩ : ByteArray), .bool false, .int .i64 0, .slice none 0 0, .slice none 0 0]) ?_ 1 _ rfl; refine zl ?_; refine blk_put (cs := #[.string (⟨#[]⟩ : ByteArray), .int .i64 0, .string (⟨#[]⟩ : ByteArray), .bool false, .int .i64 0, .slice none 0 0, .slice none 0 0]) ?_ 0 _ rfl; refine zl ?_; exact BK102.out) hb); clear hb hbox hg; have hnb14 := NB104_102.out; have hnc14 := NB102_104.out; obtain ⟨hcz15_0, hcz15_1, hcz15_2, hcz15_3, hcz15_4, hcz15_5, hcz15_6, hfz15_0, hfz15_1, hfz15_2, hfz15_3, hfz15_4, hfz15_5, hfz15_6⟩ := cf7 BK104.out; obtain ⟨hcz16_0, hcz16_1, hcz16_2, hcz16_3, hcz16_4, hcz16_5, hcz16_6, hfz16_0, hfz16_1, hfz16_2, hfz16_3, hfz16_4, hfz16_5, hfz16_6⟩ := cf7 BK102.out) | ((with_reducible refine gate_callee_d (f := 115) rfl ?_); refine goesLd_ (some 29) rfl rfl Tryz.func115 (by kernel_rfl) rfl #[.agg #[.string ((rd_T47 l0 x17_1).f0), .int .i64 ((rd_T47 l0 x17_1).f1), .string ((rd_T47 l0 x17_1).f2), .bool ((rd_T47 l0 x17_1).f3), .int .i64 ((rd_T47 l0 x17_1).f4), .slice A101_5 ((rd_T47 l0 x17_1).f5).length c101_5, .slice A101_6 ((rd_T47 l0 x17_1).f6).length c101_6], .agg #[.string ((rd_T47 l1 x17_1).f0), .int .i64 ((rd_T47 l1 x17_1).f1), .string ((rd_T47 l1 x17_1).f2), .bool ((rd_T47 l1 x17_1).f3), .int .i64 ((rd_T47 l1 x17_1).f4), .slice A103_5 ((rd_T47 l1 x17_1).f5).length c103_5, .slice A103_6 ((rd_T47 l1 x17_1).f6).length c103_6]] rfl (za) ?_; (with_reducible refine (model_SameItem.calls k1 ((rd_T47 l0 x17_1).f0) ((rd_T47 l0 x17_1).f1) ((rd_T47 l0 x17_1).f2) ((rd_T47 l0 x17_1).f3) ((rd_T47 l0 x17_1).f4) _ _ ((rd_T47 l0 x17_1).f5) _ _ ((rd_T47 l0 x17_1).f6) ((rd_T47 l1 x17_1).f0) ((rd_T47 l1 x17_1).f1) ((rd_T47 l1 x17_1).f2) ((rd_T47 l1 x17_1).f3) ((rd_T47 l1 x17_1).f4) _ _ ((rd_T47 l1 x17_1).f5) _ _ ((rd_T47 l1 x17_1).f6) true _ ?side1 ?side2 ?side3 ?side4 ?side5 ?side6 ?side7 ?side8 A9.out).mono ?_); (case side1 => exact Kd.C_below HR101_5.out (zb)); (case side2 => exact HC101_5.out); (case side3 => exact Kd.C_below HR101_6.out (zb)); (case side4 => exact HC101_6.out); (case side5 => exact Kd.C_below HR103_5.out (zb)); (case side6 => exact HC103_5.out); (case side7 => exact Kd.C_below HR103_6.out (zb)); (case side8 => exact HC103_6.out); rintro e w17 ⟨rfl, hb⟩; refine ⟨_, rfl, ?_⟩; replace BK102 := am (blk_below (g := gb102) (o := .cells #[.string ((rd_T47 l0 x17_1).f0), .int .i64 ((rd_T47 l0 x17_1).f1), .string ((rd_T47 l0 x17_1).f2), .bool ((rd_T47 l0 x17_1).f3), .int .i64 ((rd_T47 l0 x17_1).f4), .slice A101_5 ((rd_T47 l0 x17_1).f5).length c101_5, .slice A101_6 ((rd_T47 l0 x17_1).f6).length c101_6] 47 (0, 0)) (by refine zl ?_; refine blk_far ?_ NB102_104.out _; refine zl ?_; refine blk_far ?_ NB102_104.out _; refine zl ?_; refine blk_far ?_ NB102_104.out _; refine zl ?_; refine blk_far ?_ NB102_104.out _; refine zl ?_; refine blk_far ?_ NB102_104.out _; refine zl ?_; refine blk_far ?_ NB102_104.out _; refine zl ?_; refine blk_far ?_ NB102_104.out _; refine zl ?_; exact BK102.out) hb); replace BK104 := am (blk_below (g := gb104) (o := .cells #[.string ((rd_T47 l1 x17_1).f0), .int .i64 ((rd_T47 l1 x17_1).f1), .string ((rd_T47 l1 x17_1).f2), .bool ((rd_T47 l1 x17_1).f3), .int .i64 ((rd_T47 l1 x17_1).f4), .slice A103_5 ((rd_T47 l1 x17_1).f5).length c103_5, .slice A103_6 ((rd_T47 l1 x17_1).f6).length c103_6] 47 (0, 0)) (by refine zl ?_; refine blk_put (cs := #[.string ((rd_T47 l1 x17_1).f0), .int .i64 ((rd_T47 l1 x17_1).f1), .string ((rd_T47 l1 x17_1).f2), .bool ((rd_T47 l1 x17_1).f3), .int .i64 ((rd_T47 l1 x17_1).f4), .slice A103_5 ((rd_T47 l1 x17_1).f5).length c103_5, .slice none 0 0]) ?_ 6 _ rfl; refine zl ?_; refine blk_put (cs := #[.string ((rd_T47 l1 x17_1).f0), .int .i64 ((rd_T47 l1 x17_1).f1), .string ((rd_T47 l1 x17_1).f2), .bool ((rd_T47 l1 x17_1).f3), .int .i64 ((rd_T47 l1 x17_1).f4), .slice none 0 0, .slice none 0 0]) ?_ 5 _ rfl; refine zl ?_; refine blk_put (cs := #[.string ((rd_T47 l1 x17_1).f0), .int .i64 ((rd_T47 l1 x17_1).f1), .string ((rd_T47 l1 x17_1).f2), .bool ((rd_T47 l1 x17_1).f3), .int .i64 0, .slice none 0 0, .slice none 0 0]) ?_ 4 _ rfl; refine zl ?_; refine blk_put (cs := #[.string ((rd_T47 l1 x17_1).f0), .int .i64 ((rd_T47 l1 x17_1).f1), .string ((rd_T47 l1 x17_1).f2), .bool false, .int .i64 0, .slice none 0 0, .slice none 0 0]) ?_ 3 _ rfl; refine zl ?_; refine blk_put (cs := #[.string ((rd_T47 l1 x17_1).f0), .int .i64 ((rd_T47 l1 x17_1).f1), .string (⟨#[]⟩ : ByteArray), .bool false, .int .i64 0, .slice none 0 0, .slice none 0 0]) ?_ 2 _ rfl; refine zl ?_; refine blk_put (cs := #[.string ((rd_T47 l1 x17_1).f0), .int .i64 0, .string (⟨#[]⟩ : ByteArray), .bool false, .int .i64 0, .slice none 0 0, .slice none 0 0]) ?_ 1 _ rfl; refine zl ?_; refine blk_put (cs := #[.string (⟨#[]⟩ : ByteArray), .int .i64 0, .string (⟨#[]⟩ : ByteArray), .bool false, .int .i64 0, .slice none 0 0, .slice none 0 0]) ?_ 0 _ rfl; refine zl ?_; exact BK104.out) hb); replace HB := am (below_step (zb) hb); (try clear hb); (try clear hb2); (try clear hk); (try clear hi)))
                  go_roundg k1
                  case measure => have := HK1.out; omega
                  case rel => exact ⟨(wrap64 (x17_1 + 1)), (ze), H', ⟨by have := HK1.out; omega⟩, ⟨zb⟩⟩
                · replace c10 := Bool.eq_false_iff.mpr c10
                  subst c10
                  have H1 : (some false) = some r := by rw [if_neg (show ¬ (false = true) by decide)] at H; exact H
                  clear H
                  have H := H1
                  clear H1
                  obtain rfl := Option.some.inj H
                  have p101 : 0 ≤ (x17_1 : Int) := of_decide_eq_true (zas)
                  have q101 : x17_1 < (l0.length : Int) := of_decide_eq_true (zas)
                  obtain ⟨ad101, A101_5, c101_5, A101_6, c101_6, e101, hx101_0, hx101_1, hx101_2, hx101_3, hx101_4, hx101_5, hx101_6, hl101_5, hi101_5, hl101_6, hi101_6⟩ := at_T47 HR0.out x17_1 p101 q101
                  cases e101
                  replace hx101_0 := ba HB hx101_0
                  replace hx101_1 := ba HB hx101_1
                  replace hx101_2 := ba HB hx101_2
                  replace hx101_3 := ba HB hx101_3
                  replace hx101_4 := ba HB hx101_4
                  replace hx101_5 := ba HB hx101_5
                  replace hx101_6 := ba HB hx101_6
                  have HR101_5 := am hi101_5
                  have HC101_5 := am hl101_5
                  clear hi101_5 hl101_5
                  have HR101_6 := am hi101_6
                  have HC101_6 := am hl101_6
                  clear hi101_6 hl101_6
                  replace p101 := eq_true p101
                  replace q101 := eq_true q101
                  go_wp2_with (first | ((with_reducible refine gd_ 8 ?_); refine bx_ 8 #[.string (⟨#[]⟩ : ByteArray), .int .i64 0, .string (⟨#[]⟩ : ByteArray), .bool false, .int .i64 0, .slice none 0 0, .slice none 0 0] 47 ?_; intro gb102 hg w18 hbox hb; have BK102 := am (hbox); have GW102 := am (zg : w.heap.size ≤ gb102); have GE102 := am (zg : w.heap.size ≤ gb102); replace HB := am (below_step (zb) hb); clear hb hbox hg; obtain ⟨hcz19_0, hcz19_1, hcz19_2, hcz19_3, hcz19_4, hcz19_5, hcz19_6, hfz19_0, hfz19_1, hfz19_2, hfz19_3, hfz19_4, hfz19_5, hfz19_6⟩ := cf7 BK102.out; have p103 : 0 ≤ (x17_1 : Int) := of_decide_eq_true (zas); have q103 : x17_1 < (l1.length : Int) := of_decide_eq_true (zas); obtain ⟨ad103, A103_5, c103_5, A103_6, c103_6, e103, hx103_0, hx103_1, hx103_2, hx103_3, hx103_4, hx103_5, hx103_6, hl103_5, hi103_5, hl103_6, hi103_6⟩ := at_T47 HR1.out x17_1 p103 q103; cases e103; have hn103_0 : ad103.block ≠ gb102 := Nat.ne_of_lt (Nat.lt_of_lt_of_le (zy hx103_0) GW102.out); have hn103_1 : ad103.block ≠ gb102 := Nat.ne_of_lt (Nat.lt_of_lt_of_le (zy hx103_0) GW102.out); have hn103_2 : ad103.block ≠ gb102 := Nat.ne_of_lt (Nat.lt_of_lt_of_le (zy hx103_0) GW102.out); have hn103_3 : ad103.block ≠ gb102 := Nat.ne_of_lt (Nat.lt_of_lt_of_le (zy hx103_0) GW102.out); have hn103_4 : ad103.block ≠ gb102 := Nat.ne_of_lt (Nat.lt_of_lt_of_le (zy hx103_0) GW102.out); have hn103_5 : ad103.block ≠ gb102 := Nat.ne_of_lt (Nat.lt_of_lt_of_le (zy hx103_0) GW102.out); have hn103_6 : ad103.block ≠ gb102 := Nat.ne_of_lt (Nat.lt_of_lt_of_le (zy hx103_0) GW102.out); replace hx103_0 := ba HB hx103_0; replace hx103_1 := ba HB hx103_1; replace hx103_2 := ba HB hx103_2; replace hx103_3 := ba HB hx103_3; replace hx103_4 := ba HB hx103_4; replace hx103_5 := ba HB hx103_5; replace hx103_6 := ba HB hx103_6; have HR103_5 := am hi103_5; have HC103_5 := am hl103_5; clear hi103_5 hl103_5; have HR103_6 := am hi103_6; have HC103_6 := am hl103_6; clear hi103_6 hl103_6; replace hx103_0 := (cell_far (p := ⟨gb102, 0, none⟩) (zx hn103_0) (.string ((rd_T47 l0 x17_1).f0))).trans hx103_0; replace hx103_1 := (cell_far (p := ⟨gb102, 0, none⟩) (zx hn103_0) (.string ((rd_T47 l0 x17_1).f0))).trans hx103_1; replace hx103_2 := (cell_far (p := ⟨gb102, 0, none⟩) (zx hn103_0) (.string ((rd_T47 l0 x17_1).f0))).trans hx103_2; replace hx103_3 := (cell_far (p := ⟨gb102, 0, none⟩) (zx hn103_0) (.string ((rd_T47 l0 x17_1).f0))).trans hx103_3; replace hx103_4 := (cell_far (p := ⟨gb102, 0, none⟩) (zx hn103_0) (.string ((rd_T47 l0 x17_1).f0))).trans hx103_4; replace hx103_5 := (cell_far (p := ⟨gb102, 0, none⟩) (zx hn103_0) (.string ((rd_T47 l0 x17_1).f0))).trans hx103_5; replace hx103_6 := (cell_far (p := ⟨gb102, 0, none⟩) (zx hn103_0) (.string ((rd_T47 l0 x17_1).f0))).trans hx103_6; replace hx103_0 := (cell_far (p := ⟨gb102, 1, none⟩) (zx hn103_1) (.int .i64 ((rd_T47 l0 x17_1).f1))).trans hx103_0; replace hx103_1 := (cell_far (p := ⟨gb102, 1, none⟩) (zx hn103_1) (.int .i64 ((rd_T47 l0 x17_1).f1))).trans hx103_1; replace hx103_2 := (cell_far (p := ⟨gb102, 1, none⟩) (zx hn103_1) (.int .i64 ((rd_T47 l0 x17_1).f1))).trans hx103_2; replace hx103_3 := (cell_far (p := ⟨gb102, 1, none⟩) (zx hn103_1) (.int .i64 ((rd_T47 l0 x17_1).f1))).trans hx103_3; replace hx103_4 := (cell_far (p := ⟨gb102, 1, none⟩) (zx hn103_1) (.int .i64 ((rd_T47 l0 x17_1).f1))).trans hx103_4; replace hx103_5 := (cell_far (p := ⟨gb102, 1, none⟩) (zx hn103_1) (.int .i64 ((rd_T47 l0 x17_1).f1))).trans hx103_5; replace hx103_6 := (cell_far (p := ⟨gb102, 1, none⟩) (zx hn103_1) (.int .i64 ((rd_T47 l0 x17_1).f1))).trans hx103_6; replace hx103_0 := (cell_far (p := ⟨gb102, 2, none⟩) (zx hn103_2) (.string ((rd_T47 l0 x17_1).f2))).trans hx103_0; replace hx103_1 := (cell_far (p := ⟨gb102, 2, none⟩) (zx hn103_2) (.string ((rd_T47 l0 x17_1).f2))).trans hx103_1; replace hx103_2 := (cell_far (p := ⟨gb102, 2, none⟩) (zx hn103_2) (.string ((rd_T47 l0 x17_1).f2))).trans hx103_2; replace hx103_3 := (cell_far (p := ⟨gb102, 2, none⟩) (zx hn103_2) (.string ((rd_T47 l0 x17_1).f2))).trans hx103_3; replace hx103_4 := (cell_far (p := ⟨gb102, 2, none⟩) (zx hn103_2) (.string ((rd_T47 l0 x17_1).f2))).trans hx103_4; replace hx103_5 := (cell_far (p := ⟨gb102, 2, none⟩) (zx hn103_2) (.string ((rd_T47 l0 x17_1).f2))).trans hx103_5; replace hx103_6 := (cell_far (p := ⟨gb102, 2, none⟩) (zx hn103_2) (.string ((rd_T47 l0 x17_1).f2))).trans hx103_6; replace hx103_0 := (cell_far (p := ⟨gb102, 3, none⟩) (zx hn103_3) (.bool ((rd_T47 l0 x17_1).f3))).trans hx103_0; replace hx103_1 := (cell_far (p := ⟨gb102, 3, none⟩) (zx hn103_3) (.bool ((rd_T47 l0 x17_1).f3))).trans hx103_1; replace hx103_2 := (cell_far (p := ⟨gb102, 3, none⟩) (zx hn103_3) (.bool ((rd_T47 l0 x17_1).f3))).trans hx103_2; replace hx103_3 := (cell_far (p := ⟨gb102, 3, none⟩) (zx hn103_3) (.bool ((rd_T47 l0 x17_1).f3))).trans hx103_3; replace hx103_4 := (cell_far (p := ⟨gb102, 3, none⟩) (zx hn103_3) (.bool ((rd_T47 l0 x17_1).f3))).trans hx103_4; replace hx103_5 := (cell_far (p := ⟨gb102, 3, none⟩) (zx hn103_3) (.bool ((rd_T47 l0 x17_1).f3))).trans hx103_5; replace hx103_6 := (cell_far (p := ⟨gb102, 3, none⟩) (zx hn103_3) (.bool ((rd_T47 l0 x17_1).f3))).trans hx103_6; replace hx103_0 := (cell_far (p := ⟨gb102, 4, none⟩) (zx hn103_4) (.int .i64 ((rd_T47 l0 x17_1).f4))).trans hx103_0; replace hx103_1 := (cell_far (p := ⟨gb102, 4, none⟩) (zx hn103_4) (.int .i64 ((rd_T47 l0 x17_1).f4))).trans hx103_1; replace hx103_2 := (cell_far (p := ⟨gb102, 4, none⟩) (zx hn103_4) (.int .i64 ((rd_T47 l0 x17_1).f4))).trans hx103_2; replace hx103_3 := (cell_far (p := ⟨gb102, 4, none⟩) (zx hn103_4) (.int .i64 ((rd_T47 l0 x17_1).f4))).trans hx103_3; replace hx103_4 := (cell_far (p := ⟨gb102, 4, none⟩) (zx hn103_4) (.int .i64 ((rd_T47 l0 x17_1).f4))).trans hx103_4; replace hx103_5 := (cell_far (p := ⟨gb102, 4, none⟩) (zx hn103_4) (.int .i64 ((rd_T47 l0 x17_1).f4))).trans hx103_5; replace hx103_6 := (cell_far (p := ⟨gb102, 4, none⟩) (zx hn103_4) (.int .i64 ((rd_T47 l0 x17_1).f4))).trans hx103_6; replace hx103_0 := (cell_far (p := ⟨gb102, 5, none⟩) (zx hn103_5) (.slice A101_5 ((rd_T47 l0 x17_1).f5).length c101_5)).trans hx103_0; replace hx103_1 := (cell_far (p := ⟨gb102, 5, none⟩) (zx hn103_5) (.slice A101_5 ((rd_T47 l0 x17_1).f5).length c101_5)).trans hx103_1; replace hx103_2 := (cell_far (p := ⟨gb102, 5, none⟩) (zx hn103_5) (.slice A101_5 ((rd_T47 l0 x17_1).f5).length c101_5)).trans hx103_2; replace hx103_3 := (cell_far (p := ⟨gb102, 5, none⟩) (zx hn103_5) (.slice A101_5 ((rd_T47 l0 x17_1).f5).length c101_5)).trans hx103_3; replace hx103_4 := (cell_far (p := ⟨gb102, 5, none⟩) (zx hn103_5) (.slice A101_5 ((rd_T47 l0 x17_1).f5).length c101_5)).trans hx103_4; replace hx103_5 := (cell_far (p := ⟨gb102, 5, none⟩) (zx hn103_5) (.slice A101_5 ((rd_T47 l0 x17_1).f5).length c101_5)).trans hx103_5; replace hx103_6 := (cell_far (p := ⟨gb102, 5, none⟩) (zx hn103_5) (.slice A101_5 ((rd_T47 l0 x17_1).f5).length c101_5)).trans hx103_6; replace hx103_0 := (cell_far (p := ⟨gb102, 6, none⟩) (zx hn103_6) (.slice A101_6 ((rd_T47 l0 x17_1).f6).length c101_6)).trans hx103_0; replace hx103_1 := (cell_far (p := ⟨gb102, 6, none⟩) (zx hn103_6) (.slice A101_6 ((rd_T47 l0 x17_1).f6).length c101_6)).trans hx103_1; replace hx103_2 := (cell_far (p := ⟨gb102, 6, none⟩) (zx hn103_6) (.slice A101_6 ((rd_T47 l0 x17_1).f6).length c101_6)).trans hx103_2; replace hx103_3 := (cell_far (p := ⟨gb102, 6, none⟩) (zx hn103_6) (.slice A101_6 ((rd_T47 l0 x17_1).f6).length c101_6)).trans hx103_3; replace hx103_4 := (cell_far (p := ⟨gb102, 6, none⟩) (zx hn103_6) (.slice A101_6 ((rd_T47 l0 x17_1).f6).length c101_6)).trans hx103_4; replace hx103_5 := (cell_far (p := ⟨gb102, 6, none⟩) (zx hn103_6) (.slice A101_6 ((rd_T47 l0 x17_1).f6).length c101_6)).trans hx103_5; replace hx103_6 := (cell_far (p := ⟨gb102, 6, none⟩) (zx hn103_6) (.slice A101_6 ((rd_T47 l0 x17_1).f6).length c101_6)).trans hx103_6; clear hn103_0; clear hn103_1; clear hn103_2; clear hn103_3; clear hn103_4; clear hn103_5; clear hn103_6; replace p103 := eq_true p103; replace q103 := eq_true q103) | ((with_reducible refine gd_ 9 ?_); refine bx_ 9 #[.string (⟨#[]⟩ : ByteArray), .int .i64 0, .string (⟨#[]⟩ : ByteArray), .bool false, .int .i64 0, .slice none 0 0, .slice none 0 0] 47 ?_; intro gb104 hg w20 hbox hb; have BK104 := am (hbox); have GW104 := am (zg : w.heap.size ≤ gb104); have GE104 := am (zg : w.heap.size ≤ gb104); replace HB := am (below_step (zb) hb); have NB102_104 := am ((by rw [hg]; exact Nat.ne_of_lt (blk_lt (g := gb102) (o := .cells #[.string ((rd_T47 l0 x17_1).f0), .int .i64 ((rd_T47 l0 x17_1).f1), .string ((rd_T47 l0 x17_1).f2), .bool ((rd_T47 l0 x17_1).f3), .int .i64 ((rd_T47 l0 x17_1).f4), .slice A101_5 ((rd_T47 l0 x17_1).f5).length c101_5, .slice A101_6 ((rd_T47 l0 x17_1).f6).length c101_6] 47 (0, 0)) (by refine zl ?_; refine blk_put (cs := #[.string ((rd_T47 l0 x17_1).f0), .int .i64 ((rd_T47 l0 x17_1).f1), .string ((rd_T47 l0 x17_1).f2), .bool ((rd_T47 l0 x17_1).f3), .int .i64 ((rd_T47 l0 x17_1).f4), .slice A101_5 ((rd_T47 l0 x17_1).f5).length c101_5, .slice none 0 0]) ?_ 6 _ rfl; refine zl ?_; refine blk_put (cs := #[.string ((rd_T47 l0 x17_1).f0), .int .i64 ((rd_T47 l0 x17_1).f1), .string ((rd_T47 l0 x17_1).f2), .bool ((rd_T47 l0 x17_1).f3), .int .i64 ((rd_T47 l0 x17_1).f4), .slice none 0 0, .slice none 0 0]) ?_ 5 _ rfl; refine zl ?_; refine blk_put (cs := #[.string ((rd_T47 l0 x17_1).f0), .int .i64 ((rd_T47 l0 x17_1).f1), .string ((rd_T47 l0 x17_1).f2), .bool ((rd_T47 l0 x17_1).f3), .int .i64 0, .slice none 0 0, .slice none 0 0]) ?_ 4 _ rfl; refine zl ?_; refine blk_put (cs := #[.string ((rd_T47 l0 x17_1).f0), .int .i64 ((rd_T47 l0 x17_1).f1), .string ((rd_T47 l0 x17_1).f2), .bool false, .int .i64 0, .slice none 0 0, .slice none 0 0]) ?_ 3 _ rfl; refine zl ?_; refine blk_put (cs := #[.string ((rd_T47 l0 x17_1).f0), .int .i64 ((rd_T47 l0 x17_1).f1), .string (⟨#[]⟩ : ByteArray), .bool false, .int .i64 0, .slice none 0 0, .slice none 0 0]) ?_ 2 _ rfl; refine zl ?_; refine blk_put (cs := #[.string ((rd_T47 l0 x17_1).f0), .int .i64 0, .string (⟨#[]⟩ : ByteArray), .bool false, .int .i64 0, .slice none 0 0, .slice none 0 0]) ?_ 1 _ rfl; refine zl ?_; refine blk_put (cs := #[.string (⟨#[]⟩ : ByteArray), .int .i64 0, .string (⟨#[]⟩ : ByteArray), .bool false, .int .i64 0, .slice none 0 0, .slice none 0 0]) ?_ 0 _ rfl; refine zl ?_; exact BK102.out)) : gb102 ≠ gb104)); have NB104_102 := am ((by rw [hg]; exact Nat.ne_of_gt (blk_lt (g := gb102) (o := .cells #[.string ((rd_T47 l0 x17_1).f0), .int .i64 ((rd_T47 l0 x17_1).f1), .string ((rd_T47 l0 x17_1).f2), .bool ((rd_T47 l0 x17_1).f3), .int .i64 ((rd_T47 l0 x17_1).f4), .slice A101_5 ((rd_T47 l0 x17_1).f5).length c101_5, .slice A101_6 ((rd_T47 l0 x17_1).f6).length c101_6] 47 (0, 0)) (by refine zl ?_; refine blk_put (cs := #[.string ((rd_T47 l0 x17_1).f0), .int .i64 ((rd_T47 l0 x17_1).f1), .string ((rd_T47 l0 x17_1).f2), .bool ((rd_T47 l0 x17_1).f3), .int .i64 ((rd_T47 l0 x17_1).f4), .slice A101_5 ((rd_T47 l0 x17_1).f5).length c101_5, .slice none 0 0]) ?_ 6 _ rfl; refine zl ?_; refine blk_put (cs := #[.string ((rd_T47 l0 x17_1).f0), .int .i64 ((rd_T47 l0 x17_1).f1), .string ((rd_T47 l0 x17_1).f2), .bool ((rd_T47 l0 x17_1).f3), .int .i64 ((rd_T47 l0 x17_1).f4), .slice none 0 0, .slice none 0 0]) ?_ 5 _ rfl; refine zl ?_; refine blk_put (cs := #[.string ((rd_T47 l0 x17_1).f0), .int .i64 ((rd_T47 l0 x17_1).f1), .string ((rd_T47 l0 x17_1).f2), .bool ((rd_T47 l0 x17_1).f3), .int .i64 0, .slice none 0 0, .slice none 0 0]) ?_ 4 _ rfl; refine zl ?_; refine blk_put (cs := #[.string ((rd_T47 l0 x17_1).f0), .int .i64 ((rd_T47 l0 x17_1).f1), .string ((rd_T47 l0 x17_1).f2), .bool false, .int .i64 0, .slice none 0 0, .slice none 0 0]) ?_ 3 _ rfl; refine zl ?_; refine blk_put (cs := #[.string ((rd_T47 l0 x17_1).f0), .int .i64 ((rd_T47 l0 x17_1).f1), .string (⟨#[]⟩ : ByteArray), .bool false, .int .i64 0, .slice none 0 0, .slice none 0 0]) ?_ 2 _ rfl; refine zl ?_; refine blk_put (cs := #[.string ((rd_T47 l0 x17_1).f0), .int .i64 0, .string (⟨#[]⟩ : ByteArray), .bool false, .int .i64 0, .slice none 0 0, .slice none 0 0]) ?_ 1 _ rfl; refine zl ?_; refine blk_put (cs := #[.string (⟨#[]⟩ : ByteArray), .int .i64 0, .string (⟨#[]⟩ : ByteArray), .bool false, .int .i64 0, .slice none 0 0, .slice none 0 0]) ?_ 0 _ rfl; refine zl ?_; exact BK102.out)) : gb104 ≠ gb102)); replace BK102 := am (blk_below (g := gb102) (o := .cells #[.string ((rd_T47 l0 x17_1).f0), .int .i64 ((rd_T47 l0 x17_1).f1), .string ((rd_T47 l0 x17_1).f2), .bool ((rd_T47 l0 x17_1).f3), .int .i64 ((rd_T47 l0 x17_1).f4), .slice A101_5 ((rd_T47 l0 x17_1).f5).length c101_5, .slice A101_6 ((rd_T47 l0 x17_1).f6).length c101_6] 47 (0, 0)) (by refine zl ?_; refine blk_put (cs := #[.string ((rd_T47 l0 x17_1).f0), .int .i64 ((rd_T47 l0 x17_1).f1), .string ((rd_T47 l0 x17_1).f2), .bool ((rd_T47 l0 x17_1).f3), .int .i64 ((rd_T47 l0 x17_1).f4), .slice A101_5 ((rd_T47 l0 x17_1).f5).length c101_5, .slice none 0 0]) ?_ 6 _ rfl; refine zl ?_; refine blk_put (cs := #[.string ((rd_T47 l0 x17_1).f0), .int .i64 ((rd_T47 l0 x17_1).f1), .string ((rd_T47 l0 x17_1).f2), .bool ((rd_T47 l0 x17_1).f3), .int .i64 ((rd_T47 l0 x17_1).f4), .slice none 0 0, .slice none 0 0]) ?_ 5 _ rfl; refine zl ?_; refine blk_put (cs := #[.string ((rd_T47 l0 x17_1).f0), .int .i64 ((rd_T47 l0 x17_1).f1), .string ((rd_T47 l0 x17_1).f2), .bool ((rd_T47 l0 x17_1).f3), .int .i64 0, .slice none 0 0, .slice none 0 0]) ?_ 4 _ rfl; refine zl ?_; refine blk_put (cs := #[.string ((rd_T47 l0 x17_1).f0), .int .i64 ((rd_T47 l0 x17_1).f1), .string ((rd_T47 l0 x17_1).f2), .bool false, .int .i64 0, .slice none 0 0, .slice none 0 0]) ?_ 3 _ rfl; refine zl ?_; refine blk_put (cs := #[.string ((rd_T47 l0 x17_1).f0), .int .i64 ((rd_T47 l0 x17_1).f1), .string (⟨#[]⟩ : ByteArray), .bool false, .int .i64 0, .slice none 0 0, .slice none 0 0]) ?_ 2 _ rfl; refine zl ?_; refine blk_put (cs := #[.string ((rd_T47 l0 x17_1).f0), .int .i64 0, .string (⟨#[]⟩ : ByteArray), .bool false, .int .i64 0, .slice none 0 0, .slice none 0 0]) ?_ 1 _ rfl; refine zl ?_; refine blk_put (cs := #[.string (⟨#[]⟩ : ByteArray), .int .i64 0, .string (⟨#[]⟩ : ByteArray), .bool false, .int .i64 0, .slice none 0 0, .slice none 0 0]) ?_ 0 _ rfl; refine zl ?_; exact BK102.out) hb); clear hb hbox hg; have hnb21 := NB104_102.out; have hnc21 := NB102_104.out; obtain ⟨hcz22_0, hcz22_1, hcz22_2, hcz22_3, hcz22_4, hcz22_5, hcz22_6, hfz22_0, hfz22_1, hfz22_2, hfz22_3, hfz22_4, hfz22_5, hfz22_6⟩ := cf7 BK104.out; obtain ⟨hcz23_0, hcz23_1, hcz23_2, hcz23_3, hcz23_4, hcz23_5, hcz23_6, hfz23_0, hfz23_1, hfz23_2, hfz23_3, hfz23_4, hfz23_5, hfz23_6⟩ := cf7 BK102.out) | ((with_reducible refine gate_callee_d (f := 115) rfl ?_); refine goesLd_ (some 29) rfl rfl Tryz.func115 (by kernel_rfl) rfl #[.agg #[.string ((rd_T47 l0 x17_1).f0), .int .i64 ((rd_T47 l0 x17_1).f1), .string ((rd_T47 l0 x17_1).f2), .bool ((rd_T47 l0 x17_1).f3), .int .i64 ((rd_T47 l0 x17_1).f4), .slice A101_5 ((rd_T47 l0 x17_1).f5).length c101_5, .slice A101_6 ((rd_T47 l0 x17_1).f6).length c101_6], .agg #[.string ((rd_T47 l1 x17_1).f0), .int .i64 ((rd_T47 l1 x17_1).f1), .string ((rd_T47 l1 x17_1).f2), .bool ((rd_T47 l1 x17_1).f3), .int .i64 ((rd_T47 l1 x17_1).f4), .slice A103_5 ((rd_T47 l1 x17_1).f5).length c103_5, .slice A103_6 ((rd_T47 l1 x17_1).f6).length c103_6]] rfl (za) ?_; (with_reducible refine (model_SameItem.calls k1 ((rd_T47 l0 x17_1).f0) ((rd_T47 l0 x17_1).f1) ((rd_T47 l0 x17_1).f2) ((rd_T47 l0 x17_1).f3) ((rd_T47 l0 x17_1).f4) _ _ ((rd_T47 l0 x17_1).f5) _ _ ((rd_T47 l0 x17_1).f6) ((rd_T47 l1 x17_1).f0) ((rd_T47 l1 x17_1).f1) ((rd_T47 l1 x17_1).f2) ((rd_T47 l1 x17_1).f3) ((rd_T47 l1 x17_1).f4) _ _ ((rd_T47 l1 x17_1).f5) _ _ ((rd_T47 l1 x17_1).f6) false _ ?side1 ?side2 ?side3 ?side4 ?side5 ?side6 ?side7 ?side8 A9.out).mono ?_); (case side1 => exact Kd.C_below HR101_5.out (zb)); (case side2 => exact HC101_5.out); (case side3 => exact Kd.C_below HR101_6.out (zb)); (case side4 => exact HC101_6.out); (case side5 => exact Kd.C_below HR103_5.out (zb)); (case side6 => exact HC103_5.out); (case side7 => exact Kd.C_below HR103_6.out (zb)); (case side8 => exact HC103_6.out); rintro e w24 ⟨rfl, hb⟩; refine ⟨_, rfl, ?_⟩; replace BK102 := am (blk_below (g := gb102) (o := .cells #[.string ((rd_T47 l0 x17_1).f0), .int .i64 ((rd_T47 l0 x17_1).f1), .string ((rd_T47 l0 x17_1).f2), .bool ((rd_T47 l0 x17_1).f3), .int .i64 ((rd_T47 l0 x17_1).f4), .slice A101_5 ((rd_T47 l0 x17_1).f5).length c101_5, .slice A101_6 ((rd_T47 l0 x17_1).f6).length c101_6] 47 (0, 0)) (by refine zl ?_; refine blk_far ?_ NB102_104.out _; refine zl ?_; refine blk_far ?_ NB102_104.out _; refine zl ?_; refine blk_far ?_ NB102_104.out _; refine zl ?_; refine blk_far ?_ NB102_104.out _; refine zl ?_; refine blk_far ?_ NB102_104.out _; refine zl ?_; refine blk_far ?_ NB102_104.out _; refine zl ?_; refine blk_far ?_ NB102_104.out _; refine zl ?_; exact BK102.out) hb); replace BK104 := am (blk_below (g := gb104) (o := .cells #[.string ((rd_T47 l1 x17_1).f0), .int .i64 ((rd_T47 l1 x17_1).f1), .string ((rd_T47 l1 x17_1).f2), .bool ((rd_T47 l1 x17_1).f3), .int .i64 ((rd_T47 l1 x17_1).f4), .slice A103_5 ((rd_T47 l1 x17_1).f5).length c103_5, .slice A103_6 ((rd_T47 l1 x17_1).f6).length c103_6] 47 (0, 0)) (by refine zl ?_; refine blk_put (cs := #[.string ((rd_T47 l1 x17_1).f0), .int .i64 ((rd_T47 l1 x17_1).f1), .string ((rd_T47 l1 x17_1).f2), .bool ((rd_T47 l1 x17_1).f3), .int .i64 ((rd_T47 l1 x17_1).f4), .slice A103_5 ((rd_T47 l1 x17_1).f5).length c103_5, .slice none 0 0]) ?_ 6 _ rfl; refine zl ?_; refine blk_put (cs := #[.string ((rd_T47 l1 x17_1).f0), .int .i64 ((rd_T47 l1 x17_1).f1), .string ((rd_T47 l1 x17_1).f2), .bool ((rd_T47 l1 x17_1).f3), .int .i64 ((rd_T47 l1 x17_1).f4), .slice none 0 0, .slice none 0 0]) ?_ 5 _ rfl; refine zl ?_; refine blk_put (cs := #[.string ((rd_T47 l1 x17_1).f0), .int .i64 ((rd_T47 l1 x17_1).f1), .string ((rd_T47 l1 x17_1).f2), .bool ((rd_T47 l1 x17_1).f3), .int .i64 0, .slice none 0 0, .slice none 0 0]) ?_ 4 _ rfl; refine zl ?_; refine blk_put (cs := #[.string ((rd_T47 l1 x17_1).f0), .int .i64 ((rd_T47 l1 x17_1).f1), .string ((rd_T47 l1 x17_1).f2), .bool false, .int .i64 0, .slice none 0 0, .slice none 0 0]) ?_ 3 _ rfl; refine zl ?_; refine blk_put (cs := #[.string ((rd_T47 l1 x17_1).f0), .int .i64 ((rd_T47 l1 x17_1).f1), .string (⟨#[]⟩ : ByteArray), .bool false, .int .i64 0, .slice none 0 0, .slice none 0 0]) ?_ 2 _ rfl; refine zl ?_; refine blk_put (cs := #[.string ((rd_T47 l1 x17_1).f0), .int .i64 0, .string (⟨#[]⟩ : ByteArray), .bool false, .int .i64 0, .slice none 0 0, .slice none 0 0]) ?_ 1 _ rfl; refine zl ?_; refine blk_put (cs := #[.string (⟨#[]⟩ : ByteArray), .int .i64 0, .string (⟨#[]⟩ : ByteArray), .bool false, .int .i64 0, .slice none 0 0, .slice none 0 0]) ?_ 0 _ rfl; refine zl ?_; exact BK104.out) hb); replace HB := am (below_step (zb) hb); (try clear hb); (try clear hb2); (try clear hk); (try clear hi)))
                  go_ret
                  exact ⟨zf, zb⟩
              · rw [if_neg c8] at H
                exact absurd H (by simp)
            · rw [if_neg c7] at H
              exact absurd H (by simp)
          · rw [if_neg c6] at H
            exact absurd H (by simp)
        · rw [if_neg c5] at H
          have c5b0 : decide (x17_1 < (l0.length : Int)) = false := decide_eq_false c5
          clear c5
          obtain rfl := Option.some.inj H
          go_wp2
          go_ret
          exact ⟨zf, zb⟩
  · rw [if_neg c4] at H
    have c4b0 : ((l0.length : Int) == (l1.length : Int)) = false := beq_eq_false_iff_ne.mpr c4
    have c4b1 : ((l0.length : Int) != (l1.length : Int)) = true := bne_iff_ne.mpr c4
    have c4b2 : (l0.length == l1.length) = false := by first | simpa using c4 | (simp at c4 ⊢; omega)
    obtain rfl := Option.some.inj H
    go_enter Tryz.func114, Tryz.ntmps114
    go_wp2
    go_ret
    exact ⟨zf, zb⟩
end Go.Proofs.YtpbembafpnknhaaGreat.Pr
namespace Go.Proofs.YtpbembafpnknhaaGreat.Pr
open Go.RowKit Go.Proofs.YtpbembafpnknhaaGreatW.PrintWords Go.Proofs.YtpbembafpnknhaaGreatW.PrintLast Go.Proofs.YtpbembafpnknhaaGreatW.PrintMore
attribute [local go_sem] max2_int min2_int max_two min_two max_three min_three max_four min_four   -- for this text's walks alone
set_option linter.unusedVariables false
set_option linter.unusedSimpArgs false
def model_Same.f (k : Nat) (l0_0 : List ByteArray) (l0_1 : List (S47)) (l1_0 : List ByteArray) (l1_1 : List (S47)) : Option (Bool) := (slices_Equal_string_string.f k l0_0 l1_0).bind fun t103 => (if t103 = true then ((slices_EqualFunc_SameItem.f k l0_1 l1_1).bind fun t104 => (some t104)) else (some false))
theorem model_Same.mono : ∀ a0 a1 a2 a3 k, LeO (model_Same.f k a0 a1 a2 a3) (model_Same.f (k + 1) a0 a1 a2 a3) := by
  intro a0 a1 a2 a3 k
  unfold model_Same.f
  repeat' first
      | (with_reducible exact slices_EqualFunc_SameItem.mono _ _ _)
      | (with_reducible exact slices_Equal_string_string.mono _ _ _)
      | (with_reducible exact LeO.refl _)
      | (with_reducible exact LeO.none _)
      | (with_reducible refine LeO.ite ?_ ?_)
      | (with_reducible refine LeO.bind ?_ (fun _ => ?_))
      | exact slices_EqualFunc_SameItem.mono _ _ _
      | exact slices_Equal_string_string.mono _ _ _
      | exact LeO.none _
      | refine LeO.ite ?_ ?_
      | refine LeO.bind ?_ (fun _ => ?_)
set_option maxHeartbeats 8000000 in
set_option maxRecDepth 100000 in
theorem model_Same.calls (k : Nat) (A0_0 : Option Addr) (c0_0 : Nat) (l0_0 : List ByteArray) (A0_1 : Option Addr) (c0_1 : Nat) (l0_1 : List (S47)) (A1_0 : Option Addr) (c1_0 : Nat) (l1_0 : List ByteArray) (A1_1 : Option Addr) (c1_1 : Nat) (l1_1 : List (S47)) (r : Bool) (w : World) (hr0_0 : Kd.C Kd.string w A0_0 l0_0.length l0_0) (hc0_0 : l0_0.length ≤ c0_0) (hr0_1 : Kd.C k47 w A0_1 l0_1.length l0_1) (hc0_1 : l0_1.length ≤ c0_1) (hr1_0 : Kd.C Kd.string w A1_0 l1_0.length l1_0) (hc1_0 : l1_0.length ≤ c1_0) (hr1_1 : Kd.C k47 w A1_1 l1_1.length l1_1) (hc1_1 : l1_1.length ≤ c1_1) (h : model_Same.f k l0_0 l0_1 l1_0 l1_1 = some r) :
    Calls Tryz.prog 63 #[.agg #[.slice A0_0 l0_0.length c0_0, .slice A0_1 l0_1.length c0_1], .agg #[.slice A1_0 l1_0.length c1_0, .slice A1_1 l1_1.length c1_1]] w fun e w' => e = .returned (.bool r) ∧ Below w.heap.size w w' := by
  have hu25 := Tryz.underlying25
  have HR0_0 := am hr0_0
  have HC0_0 := am hc0_0
  clear hr0_0 hc0_0
  have HR0_1 := am hr0_1
  have HC0_1 := am hc0_1
  clear hr0_1 hc0_1
  have HR1_0 := am hr1_0
  have HC1_0 := am hc1_0
  clear hr1_0 hc1_0
  have HR1_1 := am hr1_1
  have HC1_1 := am hc1_1
  clear hr1_1 hc1_1
  have HB := am (Below.refl w.heap.size w)
  have H : ((slices_Equal_string_string.f k l0_0 l1_0).bind fun t103 => (if t103 = true then ((slices_EqualFunc_SameItem.f k l0_1 l1_1).bind fun t104 => (some t104)) else (some false))) = some r := h
  clear h
  replace H := Option.bind_eq_some_iff.mp H
  obtain ⟨t103, A30, H⟩ := H
  replace H : (if t103 = true then ((slices_EqualFunc_SameItem.f k l0_1 l1_1).bind fun t104 => (some t104)) else (some false)) = some r := H
  have A3 := am A30
  clear A30
  by_cases c4 : t103 = true
  · subst c4
    have H1 : ((slices_EqualFunc_SameItem.f k l0_1 l1_1).bind fun t104 => (some t104)) = some r := by rw [if_pos rfl] at H; exact H
    clear H
    have H := H1
    clear H1
    replace H := Option.bind_eq_some_iff.mp H
    obtain ⟨t104, A50, H⟩ := H
    replace H : (some t104) = some r := H
    have A5 := am A50
    clear A50
    obtain rfl := Option.some.inj H
    go_enter Tryz.func63, Tryz.ntmps63
    go_wp2_with (first | ((with_reducible refine gd_ 2 ?_); refine bx_ 2 #[.slice A0_0 l0_0.length c0_0, .slice A0_1 l0_1.length c0_1] 25 ?_; intro gb101 hg w6 hbox hb; have BK101 := am (hbox); have GW101 := am (zg : w.heap.size ≤ gb101); have GE101 := am (zg : w.heap.size ≤ gb101); replace HB := am (below_step (zb) hb); clear hb hbox hg) | ((with_reducible refine gd_ 3 ?_); refine bx_ 3 #[.slice A1_0 l1_0.length c1_0, .slice A1_1 l1_1.length c1_1] 25 ?_; intro gb102 hg w7 hbox hb; have BK102 := am (hbox); have GW102 := am (zg : w.heap.size ≤ gb102); have GE102 := am (zg : w.heap.size ≤ gb102); replace HB := am (below_step (zb) hb); have NB101_102 := am ((zn BK101.out : gb101 ≠ gb102)); have NB102_101 := am ((zm BK101.out : gb102 ≠ gb101)); replace BK101 := am (zw BK101.out hb); clear hb hbox hg; have hnb8 := NB101_102.out; have hnc8 := NB102_101.out; obtain ⟨hcz9_0, hcz9_1, hfz9_0, hfz9_1⟩ := cf2 BK101.out; obtain ⟨hcz10_0, hcz10_1, hfz10_0, hfz10_1⟩ := cf2 BK102.out) | ((with_reducible refine gc_ 113 ?_); refine goesL_ (some 9) rfl rfl Tryz.func113 (by kernel_rfl) rfl #[.slice A0_0 l0_0.length c0_0, .slice A1_0 l1_0.length c1_0] rfl (za) ?_; (with_reducible refine (slices_Equal_string_string.calls k _ _ l0_0 _ _ l1_0 true _ ?side1 ?side2 ?side3 ?side4 A3.out).mono ?_); (case side1 => exact zc (Kd.C_below HR0_0.out HB.out)); (case side2 => exact HC0_0.out); (case side3 => exact zc (Kd.C_below HR1_0.out HB.out)); (case side4 => exact HC1_0.out); rintro e w' ⟨rfl, ⟨nd, rfl⟩⟩; refine ⟨_, rfl, ?_⟩) | (go_at_call 114; (with_reducible refine (slices_EqualFunc_SameItem.calls k _ _ l0_1 _ _ l1_1 t104 _ ?side1 ?side2 ?side3 ?side4 A5.out).mono ?_); (case side1 => exact zc (Kd.C_below HR0_1.out (zb))); (case side2 => exact HC0_1.out); (case side3 => exact zc (Kd.C_below HR1_1.out (zb))); (case side4 => exact HC1_1.out); rintro e w11 ⟨rfl, hb⟩; replace BK101 := am (zw BK101.out hb); replace BK102 := am (zw BK102.out hb); replace HB := am (below_step (zb) hb); (try clear hb); (try clear hb2); (try clear hk); (try clear hi)))
    go_ret
    exact ⟨zf, zb⟩
  · replace c4 := Bool.eq_false_iff.mpr c4
    subst c4
    have H1 : (some false) = some r := by rw [if_neg (show ¬ (false = true) by decide)] at H; exact H
    clear H
    have H := H1
    clear H1
    obtain rfl := Option.some.inj H
    go_enter Tryz.func63, Tryz.ntmps63
    go_wp2_with (first | ((with_reducible refine gd_ 2 ?_); refine bx_ 2 #[.slice A0_0 l0_0.length c0_0, .slice A0_1 l0_1.length c0_1] 25 ?_; intro gb101 hg w12 hbox hb; have BK101 := am (hbox); have GW101 := am (zg : w.heap.size ≤ gb101); have GE101 := am (zg : w.heap.size ≤ gb101); replace HB := am (below_step (zb) hb); clear hb hbox hg) | ((with_reducible refine gd_ 3 ?_); refine bx_ 3 #[.slice A1_0 l1_0.length c1_0, .slice A1_1 l1_1.length c1_1] 25 ?_; intro gb102 hg w13 hbox hb; have BK102 := am (hbox); have GW102 := am (zg : w.heap.size ≤ gb102); have GE102 := am (zg : w.heap.size ≤ gb102); replace HB := am (below_step (zb) hb); have NB101_102 := am ((zn BK101.out : gb101 ≠ gb102)); have NB102_101 := am ((zm BK101.out : gb102 ≠ gb101)); replace BK101 := am (zw BK101.out hb); clear hb hbox hg; have hnb14 := NB101_102.out; have hnc14 := NB102_101.out; obtain ⟨hcz15_0, hcz15_1, hfz15_0, hfz15_1⟩ := cf2 BK101.out; obtain ⟨hcz16_0, hcz16_1, hfz16_0, hfz16_1⟩ := cf2 BK102.out) | ((with_reducible refine gc_ 113 ?_); refine goesL_ (some 9) rfl rfl Tryz.func113 (by kernel_rfl) rfl #[.slice A0_0 l0_0.length c0_0, .slice A1_0 l1_0.length c1_0] rfl (za) ?_; (with_reducible refine (slices_Equal_string_string.calls k _ _ l0_0 _ _ l1_0 false _ ?side1 ?side2 ?side3 ?side4 A3.out).mono ?_); (case side1 => exact zc (Kd.C_below HR0_0.out HB.out)); (case side2 => exact HC0_0.out); (case side3 => exact zc (Kd.C_below HR1_0.out HB.out)); (case side4 => exact HC1_0.out); rintro e w' ⟨rfl, ⟨nd, rfl⟩⟩; refine ⟨_, rfl, ?_⟩))
    go_ret
    exact ⟨zf, zb⟩
end Go.Proofs.YtpbembafpnknhaaGreat.Pr
namespace Go.Proofs.YtpbembafpnknhaaGreat.Pr
open Go.RowKit Go.Proofs.YtpbembafpnknhaaGreatW.PrintWords Go.Proofs.YtpbembafpnknhaaGreatW.PrintLast Go.Proofs.YtpbembafpnknhaaGreatW.PrintMore
attribute [local go_sem] max2_int min2_int max_two min_two max_three min_three max_four min_four   -- for this text's walks alone
set_option linter.unusedVariables false
set_option linter.unusedSimpArgs false
def norm_Is.f (k : Nat) (l0_0 : List ByteArray) (l0_1 : List (S47)) : Option (Bool) := (model_Is.f k l0_0 l0_1).bind fun t102 => (if t102 = true then ((norm_Normal.f k l0_0 l0_1).bind fun bt103 => ((model_Same.f k l0_0 l0_1 bt103.1 bt103.2).bind fun t109 => (some t109))) else (some false))
theorem norm_Is.mono : ∀ a0 a1 k, LeO (norm_Is.f k a0 a1) (norm_Is.f (k + 1) a0 a1) := by
  intro a0 a1 k
  unfold norm_Is.f
  repeat' first
      | (with_reducible exact model_Is.mono _ _ _)
      | (with_reducible exact model_Same.mono _ _ _ _ _)
      | (with_reducible exact norm_Normal.mono _ _ _)
      | (with_reducible exact LeO.refl _)
      | (with_reducible exact LeO.none _)
      | (with_reducible refine LeO.ite ?_ ?_)
      | (with_reducible refine LeO.bind ?_ (fun _ => ?_))
      | exact model_Is.mono _ _ _
      | exact model_Same.mono _ _ _ _ _
      | exact norm_Normal.mono _ _ _
      | exact LeO.none _
      | refine LeO.ite ?_ ?_
      | refine LeO.bind ?_ (fun _ => ?_)
def norm_Is.T1 : Bool × List (List Nat × List Nat) := (true, [([], []), ([0], [0]), ([1, 1], [1]), ([2], [2]), ([2], [2]), ([4, 2, 2], [2, 4]), ([3, 5, 5, 2], [2, 3, 5]), ([2, 6], [2, 6]), ([7, 6, 0, 1, 2, 3, 4, 5, 6, 7], [7])])
def norm_Is.B1 : List Nat := [0, 1, 3, 7, 7, 23, 63, 127, 255]
theorem norm_Is.tab1 : rtab .any (opsOf Tryz.f30 1) = norm_Is.T1 := by kernel_rfl
theorem norm_Is.bits1 : waitsOk norm_Is.T1.2 norm_Is.B1 = true := by kernel_rfl
set_option maxHeartbeats 8000000 in
set_option maxRecDepth 100000 in
theorem norm_Is.calls (k : Nat) (A0_0 : Option Addr) (c0_0 : Nat) (l0_0 : List ByteArray) (A0_1 : Option Addr) (c0_1 : Nat) (l0_1 : List (S47)) (r : Bool) (w : World) (hr0_0 : Kd.C Kd.string w A0_0 l0_0.length l0_0) (hc0_0 : l0_0.length ≤ c0_0) (hr0_1 : Kd.C k47 w A0_1 l0_1.length l0_1) (hc0_1 : l0_1.length ≤ c0_1) (h : norm_Is.f k l0_0 l0_1 = some r) :
    Calls Tryz.prog 30 #[.agg #[.slice A0_0 l0_0.length c0_0, .slice A0_1 l0_1.length c0_1]] w fun e w' => e = .returned (.bool r) ∧ Below w.heap.size w w' := by
  have hu25 := Tryz.underlying25
  have HR0_0 := am hr0_0
  have HC0_0 := am hc0_0
  clear hr0_0 hc0_0
  have HR0_1 := am hr0_1
  have HC0_1 := am hc0_1
  clear hr0_1 hc0_1
  have HB := am (Below.refl w.heap.size w)
  have H : ((model_Is.f k l0_0 l0_1).bind fun t102 => (if t102 = true then ((norm_Normal.f k l0_0 l0_1).bind fun bt103 => ((model_Same.f k l0_0 l0_1 bt103.1 bt103.2).bind fun t109 => (some t109))) else (some false))) = some r := h
  clear h
  replace H := Option.bind_eq_some_iff.mp H
  obtain ⟨t102, A20, H⟩ := H
  replace H : (if t102 = true then ((norm_Normal.f k l0_0 l0_1).bind fun bt103 => ((model_Same.f k l0_0 l0_1 bt103.1 bt103.2).bind fun t109 => (some t109))) else (some false)) = some r := H
  have A2 := am A20
  clear A20
  by_cases c3 : t102 = true
  · subst c3
    have H1 : ((norm_Normal.f k l0_0 l0_1).bind fun bt103 => ((model_Same.f k l0_0 l0_1 bt103.1 bt103.2).bind fun t109 => (some t109))) = some r := by rw [if_pos rfl] at H; exact H
    clear H
    have H := H1
    clear H1
    replace H := Option.bind_eq_some_iff.mp H
    obtain ⟨⟨t103, t106⟩, A40, H⟩ := H
    replace H : ((model_Same.f k l0_0 l0_1 t103 t106).bind fun t109 => (some t109)) = some r := H
    have A4 := am A40
    clear A40
    replace H := Option.bind_eq_some_iff.mp H
    obtain ⟨t109, A50, H⟩ := H
    replace H : (some t109) = some r := H
    have A5 := am A50
    clear A50
    obtain rfl := Option.some.inj H
    go_enter Tryz.func30, Tryz.ntmps30
    try go_wp2_with (first | ((with_reducible refine gd_ 1 ?_); refine bx_ 1 #[.slice A0_0 l0_0.length c0_0, .slice A0_1 l0_1.length c0_1] 25 ?_; intro gb101 hg w6 hbox hb; have BK101 := am (hbox); have GW101 := am (zg : w.heap.size ≤ gb101); have GE101 := am (zg : w.heap.size ≤ gb101); replace HB := am (below_step (zb) hb); clear hb hbox hg))
    replace BK101 := am (blk_drew BK101.out)
    replace HB := am (below_drew1 HB.out)
    refine start_ (n := 9) (S := fun w' => w'.cell? ⟨gb101, 0, none⟩ = some (.slice A0_0 l0_0.length c0_0) ∧ w'.cell? ⟨gb101, 1, none⟩ = some (.slice A0_1 l0_1.length c0_1)) (ds := []) #[false, false, false, false, false, false, false, false, false] (by kernel_rfl) rfl rfl ⟨(blk_cell BK101.out 0).trans rfl, (blk_cell BK101.out 1).trans rfl⟩ (fun hHeld => ?_); refine with_tabW norm_Is.tab1 norm_Is.bits1 (fun HT_ HW_ => ?_)
    generalize w6.drew = w7 at BK101 HB hHeld ⊢
    refine tz_ 0 3 9 1 ?_
    refine one_ (i := 1) (N := some 4) #[true, true, false, false, false, false, false, false, false] rfl rfl (one_of HT_.out (by kernel_rfl)) (by decide) (fun K hK => ?_)
    refine goes_ Tryz.func62 (by kernel_rfl) rfl #[.agg #[.slice A0_0 l0_0.length c0_0, .slice A0_1 l0_1.length c0_1]] (by rfl) rfl rfl (za) ?_
    with_reducible refine (model_Is.calls k _ _ l0_0 _ _ l0_1 true _ ?side1 ?side2 ?side3 ?side4 A2.out).mono ?_
    (case side1 => exact zc (Kd.C_below HR0_0.out HB.out))
    (case side2 => exact HC0_0.out)
    (case side3 => exact zc (Kd.C_below HR0_1.out HB.out))
    (case side4 => exact HC0_1.out)
    rintro e w8 ⟨rfl, hb⟩
    refine ⟨_, rfl, ?_⟩
    replace BK101 := am (zw BK101.out hb)
    replace HB := am (below_step (zb) hb)
    (try clear hb)
    (try clear hb2)
    (try clear hk)
    (try clear hi)
    refine hK.out _ _ ⟨(blk_cell BK101.out 0).trans rfl, (blk_cell BK101.out 1).trans rfl⟩ (fun hHeld => ?_)
    clear hK K
    refine nz_ 4 ?_
    refine pz_ 2 5 9 7 ?_
    refine tz_ 3 6 9 15 ?_
    refine tz_ 4 7 9 31 ?_
    refine one_ (i := 5) (N := some 8) #[true, true, true, true, true, true, false, false, false] rfl rfl (one_of HT_.out (by kernel_rfl)) (by decide) (fun K hK => ?_)
    refine goes_ Tryz.func36 (by kernel_rfl) rfl #[.agg #[.slice A0_0 l0_0.length c0_0, .slice A0_1 l0_1.length c0_1]] (by rfl) rfl rfl (za) ?_
    with_reducible refine (norm_Normal.calls k _ _ l0_0 _ _ l0_1 t103 t106 _ ?side1 ?side2 ?side3 ?side4 A4.out).mono ?_
    (case side1 => exact zc (Kd.C_below HR0_0.out HB.out))
    (case side2 => exact HC0_0.out)
    (case side3 => exact zc (Kd.C_below HR0_1.out HB.out))
    (case side4 => exact HC0_1.out)
    rintro e w9 ⟨v104, v107, rfl, ho0, ho1, hb⟩
    refine ⟨_, rfl, ?_⟩
    have HO105 := am (Kd.R_lower (Kd.R_mono (ok' := fun k_ => True) ho0 (fun _ hk_ => trivial)) (below_size (zb)))
    have HO108 := am (Kd.N_lower (Kd.N_mono (ok' := fun k_ => some k_ ≠ (v104 : Value).ownBlock ∧ k_ ≠ gb101) ho1 (fun k_ hk_ => ⟨hk_.2, (Kd.freshB (g := gb101) (o := .cells #[.slice A0_0 l0_0.length c0_0, .slice A0_1 l0_1.length c0_1] 25 (0, 0)) (zl BK101.out) k_ hk_.1)⟩)) (below_size (zb)))
    replace BK101 := am (zw BK101.out hb)
    replace HB := am (below_step (zb) hb)
    (try clear hb)
    (try clear hb2)
    (try clear hk)
    (try clear hi)
    (try clear ho0)
    (try clear ho1)
    obtain ⟨Ao10, co10, eo10⟩ := Kd.R_slice HO105.out
    (first | subst eo10 | (injection eo10 with f1_ f2_ f3_; have f4_ := f1_.symm; have f5_ := f3_.symm; clear f1_ f2_ f3_; subst f4_; subst f5_))
    obtain ⟨Ao11, co11, eo11⟩ := Kd.N_slice HO108.out
    (first | subst eo11 | (injection eo11 with f1_ f2_ f3_; have f4_ := f1_.symm; have f5_ := f3_.symm; clear f1_ f2_ f3_; subst f4_; subst f5_))
    refine hK.out _ _ ⟨(blk_cell BK101.out 0).trans rfl, (blk_cell BK101.out 1).trans rfl⟩ (fun hHeld => ?_)
    clear hK K
    refine nz_ 8 ?_
    refine one_ (i := 6) (N := some 9) #[true, true, true, true, true, true, true, false, false] rfl rfl (one_of HT_.out (by kernel_rfl)) (by decide) (fun K hK => ?_)
    refine goes_ Tryz.func63 (by kernel_rfl) rfl #[.agg #[.slice A0_0 l0_0.length c0_0, .slice A0_1 l0_1.length c0_1], .agg #[.slice Ao10 t103.length co10, .slice Ao11 t106.length co11]] (by rfl) rfl rfl (za) ?_
    with_reducible refine (model_Same.calls k _ _ l0_0 _ _ l0_1 _ _ t103 _ _ t106 t109 _ ?side1 ?side2 ?side3 ?side4 ?side5 ?side6 ?side7 ?side8 A5.out).mono ?_
    (case side1 => exact zc (Kd.C_below HR0_0.out HB.out))
    (case side2 => exact HC0_0.out)
    (case side3 => exact zc (Kd.C_below HR0_1.out HB.out))
    (case side4 => exact HC0_1.out)
    (case side5 => exact zc (Kd.R_reads' HO105.out).2.2)
    (case side6 => exact (Kd.R_reads' HO105.out).2.1)
    (case side7 => exact zc (Kd.N_reads' HO108.out).2.2)
    (case side8 => exact (Kd.N_reads' HO108.out).2.1)
    rintro e w12 ⟨rfl, hb⟩
    refine ⟨_, rfl, ?_⟩
    replace HO105 := am (Kd.R_below (zR HO105.out) hb)
    replace HO108 := am (Kd.N_below (zN HO108.out) hb)
    replace BK101 := am (zw BK101.out hb)
    replace HB := am (below_step (zb) hb)
    (try clear hb)
    (try clear hb2)
    (try clear hk)
    (try clear hi)
    refine hK.out _ _ ⟨(blk_cell BK101.out 0).trans rfl, (blk_cell BK101.out 1).trans rfl⟩ (fun hHeld => ?_)
    clear hK K
    refine nz_ 9 ?_
    refine pz_ 7 10 9 255 ?_
    refine pz_ 8 2 9 511 ?_
    refine done_ (done_of HT_.out (by kernel_rfl)) ?_
    try go_wp2
    go_ret
    exact ⟨zf, zb⟩
  · replace c3 := Bool.eq_false_iff.mpr c3
    subst c3
    have H1 : (some false) = some r := by rw [if_neg (show ¬ (false = true) by decide)] at H; exact H
    clear H
    have H := H1
    clear H1
    obtain rfl := Option.some.inj H
    go_enter Tryz.func30, Tryz.ntmps30
    try go_wp2_with (first | ((with_reducible refine gd_ 1 ?_); refine bx_ 1 #[.slice A0_0 l0_0.length c0_0, .slice A0_1 l0_1.length c0_1] 25 ?_; intro gb101 hg w13 hbox hb; have BK101 := am (hbox); have GW101 := am (zg : w.heap.size ≤ gb101); have GE101 := am (zg : w.heap.size ≤ gb101); replace HB := am (below_step (zb) hb); clear hb hbox hg))
    replace BK101 := am (blk_drew BK101.out)
    replace HB := am (below_drew1 HB.out)
    refine start_ (n := 9) (S := fun w' => w'.cell? ⟨gb101, 0, none⟩ = some (.slice A0_0 l0_0.length c0_0) ∧ w'.cell? ⟨gb101, 1, none⟩ = some (.slice A0_1 l0_1.length c0_1)) (ds := []) #[false, false, false, false, false, false, false, false, false] (by kernel_rfl) rfl rfl ⟨(blk_cell BK101.out 0).trans rfl, (blk_cell BK101.out 1).trans rfl⟩ (fun hHeld => ?_); refine with_tabW norm_Is.tab1 norm_Is.bits1 (fun HT_ HW_ => ?_)
    generalize w13.drew = w14 at BK101 HB hHeld ⊢
    refine tz_ 0 3 9 1 ?_
    refine one_ (i := 1) (N := some 4) #[true, true, false, false, false, false, false, false, false] rfl rfl (one_of HT_.out (by kernel_rfl)) (by decide) (fun K hK => ?_)
    refine goes_ Tryz.func62 (by kernel_rfl) rfl #[.agg #[.slice A0_0 l0_0.length c0_0, .slice A0_1 l0_1.length c0_1]] (by rfl) rfl rfl (za) ?_
    with_reducible refine (model_Is.calls k _ _ l0_0 _ _ l0_1 false _ ?side1 ?side2 ?side3 ?side4 A2.out).mono ?_
    (case side1 => exact zc (Kd.C_below HR0_0.out HB.out))
    (case side2 => exact HC0_0.out)
    (case side3 => exact zc (Kd.C_below HR0_1.out HB.out))
    (case side4 => exact HC0_1.out)
    rintro e w15 ⟨rfl, hb⟩
    refine ⟨_, rfl, ?_⟩
    replace BK101 := am (zw BK101.out hb)
    replace HB := am (below_step (zb) hb)
    (try clear hb)
    (try clear hb2)
    (try clear hk)
    (try clear hi)
    refine hK.out _ _ ⟨(blk_cell BK101.out 0).trans rfl, (blk_cell BK101.out 1).trans rfl⟩ (fun hHeld => ?_)
    clear hK K
    refine nz_ 4 ?_
    refine pz_ 2 5 9 7 ?_
    refine pu_ 3 6 9 15 ?_
    refine pu_ 4 7 9 31 ?_
    refine pu_ 5 8 9 63 ?_
    refine pu_ 6 9 9 127 ?_
    refine pz_ 7 10 9 255 ?_
    refine pz_ 8 2 9 511 ?_
    refine done_ (done_of HT_.out (by kernel_rfl)) ?_
    try go_wp2
    go_ret
    exact ⟨zf, zb⟩
end Go.Proofs.YtpbembafpnknhaaGreat.Pr
