/- Proof texts of one seat, in one file: the walks of functions and the lemmas under them, printed by programs and typed by hand. Put together by wip/bundle.py. -/
import Derived.Test.YtpbembafpnknhaaGreatRows
import Derived.ArgAppend
import Derived.Below
import Derived.BigQuiet
import Derived.ChangeArms
import Derived.ChangeOld
import Derived.ChangeSlices
import Derived.Deep.AppendLies
import Derived.Deep.CutBlock
import Derived.Deep.DeepCutAuto
import Derived.Deep.Draws
import Derived.Deep.LoopGhost
import Derived.Deep.OwnRows
import Derived.Deep.QuietTactic
import Derived.Deep.RegionHeld3
import Derived.Deep.RegionLawGrows
import Derived.Deep.Upon
import Derived.Ground.Names2Prog
import Derived.Ground.SlgfProg
import Derived.Ground.SlgnProg
import Derived.Ground.SlsfProg
import Derived.JoinedOf
import Derived.KernelRfl
import Derived.Laws.BitsLemmas
import Derived.Laws.BytesArg
import Derived.Laws.IdiomCopy
import Derived.Laws.MakeOwn
import Derived.Laws.OwnMore
import Derived.Laws.Rows
import Derived.Laws.Slices
import Derived.Laws.StructEq
import Derived.Lib.AppendStr
import Derived.Lib.ConvBytes
import Derived.Lib.Hide
import Derived.Maps.AppendAt
import Derived.OpenShut
import Derived.OrdersHeld
import Derived.OwnWalk
import Derived.ProofKit
import Derived.RowKit
import Derived.RowKit3
import Derived.Shelf.GgSortFunc.InsertionK
import Derived.Shelf.SlGeneric
import Derived.Shelf.SlSortCmp.NoneTotal
import Derived.Shelf.Slices.In.SortNone
import Derived.Shelf.SlicesE.Clone
import Derived.Shelf.SlicesQ.IndexFunc
import Derived.Shelf.Sort.Plain
import Derived.ShutString
import Derived.SizedLaws
import Derived.Sort.Grow
import Derived.Sort.Walk0
import Derived.StillTailTactics
import Derived.Tactics
import Derived.WalkKit
import Derived.WalkSpells
import Derived.WideLaws
import Derived.Test.YtpbembafpnknhaaGreatBNormOrders0
import Derived.Test.YtpbembafpnknhaaGreatBNormOrders1
import Derived.Test.YtpbembafpnknhaaGreatBNormOrders2
import Derived.Test.YtpbembafpnknhaaGreatBNormOrders3
namespace Go.Proofs.YtpbembafpnknhaaGreat.Pr
open Go.RowKit Go.Proofs.YtpbembafpnknhaaGreatW.PrintWords Go.Proofs.YtpbembafpnknhaaGreatW.PrintLast Go.Proofs.YtpbembafpnknhaaGreatW.PrintMore
attribute [local go_sem] max2_int min2_int max_two min_two max_three min_three max_four min_four   -- for this text's walks alone
set_option linter.unusedVariables false
set_option linter.unusedSimpArgs false
def model_isItem.j0 : Nat → Bool → ByteArray → Int → ByteArray → Bool → Int → List (S29) → List (S29) → Option (Bool)
  | 0, _, _, _, _, _, _, _, _ => none
  | k + 1, x29, x103000, x103001, x103002, x103003, x103004, x103005, x103006 => if x29 = true then (some false) else (if x103001 = 5 then (if x103001 = 4 then (if x103004 ≥ 1 then (if x103004 ≤ 100 then (if x103003 = true then (some (!true)) else (some (!(decide ((x103005.length : Int) > 0))))) else (some false)) else (some false)) else (if x103004 ≥ 1 then (if x103004 ≤ 100 then (if x103003 = true then (some (!true)) else (some (!(decide ((x103005.length : Int) > 0))))) else (some false)) else (some false))) else (if x103001 = 4 then (if x103004 ≥ 0 then (if x103004 ≤ 0 then (if x103003 = true then (some (!true)) else (some (!(decide ((x103005.length : Int) > 0))))) else (some false)) else (some false)) else (if x103004 ≥ 0 then (if x103004 ≤ 0 then (some (!false)) else (some false)) else (some false))))
def model_isItem.f (k : Nat) (l0_0 : List ByteArray) (l0_1 : List (S47)) (a1_0 : ByteArray) (a1_1 : Int) (a1_2 : ByteArray) (a1_3 : Bool) (a1_4 : Int) (l1_5 : List (S29)) (l1_6 : List (S29)) : Option (Bool) := if a1_1 < 1 then (model_isItem.j0 k true a1_0 a1_1 a1_2 a1_3 a1_4 l1_5 l1_6) else (if a1_1 > 5 then (model_isItem.j0 k true a1_0 a1_1 a1_2 a1_3 a1_4 l1_5 l1_6) else ((model_areSentries.f k l0_0 l0_1 l1_5).bind fun t103 => (if t103 = true then ((model_areSentries.f k l0_0 l0_1 l1_6).bind fun t104 => (model_isItem.j0 k (!t104) a1_0 a1_1 a1_2 a1_3 a1_4 l1_5 l1_6)) else (model_isItem.j0 k true a1_0 a1_1 a1_2 a1_3 a1_4 l1_5 l1_6))))
theorem model_isItem.mono_l : ∀ k, (∀ y0 y1 y2 y3 y4 y5 y6 y7, LeO (model_isItem.j0 k y0 y1 y2 y3 y4 y5 y6 y7) (model_isItem.j0 (k + 1) y0 y1 y2 y3 y4 y5 y6 y7))
  | 0 => fun _ _ _ _ _ _ _ _ r h => by simp [model_isItem.j0] at h
  | k + 1 => by
    have ih0 := model_isItem.mono_l k
    · intro y0 y1 y2 y3 y4 y5 y6 y7
      unfold model_isItem.j0
      repeat' first
      | (with_reducible exact ih0 _ _ _ _ _ _ _ _)
      | (with_reducible exact model_areSentries.mono _ _ _ _)
      | (with_reducible exact LeO.refl _)
      | (with_reducible exact LeO.none _)
      | (with_reducible refine LeO.ite ?_ ?_)
      | (with_reducible refine LeO.bind ?_ (fun _ => ?_))
      | exact ih0 _ _ _ _ _ _ _ _
      | exact model_areSentries.mono _ _ _ _
      | exact LeO.none _
      | refine LeO.ite ?_ ?_
      | refine LeO.bind ?_ (fun _ => ?_)
theorem model_isItem.mono : ∀ a0 a1 a2 a3 a4 a5 a6 a7 a8 k, LeO (model_isItem.f k a0 a1 a2 a3 a4 a5 a6 a7 a8) (model_isItem.f (k + 1) a0 a1 a2 a3 a4 a5 a6 a7 a8) := by
  intro a0 a1 a2 a3 a4 a5 a6 a7 a8 k
  have ih0 := model_isItem.mono_l k
  unfold model_isItem.f
  repeat' first
      | (with_reducible exact ih0 _ _ _ _ _ _ _ _)
      | (with_reducible exact model_areSentries.mono _ _ _ _)
      | (with_reducible exact LeO.refl _)
      | (with_reducible exact LeO.none _)
      | (with_reducible refine LeO.ite ?_ ?_)
      | (with_reducible refine LeO.bind ?_ (fun _ => ?_))
      | exact ih0 _ _ _ _ _ _ _ _
      | exact model_areSentries.mono _ _ _ _
      | exact LeO.none _
      | refine LeO.ite ?_ ?_
      | refine LeO.bind ?_ (fun _ => ?_)
set_option maxHeartbeats 8000000 in
set_option maxRecDepth 100000 in
theorem model_isItem.calls (k : Nat) (A0_0 : Option Addr) (c0_0 : Nat) (l0_0 : List ByteArray) (A0_1 : Option Addr) (c0_1 : Nat) (l0_1 : List (S47)) (a1_0 : ByteArray) (a1_1 : Int) (a1_2 : ByteArray) (a1_3 : Bool) (a1_4 : Int) (A1_5 : Option Addr) (c1_5 : Nat) (l1_5 : List (S29)) (A1_6 : Option Addr) (c1_6 : Nat) (l1_6 : List (S29)) (r : Bool) (w : World) (hr0_0 : Kd.C Kd.string w A0_0 l0_0.length l0_0) (hc0_0 : l0_0.length ≤ c0_0) (hr0_1 : Kd.C k47 w A0_1 l0_1.length l0_1) (hc0_1 : l0_1.length ≤ c0_1) (hr1_5 : Kd.C k29 w A1_5 l1_5.length l1_5) (hc1_5 : l1_5.length ≤ c1_5) (hr1_6 : Kd.C k29 w A1_6 l1_6.length l1_6) (hc1_6 : l1_6.length ≤ c1_6) (h : model_isItem.f k l0_0 l0_1 a1_0 a1_1 a1_2 a1_3 a1_4 l1_5 l1_6 = some r) :
    Calls Tryz.prog 112 #[.agg #[.slice A0_0 l0_0.length c0_0, .slice A0_1 l0_1.length c0_1], .agg #[.string a1_0, .int .i64 a1_1, .string a1_2, .bool a1_3, .int .i64 a1_4, .slice A1_5 l1_5.length c1_5, .slice A1_6 l1_6.length c1_6]] w fun e w' => e = .returned (.bool r) ∧ Below w.heap.size w w' := by
  have hu25 := Tryz.underlying25
  have hu47 := Tryz.underlying47
  have HR0_0 := am hr0_0
  have HC0_0 := am hc0_0
  clear hr0_0 hc0_0
  have HR0_1 := am hr0_1
  have HC0_1 := am hc0_1
  clear hr0_1 hc0_1
  have HR1_5 := am hr1_5
  have HC1_5 := am hc1_5
  clear hr1_5 hc1_5
  have HR1_6 := am hr1_6
  have HC1_6 := am hc1_6
  clear hr1_6 hc1_6
  have HB := am (Below.refl w.heap.size w)
  have H : (if a1_1 < 1 then (model_isItem.j0 k true a1_0 a1_1 a1_2 a1_3 a1_4 l1_5 l1_6) else (if a1_1 > 5 then (model_isItem.j0 k true a1_0 a1_1 a1_2 a1_3 a1_4 l1_5 l1_6) else ((model_areSentries.f k l0_0 l0_1 l1_5).bind fun t103 => (if t103 = true then ((model_areSentries.f k l0_0 l0_1 l1_6).bind fun t104 => (model_isItem.j0 k (!t104) a1_0 a1_1 a1_2 a1_3 a1_4 l1_5 l1_6)) else (model_isItem.j0 k true a1_0 a1_1 a1_2 a1_3 a1_4 l1_5 l1_6))))) = some r := h
  clear h
  have HC3 := am H
  clear H
  go_enter Tryz.func112, Tryz.ntmps112
  go_upto_region 1 with (first | ((with_reducible refine gd_ 2 ?_); (try (refine gate_guard (by rfl) ?_; dsimp only)); refine bx_ 2 #[.slice A0_0 l0_0.length c0_0, .slice A0_1 l0_1.length c0_1] 25 ?_; intro gb101 hg w4 hbox hb; have BK101 := am (hbox); have GW101 := am (zg : w.heap.size ≤ gb101); have GE101 := am (zg : w.heap.size ≤ gb101); replace HB := am (below_step (zb) hb); clear hb hbox hg) | ((with_reducible refine gd_ 3 ?_); (try (refine gate_guard (by rfl) ?_; dsimp only)); refine bx_ 3 #[.string a1_0, .int .i64 a1_1, .string a1_2, .bool a1_3, .int .i64 a1_4, .slice A1_5 l1_5.length c1_5, .slice A1_6 l1_6.length c1_6] 47 ?_; intro gb102 hg w5 hbox hb; have BK102 := am (hbox); have GW102 := am (zg : w.heap.size ≤ gb102); have GE102 := am (zg : w.heap.size ≤ gb102); replace HB := am (below_step (zb) hb); have NB101_102 := am ((zn BK101.out : gb101 ≠ gb102)); have NB102_101 := am ((zm BK101.out : gb102 ≠ gb101)); replace BK101 := am (zw BK101.out hb); clear hb hbox hg))
  (try simp only [Act.put, List.setIfInBounds_toArray, List.set_cons_zero, List.set_cons_succ])
  go_cut [29] (fun v29 wc => ∃ (kq : Nat) (x29_2 : Bool), v29 = .bool x29_2 ∧ Aside0 (model_isItem.j0 kq x29_2 a1_0 a1_1 a1_2 a1_3 a1_4 l1_5 l1_6 = some r) ∧ Aside0 (kq ≤ k) ∧ Aside0 (wc.heap[gb101]? = some (.cells #[(.slice A0_0 l0_0.length c0_0), (.slice A0_1 l0_1.length c0_1)] 25 (0, 0))) ∧ Aside0 (wc.heap[gb102]? = some (.cells #[.string a1_0, .int .i64 a1_1, .string a1_2, .bool a1_3, .int .i64 a1_4, (.slice A1_5 l1_5.length c1_5), (.slice A1_6 l1_6.length c1_6)] 47 (0, 0))) ∧ Aside0 (Below w.heap.size w wc))
  case first =>
    have H := HC3.out
    clear HC3
    by_cases c6 : a1_1 < 1
    · rw [if_pos c6] at H
      have c6b0 : decide (a1_1 < 1) = true := decide_eq_true c6
      clear c6
      (first | rw [c6b0] | (simp only [i64_w, i32_w]; rw [c6b0]) | skip)
      have H' := am H
      clear H
      have hnb7 := NB102_101.out
      have hnc7 := NB101_102.out
      obtain ⟨hcz8_0, hcz8_1, hcz8_2, hcz8_3, hcz8_4, hcz8_5, hcz8_6, hfz8_0, hfz8_1, hfz8_2, hfz8_3, hfz8_4, hfz8_5, hfz8_6⟩ := cf7 BK102.out
      go_wp2
      go_meet
      case rel => exact ⟨_, (true), (ze), H', ⟨by first | omega | exact Nat.le_refl _⟩, ⟨zl BK101.out⟩, ⟨zl BK102.out⟩, ⟨zb⟩⟩
    · rw [if_neg c6] at H
      have c6b0 : decide (a1_1 < 1) = false := decide_eq_false c6
      clear c6
      (first | rw [c6b0] | (simp only [i64_w, i32_w]; rw [c6b0]) | skip)
      by_cases c9 : a1_1 > 5
      · rw [if_pos c9] at H
        have c9b0 : decide (5 < a1_1) = true := decide_eq_true c9
        clear c9
        have H' := am H
        clear H
        have hnb10 := NB102_101.out
        have hnc10 := NB101_102.out
        obtain ⟨hcz11_0, hcz11_1, hcz11_2, hcz11_3, hcz11_4, hcz11_5, hcz11_6, hfz11_0, hfz11_1, hfz11_2, hfz11_3, hfz11_4, hfz11_5, hfz11_6⟩ := cf7 BK102.out
        go_wp2
        go_meet
        case rel => exact ⟨_, (true), (ze), H', ⟨by first | omega | exact Nat.le_refl _⟩, ⟨zl BK101.out⟩, ⟨zl BK102.out⟩, ⟨zb⟩⟩
      · rw [if_neg c9] at H
        have c9b0 : decide (5 < a1_1) = false := decide_eq_false c9
        clear c9
        replace H := Option.bind_eq_some_iff.mp H
        obtain ⟨t103, A120, H⟩ := H
        replace H : (if t103 = true then ((model_areSentries.f k l0_0 l0_1 l1_6).bind fun t104 => (model_isItem.j0 k (!t104) a1_0 a1_1 a1_2 a1_3 a1_4 l1_5 l1_6)) else (model_isItem.j0 k true a1_0 a1_1 a1_2 a1_3 a1_4 l1_5 l1_6)) = some r := H
        have A12 := am A120
        clear A120
        by_cases c13 : t103 = true
        · subst c13
          have H1 : ((model_areSentries.f k l0_0 l0_1 l1_6).bind fun t104 => (model_isItem.j0 k (!t104) a1_0 a1_1 a1_2 a1_3 a1_4 l1_5 l1_6)) = some r := by rw [if_pos rfl] at H; exact H
          clear H
          have H := H1
          clear H1
          replace H := Option.bind_eq_some_iff.mp H
          obtain ⟨t104, A140, H⟩ := H
          replace H : (model_isItem.j0 k (!t104) a1_0 a1_1 a1_2 a1_3 a1_4 l1_5 l1_6) = some r := H
          have A14 := am A140
          clear A140
          have H' := am H
          clear H
          have hnb15 := NB102_101.out
          have hnc15 := NB101_102.out
          obtain ⟨hcz16_0, hcz16_1, hcz16_2, hcz16_3, hcz16_4, hcz16_5, hcz16_6, hfz16_0, hfz16_1, hfz16_2, hfz16_3, hfz16_4, hfz16_5, hfz16_6⟩ := cf7 BK102.out
          obtain ⟨hcz17_0, hcz17_1, hfz17_0, hfz17_1⟩ := cf2 BK101.out
          go_wp2_with (first | (go_at_call 158; (with_reducible refine (model_areSentries.calls k _ _ l0_0 _ _ l0_1 _ _ l1_5 true _ ?side1 ?side2 ?side3 ?side4 ?side5 ?side6 A12.out).mono ?_); (case side1 => exact zc (Kd.C_below HR0_0.out HB.out)); (case side2 => exact HC0_0.out); (case side3 => exact zc (Kd.C_below HR0_1.out HB.out)); (case side4 => exact HC0_1.out); (case side5 => exact zc (Kd.C_below HR1_5.out HB.out)); (case side6 => exact HC1_5.out); rintro e w18 ⟨rfl, hb⟩; replace BK101 := am (zw BK101.out hb); replace BK102 := am (zw BK102.out hb); replace HB := am (below_step (zb) hb); (try clear hb); (try clear hb2); (try clear hk); (try clear hi); obtain ⟨hcz19_0, hcz19_1, hfz19_0, hfz19_1⟩ := cf2 BK101.out; obtain ⟨hcz20_0, hcz20_1, hcz20_2, hcz20_3, hcz20_4, hcz20_5, hcz20_6, hfz20_0, hfz20_1, hfz20_2, hfz20_3, hfz20_4, hfz20_5, hfz20_6⟩ := cf7 BK102.out) | (go_at_call 158; (with_reducible refine (model_areSentries.calls k _ _ l0_0 _ _ l0_1 _ _ l1_6 t104 _ ?side1 ?side2 ?side3 ?side4 ?side5 ?side6 A14.out).mono ?_); (case side1 => exact zc (Kd.C_below HR0_0.out HB.out)); (case side2 => exact HC0_0.out); (case side3 => exact zc (Kd.C_below HR0_1.out HB.out)); (case side4 => exact HC0_1.out); (case side5 => exact zc (Kd.C_below HR1_6.out HB.out)); (case side6 => exact HC1_6.out); rintro e w21 ⟨rfl, hb⟩; replace BK101 := am (zw BK101.out hb); replace BK102 := am (zw BK102.out hb); replace HB := am (below_step (zb) hb); (try clear hb); (try clear hb2); (try clear hk); (try clear hi)))
          go_meet
          case rel => exact ⟨_, (!t104), (ze), H', ⟨by first | omega | exact Nat.le_refl _⟩, ⟨zl BK101.out⟩, ⟨zl BK102.out⟩, ⟨zb⟩⟩
        · replace c13 := Bool.eq_false_iff.mpr c13
          subst c13
          have H1 : (model_isItem.j0 k true a1_0 a1_1 a1_2 a1_3 a1_4 l1_5 l1_6) = some r := by rw [if_neg (show ¬ (false = true) by decide)] at H; exact H
          clear H
          have H := H1
          clear H1
          have H' := am H
          clear H
          have hnb22 := NB102_101.out
          have hnc22 := NB101_102.out
          obtain ⟨hcz23_0, hcz23_1, hcz23_2, hcz23_3, hcz23_4, hcz23_5, hcz23_6, hfz23_0, hfz23_1, hfz23_2, hfz23_3, hfz23_4, hfz23_5, hfz23_6⟩ := cf7 BK102.out
          obtain ⟨hcz24_0, hcz24_1, hfz24_0, hfz24_1⟩ := cf2 BK101.out
          go_wp2_with (first | (go_at_call 158; (with_reducible refine (model_areSentries.calls k _ _ l0_0 _ _ l0_1 _ _ l1_5 false _ ?side1 ?side2 ?side3 ?side4 ?side5 ?side6 A12.out).mono ?_); (case side1 => exact zc (Kd.C_below HR0_0.out HB.out)); (case side2 => exact HC0_0.out); (case side3 => exact zc (Kd.C_below HR0_1.out HB.out)); (case side4 => exact HC0_1.out); (case side5 => exact zc (Kd.C_below HR1_5.out HB.out)); (case side6 => exact HC1_5.out); rintro e w25 ⟨rfl, hb⟩; replace BK101 := am (zw BK101.out hb); replace BK102 := am (zw BK102.out hb); replace HB := am (below_step (zb) hb); (try clear hb); (try clear hb2); (try clear hk); (try clear hi)))
          go_meet
          case rel => exact ⟨_, (true), (ze), H', ⟨by first | omega | exact Nat.le_refl _⟩, ⟨zl BK101.out⟩, ⟨zl BK102.out⟩, ⟨zb⟩⟩
  case rest =>
    clear HC3
    try clear c1
    try clear c2
    try clear p2
    try clear c6
    try clear c6b0
    try clear c7
    try clear c9
    try clear c9b0
    try clear c10
    try clear c11
    try clear c13
    try clear c15
    try clear c22
    try clear hcz11_0
    try clear hcz11_1
    try clear hcz11_2
    try clear hcz11_3
    try clear hcz11_4
    try clear hcz11_5
    try clear hcz11_6
    try clear hcz16_0
    try clear hcz16_1
    try clear hcz16_2
    try clear hcz16_3
    try clear hcz16_4
    try clear hcz16_5
    try clear hcz16_6
    try clear hcz17_0
    try clear hcz17_1
    try clear hcz19_0
    try clear hcz19_1
    try clear hcz20_0
    try clear hcz20_1
    try clear hcz20_2
    try clear hcz20_3
    try clear hcz20_4
    try clear hcz20_5
    try clear hcz20_6
    try clear hcz23_0
    try clear hcz23_1
    try clear hcz23_2
    try clear hcz23_3
    try clear hcz23_4
    try clear hcz23_5
    try clear hcz23_6
    try clear hcz24_0
    try clear hcz24_1
    try clear hcz8_0
    try clear hcz8_1
    try clear hcz8_2
    try clear hcz8_3
    try clear hcz8_4
    try clear hcz8_5
    try clear hcz8_6
    try clear hfz11_0
    try clear hfz11_1
    try clear hfz11_2
    try clear hfz11_3
    try clear hfz11_4
    try clear hfz11_5
    try clear hfz11_6
    try clear hfz16_0
    try clear hfz16_1
    try clear hfz16_2
    try clear hfz16_3
    try clear hfz16_4
    try clear hfz16_5
    try clear hfz16_6
    try clear hfz17_0
    try clear hfz17_1
    try clear hfz19_0
    try clear hfz19_1
    try clear hfz20_0
    try clear hfz20_1
    try clear hfz20_2
    try clear hfz20_3
    try clear hfz20_4
    try clear hfz20_5
    try clear hfz20_6
    try clear hfz23_0
    try clear hfz23_1
    try clear hfz23_2
    try clear hfz23_3
    try clear hfz23_4
    try clear hfz23_5
    try clear hfz23_6
    try clear hfz24_0
    try clear hfz24_1
    try clear hfz8_0
    try clear hfz8_1
    try clear hfz8_2
    try clear hfz8_3
    try clear hfz8_4
    try clear hfz8_5
    try clear hfz8_6
    obtain ⟨kq, x29_2, rfl, HA, HJ2, BK101, BK102, HB⟩ := hcut
    cases kq with
    | zero => exact absurd HA.out (by simp [model_isItem.j0])
    | succ kj2 =>
      have H := HA.out
      clear HA
      simp only [model_isItem.j0] at H
      by_cases c26 : x29_2 = true
      · subst c26
        have H1 : (some false) = some r := by rw [if_pos rfl] at H; exact H
        clear H
        have H := H1
        clear H1
        obtain rfl := Option.some.inj H
        go_wp2
        go_ret
        exact ⟨zf, zb⟩
      · replace c26 := Bool.eq_false_iff.mpr c26
        subst c26
        have H1 : (if a1_1 = 5 then (if a1_1 = 4 then (if a1_4 ≥ 1 then (if a1_4 ≤ 100 then (if a1_3 = true then (some (!true)) else (some (!(decide ((l1_5.length : Int) > 0))))) else (some false)) else (some false)) else (if a1_4 ≥ 1 then (if a1_4 ≤ 100 then (if a1_3 = true then (some (!true)) else (some (!(decide ((l1_5.length : Int) > 0))))) else (some false)) else (some false))) else (if a1_1 = 4 then (if a1_4 ≥ 0 then (if a1_4 ≤ 0 then (if a1_3 = true then (some (!true)) else (some (!(decide ((l1_5.length : Int) > 0))))) else (some false)) else (some false)) else (if a1_4 ≥ 0 then (if a1_4 ≤ 0 then (some (!false)) else (some false)) else (some false)))) = some r := by rw [if_neg (show ¬ (false = true) by decide)] at H; exact H
        clear H
        have H := H1
        clear H1
        by_cases c27 : a1_1 = 5
        · rw [if_pos c27] at H
          have c27b0 : (a1_1 == 5) = true := beq_iff_eq.mpr c27
          have c27b1 : (a1_1 != 5) = false := bne_eq_false_iff_eq.mpr c27
          clear c27
          by_cases c28 : a1_1 = 4
          · rw [if_pos c28] at H
            have c28b0 : (a1_1 == 4) = true := beq_iff_eq.mpr c28
            have c28b1 : (a1_1 != 4) = false := bne_eq_false_iff_eq.mpr c28
            clear c28
            by_cases c29 : a1_4 ≥ 1
            · rw [if_pos c29] at H
              have c29b0 : decide (1 ≤ a1_4) = true := decide_eq_true c29
              clear c29
              by_cases c30 : a1_4 ≤ 100
              · rw [if_pos c30] at H
                have c30b0 : decide (a1_4 ≤ 100) = true := decide_eq_true c30
                clear c30
                by_cases c31 : a1_3 = true
                · subst c31
                  have H1 : (some (!true)) = some r := by rw [if_pos rfl] at H; exact H
                  clear H
                  have H := H1
                  clear H1
                  obtain rfl := Option.some.inj H
                  have hnb32 := NB102_101.out
                  have hnc32 := NB101_102.out
                  obtain ⟨hcz33_0, hcz33_1, hcz33_2, hcz33_3, hcz33_4, hcz33_5, hcz33_6, hfz33_0, hfz33_1, hfz33_2, hfz33_3, hfz33_4, hfz33_5, hfz33_6⟩ := cf7 BK102.out
                  go_wp2
                  go_ret
                  exact ⟨zf, zb⟩
                · replace c31 := Bool.eq_false_iff.mpr c31
                  subst c31
                  have H1 : (some (!(decide ((l1_5.length : Int) > 0)))) = some r := by rw [if_neg (show ¬ (false = true) by decide)] at H; exact H
                  clear H
                  have H := H1
                  clear H1
                  obtain rfl := Option.some.inj H
                  have hnb34 := NB102_101.out
                  have hnc34 := NB101_102.out
                  obtain ⟨hcz35_0, hcz35_1, hcz35_2, hcz35_3, hcz35_4, hcz35_5, hcz35_6, hfz35_0, hfz35_1, hfz35_2, hfz35_3, hfz35_4, hfz35_5, hfz35_6⟩ := cf7 BK102.out
                  go_wp2
                  go_ret
                  exact ⟨zf, zb⟩
              · rw [if_neg c30] at H
                have c30b0 : decide (a1_4 ≤ 100) = false := decide_eq_false c30
                clear c30
                obtain rfl := Option.some.inj H
                have hnb36 := NB102_101.out
                have hnc36 := NB101_102.out
                obtain ⟨hcz37_0, hcz37_1, hcz37_2, hcz37_3, hcz37_4, hcz37_5, hcz37_6, hfz37_0, hfz37_1, hfz37_2, hfz37_3, hfz37_4, hfz37_5, hfz37_6⟩ := cf7 BK102.out
                go_wp2
                go_ret
                exact ⟨zf, zb⟩
            · rw [if_neg c29] at H
              have c29b0 : decide (1 ≤ a1_4) = false := decide_eq_false c29
              clear c29
              obtain rfl := Option.some.inj H
              have hnb38 := NB102_101.out
              have hnc38 := NB101_102.out
              obtain ⟨hcz39_0, hcz39_1, hcz39_2, hcz39_3, hcz39_4, hcz39_5, hcz39_6, hfz39_0, hfz39_1, hfz39_2, hfz39_3, hfz39_4, hfz39_5, hfz39_6⟩ := cf7 BK102.out
              go_wp2
              go_ret
              exact ⟨zf, zb⟩
          · rw [if_neg c28] at H
            have c28b0 : (a1_1 == 4) = false := beq_eq_false_iff_ne.mpr c28
            have c28b1 : (a1_1 != 4) = true := bne_iff_ne.mpr c28
            by_cases c40 : a1_4 ≥ 1
            · rw [if_pos c40] at H
              have c40b0 : decide (1 ≤ a1_4) = true := decide_eq_true c40
              clear c40
              by_cases c41 : a1_4 ≤ 100
              · rw [if_pos c41] at H
                have c41b0 : decide (a1_4 ≤ 100) = true := decide_eq_true c41
                clear c41
                by_cases c42 : a1_3 = true
                · subst c42
                  have H1 : (some (!true)) = some r := by rw [if_pos rfl] at H; exact H
                  clear H
                  have H := H1
                  clear H1
                  obtain rfl := Option.some.inj H
                  have hnb43 := NB102_101.out
                  have hnc43 := NB101_102.out
                  obtain ⟨hcz44_0, hcz44_1, hcz44_2, hcz44_3, hcz44_4, hcz44_5, hcz44_6, hfz44_0, hfz44_1, hfz44_2, hfz44_3, hfz44_4, hfz44_5, hfz44_6⟩ := cf7 BK102.out
                  go_wp2
                  go_ret
                  exact ⟨zf, zb⟩
                · replace c42 := Bool.eq_false_iff.mpr c42
                  subst c42
                  have H1 : (some (!(decide ((l1_5.length : Int) > 0)))) = some r := by rw [if_neg (show ¬ (false = true) by decide)] at H; exact H
                  clear H
                  have H := H1
                  clear H1
                  obtain rfl := Option.some.inj H
                  have hnb45 := NB102_101.out
                  have hnc45 := NB101_102.out
                  obtain ⟨hcz46_0, hcz46_1, hcz46_2, hcz46_3, hcz46_4, hcz46_5, hcz46_6, hfz46_0, hfz46_1, hfz46_2, hfz46_3, hfz46_4, hfz46_5, hfz46_6⟩ := cf7 BK102.out
                  go_wp2
                  go_ret
                  exact ⟨zf, zb⟩
              · rw [if_neg c41] at H
                have c41b0 : decide (a1_4 ≤ 100) = false := decide_eq_false c41
                clear c41
                obtain rfl := Option.some.inj H
                have hnb47 := NB102_101.out
                have hnc47 := NB101_102.out
                obtain ⟨hcz48_0, hcz48_1, hcz48_2, hcz48_3, hcz48_4, hcz48_5, hcz48_6, hfz48_0, hfz48_1, hfz48_2, hfz48_3, hfz48_4, hfz48_5, hfz48_6⟩ := cf7 BK102.out
                go_wp2
                go_ret
                exact ⟨zf, zb⟩
            · rw [if_neg c40] at H
              have c40b0 : decide (1 ≤ a1_4) = false := decide_eq_false c40
              clear c40
              obtain rfl := Option.some.inj H
              have hnb49 := NB102_101.out
              have hnc49 := NB101_102.out
              obtain ⟨hcz50_0, hcz50_1, hcz50_2, hcz50_3, hcz50_4, hcz50_5, hcz50_6, hfz50_0, hfz50_1, hfz50_2, hfz50_3, hfz50_4, hfz50_5, hfz50_6⟩ := cf7 BK102.out
              go_wp2
              go_ret
              exact ⟨zf, zb⟩
        · rw [if_neg c27] at H
          have c27b0 : (a1_1 == 5) = false := beq_eq_false_iff_ne.mpr c27
          have c27b1 : (a1_1 != 5) = true := bne_iff_ne.mpr c27
          by_cases c51 : a1_1 = 4
          · rw [if_pos c51] at H
            have c51b0 : (a1_1 == 4) = true := beq_iff_eq.mpr c51
            have c51b1 : (a1_1 != 4) = false := bne_eq_false_iff_eq.mpr c51
            clear c51
            by_cases c52 : a1_4 ≥ 0
            · rw [if_pos c52] at H
              have c52b0 : decide (0 ≤ a1_4) = true := decide_eq_true c52
              clear c52
              by_cases c53 : a1_4 ≤ 0
              · rw [if_pos c53] at H
                have c53b0 : decide (a1_4 ≤ 0) = true := decide_eq_true c53
                clear c53
                by_cases c54 : a1_3 = true
                · subst c54
                  have H1 : (some (!true)) = some r := by rw [if_pos rfl] at H; exact H
                  clear H
                  have H := H1
                  clear H1
                  obtain rfl := Option.some.inj H
                  have hnb55 := NB102_101.out
                  have hnc55 := NB101_102.out
                  obtain ⟨hcz56_0, hcz56_1, hcz56_2, hcz56_3, hcz56_4, hcz56_5, hcz56_6, hfz56_0, hfz56_1, hfz56_2, hfz56_3, hfz56_4, hfz56_5, hfz56_6⟩ := cf7 BK102.out
                  go_wp2
                  go_ret
                  exact ⟨zf, zb⟩
                · replace c54 := Bool.eq_false_iff.mpr c54
                  subst c54
                  have H1 : (some (!(decide ((l1_5.length : Int) > 0)))) = some r := by rw [if_neg (show ¬ (false = true) by decide)] at H; exact H
                  clear H
                  have H := H1
                  clear H1
                  obtain rfl := Option.some.inj H
                  have hnb57 := NB102_101.out
                  have hnc57 := NB101_102.out
                  obtain ⟨hcz58_0, hcz58_1, hcz58_2, hcz58_3, hcz58_4, hcz58_5, hcz58_6, hfz58_0, hfz58_1, hfz58_2, hfz58_3, hfz58_4, hfz58_5, hfz58_6⟩ := cf7 BK102.out
                  go_wp2
                  go_ret
                  exact ⟨zf, zb⟩
              · rw [if_neg c53] at H
                have c53b0 : decide (a1_4 ≤ 0) = false := decide_eq_false c53
                clear c53
                obtain rfl := Option.some.inj H
                have hnb59 := NB102_101.out
                have hnc59 := NB101_102.out
                obtain ⟨hcz60_0, hcz60_1, hcz60_2, hcz60_3, hcz60_4, hcz60_5, hcz60_6, hfz60_0, hfz60_1, hfz60_2, hfz60_3, hfz60_4, hfz60_5, hfz60_6⟩ := cf7 BK102.out
                go_wp2
                go_ret
                exact ⟨zf, zb⟩
            · rw [if_neg c52] at H
              have c52b0 : decide (0 ≤ a1_4) = false := decide_eq_false c52
              clear c52
              obtain rfl := Option.some.inj H
              have hnb61 := NB102_101.out
              have hnc61 := NB101_102.out
              obtain ⟨hcz62_0, hcz62_1, hcz62_2, hcz62_3, hcz62_4, hcz62_5, hcz62_6, hfz62_0, hfz62_1, hfz62_2, hfz62_3, hfz62_4, hfz62_5, hfz62_6⟩ := cf7 BK102.out
              go_wp2
              go_ret
              exact ⟨zf, zb⟩
          · rw [if_neg c51] at H
            have c51b0 : (a1_1 == 4) = false := beq_eq_false_iff_ne.mpr c51
            have c51b1 : (a1_1 != 4) = true := bne_iff_ne.mpr c51
            by_cases c63 : a1_4 ≥ 0
            · rw [if_pos c63] at H
              have c63b0 : decide (0 ≤ a1_4) = true := decide_eq_true c63
              clear c63
              by_cases c64 : a1_4 ≤ 0
              · rw [if_pos c64] at H
                have c64b0 : decide (a1_4 ≤ 0) = true := decide_eq_true c64
                clear c64
                obtain rfl := Option.some.inj H
                have hnb65 := NB102_101.out
                have hnc65 := NB101_102.out
                obtain ⟨hcz66_0, hcz66_1, hcz66_2, hcz66_3, hcz66_4, hcz66_5, hcz66_6, hfz66_0, hfz66_1, hfz66_2, hfz66_3, hfz66_4, hfz66_5, hfz66_6⟩ := cf7 BK102.out
                go_wp2
                go_ret
                exact ⟨zf, zb⟩
              · rw [if_neg c64] at H
                have c64b0 : decide (a1_4 ≤ 0) = false := decide_eq_false c64
                clear c64
                obtain rfl := Option.some.inj H
                have hnb67 := NB102_101.out
                have hnc67 := NB101_102.out
                obtain ⟨hcz68_0, hcz68_1, hcz68_2, hcz68_3, hcz68_4, hcz68_5, hcz68_6, hfz68_0, hfz68_1, hfz68_2, hfz68_3, hfz68_4, hfz68_5, hfz68_6⟩ := cf7 BK102.out
                go_wp2
                go_ret
                exact ⟨zf, zb⟩
            · rw [if_neg c63] at H
              have c63b0 : decide (0 ≤ a1_4) = false := decide_eq_false c63
              clear c63
              obtain rfl := Option.some.inj H
              have hnb69 := NB102_101.out
              have hnc69 := NB101_102.out
              obtain ⟨hcz70_0, hcz70_1, hcz70_2, hcz70_3, hcz70_4, hcz70_5, hcz70_6, hfz70_0, hfz70_1, hfz70_2, hfz70_3, hfz70_4, hfz70_5, hfz70_6⟩ := cf7 BK102.out
              go_wp2
              go_ret
              exact ⟨zf, zb⟩
end Go.Proofs.YtpbembafpnknhaaGreat.Pr
namespace Go.Proofs.YtpbembafpnknhaaGreat.Pr
open Go.RowKit Go.Proofs.YtpbembafpnknhaaGreatW.PrintWords Go.Proofs.YtpbembafpnknhaaGreatW.PrintLast Go.Proofs.YtpbembafpnknhaaGreatW.PrintMore
set_option linter.unusedVariables false
set_option maxHeartbeats 800000 in
set_option maxRecDepth 100000 in
theorem api_Item_110_cl {W : World} {gb k : Nat} {A0 A1 : Option Addr} {c0 c1 : Nat} {l0 : List ByteArray} {l1 : List S47} {B0 B1 : Option Addr} {d0 d1 : Nat} {x : S47} (m0 : x.f5.length ≤ d0) (s0 : Kd.C k29 W B0 x.f5.length x.f5) (m1 : x.f6.length ≤ d1) (s1 : Kd.C k29 W B1 x.f6.length x.f6) (hbk : W.heap[gb]? = some (.cells #[.slice A0 l0.length c0, .slice A1 l1.length c1] 25 (0, 0))) (hr0 : Kd.C Kd.string W A0 l0.length l0) (hc0 : l0.length ≤ c0) (hr1 : Kd.C k47 W A1 l1.length l1) (hc1 : l1.length ≤ c1) (r : Bool) (h : model_isItem.f k l0 l1 x.f0 x.f1 x.f2 x.f3 x.f4 x.f5 x.f6 = some r) :
    Calls Tryz.prog 111 #[.agg #[.string x.f0, .int .i64 x.f1, .string x.f2, .bool x.f3, .int .i64 x.f4, .slice B0 x.f5.length d0, .slice B1 x.f6.length d1], .pointer (some ⟨gb, 0, none⟩)] W fun e w' => e = .returned (.bool (!r)) ∧ Below W.heap.size W w' := by
  have hu25 := Tryz.underlying25
  have hu47 := Tryz.underlying47
  have HI : ∀ W2, Below W.heap.size W W2 → Calls Tryz.prog 112 #[.agg #[.slice A0 l0.length c0, .slice A1 l1.length c1], .agg #[.string x.f0, .int .i64 x.f1, .string x.f2, .bool x.f3, .int .i64 x.f4, .slice B0 x.f5.length d0, .slice B1 x.f6.length d1]] W2 fun e w' => e = .returned (.bool r) ∧ Below W.heap.size W w' := fun W2 hW =>
    (model_isItem.calls k _ _ l0 _ _ l1 x.f0 x.f1 x.f2 x.f3 x.f4 _ _ x.f5 _ _ x.f6 r W2 (Kd.C_below hr0 hW) hc0 (Kd.C_below hr1 hW) hc1 (Kd.C_below s0 hW) m0 (Kd.C_below s1 hW) m1 h).mono (fun _ _ h => ⟨h.1, below_step hW h.2⟩)
  have HII := am HI
  have k0 : W.cell? ⟨gb, 0, none⟩ = some (.slice A0 l0.length c0) := (blk_cell hbk 0).trans rfl
  have k1 : W.cell? ⟨gb, 1, none⟩ = some (.slice A1 l1.length c1) := (blk_cell hbk 1).trans rfl
  have hlt := World.block_lt_of_cell? W _ k0
  have HB := am (Below.refl W.heap.size W)
  clear HI hbk
  go_enter Tryz.func111, Tryz.ntmps111
  go_wp2_with (first | (go_at_call 112; refine (HII.out _ (zb)).mono ?_; rintro e w7 ⟨rfl, hb⟩))
  go_ret
  exact ⟨rfl, hb⟩
def api_Item_110.f (k : Nat) (xs : List S47) (l0_0 : List ByteArray) (l0_1 : List S47) : Option Bool := notAll (fun x => model_isItem.f k l0_0 l0_1 x.f0 x.f1 x.f2 x.f3 x.f4 x.f5 x.f6) xs
theorem api_Item_110.mono : ∀ a0 a1 a2 k, LeO (api_Item_110.f k a0 a1 a2) (api_Item_110.f (k + 1) a0 a1 a2) := fun a0 a1 a2 k => notAll_mono (fun x => model_isItem.mono _ _ _ _ _ _ _ _ _ _)
theorem api_Item_110.calls (k : Nat) (A : Option Addr) (c : Nat) (xs : List S47) (A0_0 : Option Addr) (c0_0 : Nat) (l0_0 : List ByteArray) (A0_1 : Option Addr) (c0_1 : Nat) (l0_1 : List S47) (r : Bool) (w : World) (hr : Kd.C k47 w A xs.length xs) (hc : xs.length ≤ c) (hr0_0 : Kd.C Kd.string w A0_0 l0_0.length l0_0) (hc0_0 : l0_0.length ≤ c0_0) (hr0_1 : Kd.C k47 w A0_1 l0_1.length l0_1) (hc0_1 : l0_1.length ≤ c0_1)
    {gb : Nat} (hbk : w.heap[gb]? = some (.cells #[.slice A0_0 l0_0.length c0_0, .slice A0_1 l0_1.length c0_1] 25 (0, 0))) (h : api_Item_110.f k xs l0_0 l0_1 = some r) :
    Calls Tryz.prog 110 #[.slice A xs.length c, .func (.func 111) #[] #[.pointer (some ⟨gb, 0, none⟩)]] w fun e w' => e = .returned (.bool r) ∧ Below w.heap.size w w' := by
  obtain ⟨hall, rfl⟩ := notAll_some h
  have hbig := hr.2.1
  obtain ⟨cs, hk, hK, hcc⟩ := C_cells z47 hr
  rw [← range_any z47]
  refine containsFuncItem A xs.length c 111 #[.pointer (some ⟨gb, 0, none⟩)] (enters_ Tryz.func111 rfl rfl) (fun j => model_isItem.f k l0_0 l0_1 (xs.getD j z47).f0 (xs.getD j z47).f1 (xs.getD j z47).f2 (xs.getD j z47).f3 (xs.getD j z47).f4 (xs.getD j z47).f5 (xs.getD j z47).f6 == some false) cs w hbig ?_ hk hcc
  intro j hj W hW
  obtain ⟨r0, hr0⟩ := Option.isSome_iff_exists.1 (hall (xs.getD j z47) (by rw [getD_at hj]; exact List.getElem_mem hj))
  obtain ⟨B0, d0, B1, d1, e, m0, s0, m1, s1⟩ := k47_open (hK j hj)
  rw [e]
  refine (api_Item_110_cl (k := k) m0 (Kd.C_below s0 hW) m1 (Kd.C_below s1 hW) (blk_below hbk hW) (Kd.C_below hr0_0 hW) hc0_0 (Kd.C_below hr0_1 hW) hc0_1 r0 hr0).mono ?_
  rintro e' w' ⟨rfl, h2⟩
  refine ⟨?_, below_step hW h2⟩
  rw [hr0]
  cases r0 <;> rfl
end Go.Proofs.YtpbembafpnknhaaGreat.Pr
namespace Go.Proofs.YtpbembafpnknhaaGreat.Pr
open Go.RowKit Go.Proofs.YtpbembafpnknhaaGreatW.PrintWords Go.Proofs.YtpbembafpnknhaaGreatW.PrintLast Go.Proofs.YtpbembafpnknhaaGreatW.PrintMore
attribute [local go_sem] max2_int min2_int max_two min_two max_three min_three max_four min_four   -- for this text's walks alone
set_option linter.unusedVariables false
set_option linter.unusedSimpArgs false
def model_ids.l0 : Nat → List ByteArray → List (S47) → Int → Int → Option (List ByteArray)
  | 0, _, _, _, _ => none
  | k + 1, x3, x7, x8, x9 => if x9 < x8 then (if 0 ≤ x9 then (if x9 < (x7.length : Int) then (if x3.length < 8796093022208 then (model_ids.l0 k (x3 ++ [(rd_T47 x7 x9).f0]) x7 x8 (wrap64 (x9 + 1))) else (none)) else (none)) else (none)) else (some x3)
def model_ids.f (k : Nat) (l0_0 : List ByteArray) (l0_1 : List (S47)) : Option (List ByteArray) := model_ids.l0 k ([] : List ByteArray) l0_1 (l0_1.length : Int) 0
theorem model_ids.mono_l : ∀ k, (∀ y0 y1 y2 y3, LeO (model_ids.l0 k y0 y1 y2 y3) (model_ids.l0 (k + 1) y0 y1 y2 y3))
  | 0 => fun _ _ _ _ r h => by simp [model_ids.l0] at h
  | k + 1 => by
    have ih0 := model_ids.mono_l k
    · intro y0 y1 y2 y3
      unfold model_ids.l0
      repeat' first
      | (with_reducible exact ih0 _ _ _ _)
      | (with_reducible exact LeO.refl _)
      | (with_reducible exact LeO.none _)
      | (with_reducible refine LeO.ite ?_ ?_)
      | (with_reducible refine LeO.bind ?_ (fun _ => ?_))
      | exact ih0 _ _ _ _
      | exact LeO.none _
      | refine LeO.ite ?_ ?_
      | refine LeO.bind ?_ (fun _ => ?_)
theorem model_ids.mono : ∀ a0 a1 k, LeO (model_ids.f k a0 a1) (model_ids.f (k + 1) a0 a1) := by
  intro a0 a1 k
  have ih0 := model_ids.mono_l k
  unfold model_ids.f
  repeat' first
      | (with_reducible exact ih0 _ _ _ _)
      | (with_reducible exact LeO.refl _)
      | (with_reducible exact LeO.none _)
      | (with_reducible refine LeO.ite ?_ ?_)
      | (with_reducible refine LeO.bind ?_ (fun _ => ?_))
      | exact ih0 _ _ _ _
      | exact LeO.none _
      | refine LeO.ite ?_ ?_
      | refine LeO.bind ?_ (fun _ => ?_)
set_option maxHeartbeats 8000000 in
set_option maxRecDepth 100000 in
theorem model_ids.calls (k : Nat) (A0_0 : Option Addr) (c0_0 : Nat) (l0_0 : List ByteArray) (A0_1 : Option Addr) (c0_1 : Nat) (l0_1 : List (S47)) (r : List ByteArray) (w : World) (hr0_0 : Kd.C Kd.string w A0_0 l0_0.length l0_0) (hc0_0 : l0_0.length ≤ c0_0) (hr0_1 : Kd.C k47 w A0_1 l0_1.length l0_1) (hc0_1 : l0_1.length ≤ c0_1) (h : model_ids.f k l0_0 l0_1 = some r) :
    Calls Tryz.prog 107 #[.agg #[.slice A0_0 l0_0.length c0_0, .slice A0_1 l0_1.length c0_1]] w fun e w' => ∃ v0_ : Value, e = .returned (v0_) ∧ Kd.R Kd.string 9 w' w.heap.size (fun _ => True) v0_ r ∧ Below w.heap.size w w' := by
  have hu25 := Tryz.underlying25
  have hu47 := Tryz.underlying47
  have HR0_0 := am hr0_0
  have HC0_0 := am hc0_0
  clear hr0_0 hc0_0
  have HR0_1 := am hr0_1
  have HC0_1 := am hc0_1
  clear hr0_1 hc0_1
  have HB := am (Below.refl w.heap.size w)
  have H : (model_ids.l0 k ([] : List ByteArray) l0_1 (l0_1.length : Int) 0) = some r := h
  clear h
  have H' := am H
  clear H
  go_enter Tryz.func107, Tryz.ntmps107
  go_wp2_with (first | ((with_reducible refine gd_ 1 ?_); refine bx_ 1 #[.slice A0_0 l0_0.length c0_0, .slice A0_1 l0_1.length c0_1] 25 ?_; intro gb101 hg w2 hbox hb; have BK101 := am (hbox); have GW101 := am (zg : w.heap.size ≤ gb101); have GE101 := am (zg : w.heap.size ≤ gb101); replace HB := am (below_step (zb) hb); clear hb hbox hg; obtain ⟨hcz3_0, hcz3_1, hfz3_0, hfz3_1⟩ := cf2 BK101.out))
  go_loopg [3, 9] k (fun kq v3 v9 w' => ∃ (x3_1 : List ByteArray) (x9_1 : Int), v9 = .int .i64 x9_1 ∧ Aside0 (model_ids.l0 kq x3_1 l0_1 (l0_1.length : Int) x9_1 = some r) ∧ Aside0 (kq ≤ k) ∧ Aside0 (Kd.R Kd.string 9 w' w.heap.size (fun _ => True) v3 x3_1) ∧ Aside0 (w'.heap[gb101]? = some (.cells #[(.slice A0_0 l0_0.length c0_0), (.slice A0_1 l0_1.length c0_1)] 25 (0, 0))) ∧ Aside0 (Below w.heap.size w w'))
  case atStart => exact ⟨(([] : List ByteArray)), (0), (ze), H', ⟨Nat.le_refl _⟩, ⟨by first | exact Kd.R_nil _ _ _ _ _ | exact Kd.N_nil _ _ _ _ _ | exact Kd.V_nil _ _ _ _ _ | exact Kd.Q_nil _ _ _ _ _ | exact Kd.S_nil _ _ _ _ _⟩, ⟨zl BK101.out⟩, ⟨zb⟩⟩
  case round =>
    clear H'
    try clear c1
    try clear p2
    try clear hcz3_0
    try clear hcz3_1
    try clear hfz3_0
    try clear hfz3_1
    obtain ⟨x3_1, x9_1, rfl, HA, HK1, HO_3, BK101, HB⟩ := hrel
    cases gk with
    | zero => exact absurd HA.out (by simp [model_ids.l0])
    | succ k1 =>
      have H := HA.out
      clear HA
      simp only [model_ids.l0] at H
      by_cases c4 : x9_1 < (l0_1.length : Int)
      · rw [if_pos c4] at H
        have c4b0 : decide (x9_1 < (l0_1.length : Int)) = true := decide_eq_true c4
        clear c4
        by_cases c5 : 0 ≤ x9_1
        · rw [if_pos c5] at H
          have c5b0 : decide (0 ≤ x9_1) = true := decide_eq_true c5
          clear c5
          by_cases c6 : x9_1 < (l0_1.length : Int)
          · rw [if_pos c6] at H
            have c6b0 : decide (x9_1 < (l0_1.length : Int)) = true := decide_eq_true c6
            clear c6
            by_cases c7 : x3_1.length < 8796093022208
            · rw [if_pos c7] at H
              have LMc7 := am c7
              clear c7
              obtain ⟨y104, hy104⟩ : ∃ y_ : List ByteArray, y_ = (x3_1 ++ [(rd_T47 l0_1 x9_1).f0]) := ⟨_, rfl⟩
              replace H : (model_ids.l0 k1 y104 l0_1 (l0_1.length : Int) (wrap64 (x9_1 + 1))) = some r := by first | (rw [hy104]; with_reducible exact H) | (have H2_ := (Option.bind_some _ _).symm.trans H; rw [hy104]; with_reducible exact H2_) | (have H2_ := (Option.bind_some _ _).symm.trans H; with_reducible exact H2_) | with_reducible exact H | (rw [hy104]; exact H) | exact H
              have Ny104 := am hy104
              clear hy104
              have H' := am H
              clear H
              have p102 : 0 ≤ (x9_1 : Int) := of_decide_eq_true (zas)
              have q102 : x9_1 < (l0_1.length : Int) := of_decide_eq_true (zas)
              obtain ⟨ad102, A102_5, c102_5, A102_6, c102_6, e102, hx102_0, hx102_1, hx102_2, hx102_3, hx102_4, hx102_5, hx102_6, hl102_5, hi102_5, hl102_6, hi102_6⟩ := at_T47 HR0_1.out x9_1 p102 q102
              cases e102
              replace hx102_0 := ba HB hx102_0
              replace hx102_1 := ba HB hx102_1
              replace hx102_2 := ba HB hx102_2
              replace hx102_3 := ba HB hx102_3
              replace hx102_4 := ba HB hx102_4
              replace hx102_5 := ba HB hx102_5
              replace hx102_6 := ba HB hx102_6
              have HR102_5 := am hi102_5
              have HC102_5 := am hl102_5
              clear hi102_5 hl102_5
              have HR102_6 := am hi102_6
              have HC102_6 := am hl102_6
              clear hi102_6 hl102_6
              replace p102 := eq_true p102
              replace q102 := eq_true q102
              go_wp2_with (first | ((with_reducible refine gd_ 5 ?_); refine bx_ 5 #[.string (⟨#[]⟩ : ByteArray), .int .i64 0, .string (⟨#[]⟩ : ByteArray), .bool false, .int .i64 0, .slice none 0 0, .slice none 0 0] 47 ?_; intro gb103 hg w8 hbox hb; replace HO_3 := am (Kd.R_below (zR HO_3.out) hb); have BK103 := am (hbox); have GW103 := am (zg : w.heap.size ≤ gb103); have GE103 := am (zg : w.heap.size ≤ gb103); replace HB := am (below_step (zb) hb); have NB101_103 := am ((zn BK101.out : gb101 ≠ gb103)); have NB103_101 := am ((zm BK101.out : gb103 ≠ gb101)); replace BK101 := am (zw BK101.out hb); clear hb hbox hg; have hnb9 := NB103_101.out; have hnc9 := NB101_103.out; obtain ⟨hcz10_0, hcz10_1, hcz10_2, hcz10_3, hcz10_4, hcz10_5, hcz10_6, hfz10_0, hfz10_1, hfz10_2, hfz10_3, hfz10_4, hfz10_5, hfz10_6⟩ := cf7 BK103.out) | ((with_reducible refine gate_builtin (b := .append) (xs := #[.tmp 13, .tmp 16]) rfl ?_); at_builtin; refine Kd.R_append Kd.string (w0 := w) w.heap.size rfl (.tmp 13) (.tmp 16) 22 9 (.string ⟨#[]⟩) 16 rfl Tryz.underlying22 info9 rfl (by decide) (by omega) u3 x3_1 ((rd_T47 l0_1 x9_1).f0) [.string ((rd_T47 l0_1 x9_1).f0)] (fun _ => True) (fun _ => False) rfl (by first | (go_simp; done) | (go_simp; rfl)) ?aP (fun _ hk => hk.elim) ?aF ?aO ?aB ?aS ?aL ?_; (case aP => exact rfl); (case aB => exact (zb)); (case aF => exact (fun _ _ => trivial)); (case aO => exact (by refine zR ?_; exact Kd.R_mono (Kd.R_far (p := ⟨gb103, 6, none⟩) (Kd.R_far (p := ⟨gb103, 5, none⟩) (Kd.R_far (p := ⟨gb103, 4, none⟩) (Kd.R_far (p := ⟨gb103, 3, none⟩) (Kd.R_far (p := ⟨gb103, 2, none⟩) (Kd.R_far (p := ⟨gb103, 1, none⟩) (Kd.R_far (p := ⟨gb103, 0, none⟩) (Kd.R_types HO_3.out BK103.out (by decide)) (fun _ hk => hk.2) (.string ((rd_T47 l0_1 x9_1).f0))) (fun _ hk => hk.2) (.int .i64 ((rd_T47 l0_1 x9_1).f1))) (fun _ hk => hk.2) (.string ((rd_T47 l0_1 x9_1).f2))) (fun _ hk => hk.2) (.bool ((rd_T47 l0_1 x9_1).f3))) (fun _ hk => hk.2) (.int .i64 ((rd_T47 l0_1 x9_1).f4))) (fun _ hk => hk.2) (.slice A102_5 ((rd_T47 l0_1 x9_1).f5).length c102_5)) (fun _ hk => hk.2) (.slice A102_6 ((rd_T47 l0_1 x9_1).f6).length c102_6)) (fun _ hk => trivial))); (case aS => exact (below_size (zb))); (case aL => have := LMc7.out; omega); intro v105 w11 ho hb hg hat; rw [← Ny104.out] at ho; replace BK101 := am (blk_grown (g := gb101) (o := .cells #[.slice A0_0 l0_0.length c0_0, .slice (some ad102) l0_1.length c0_1] 25 (0, 0)) (by refine zl ?_; refine blk_far ?_ NB101_103.out _; refine zl ?_; refine blk_far ?_ NB101_103.out _; refine zl ?_; refine blk_far ?_ NB101_103.out _; refine zl ?_; refine blk_far ?_ NB101_103.out _; refine zl ?_; refine blk_far ?_ NB101_103.out _; refine zl ?_; refine blk_far ?_ NB101_103.out _; refine zl ?_; refine blk_far ?_ NB101_103.out _; refine zl ?_; exact BK101.out) hg (Kd.R_ne HO_3.out BK101.out (by decide))); replace BK103 := am (blk_grown (g := gb103) (o := .cells #[.string ((rd_T47 l0_1 x9_1).f0), .int .i64 ((rd_T47 l0_1 x9_1).f1), .string ((rd_T47 l0_1 x9_1).f2), .bool ((rd_T47 l0_1 x9_1).f3), .int .i64 ((rd_T47 l0_1 x9_1).f4), .slice A102_5 ((rd_T47 l0_1 x9_1).f5).length c102_5, .slice A102_6 ((rd_T47 l0_1 x9_1).f6).length c102_6] 47 (0, 0)) (by refine zl ?_; refine blk_put (cs := #[.string ((rd_T47 l0_1 x9_1).f0), .int .i64 ((rd_T47 l0_1 x9_1).f1), .string ((rd_T47 l0_1 x9_1).f2), .bool ((rd_T47 l0_1 x9_1).f3), .int .i64 ((rd_T47 l0_1 x9_1).f4), .slice A102_5 ((rd_T47 l0_1 x9_1).f5).length c102_5, .slice none 0 0]) ?_ 6 _ rfl; refine zl ?_; refine blk_put (cs := #[.string ((rd_T47 l0_1 x9_1).f0), .int .i64 ((rd_T47 l0_1 x9_1).f1), .string ((rd_T47 l0_1 x9_1).f2), .bool ((rd_T47 l0_1 x9_1).f3), .int .i64 ((rd_T47 l0_1 x9_1).f4), .slice none 0 0, .slice none 0 0]) ?_ 5 _ rfl; refine zl ?_; refine blk_put (cs := #[.string ((rd_T47 l0_1 x9_1).f0), .int .i64 ((rd_T47 l0_1 x9_1).f1), .string ((rd_T47 l0_1 x9_1).f2), .bool ((rd_T47 l0_1 x9_1).f3), .int .i64 0, .slice none 0 0, .slice none 0 0]) ?_ 4 _ rfl; refine zl ?_; refine blk_put (cs := #[.string ((rd_T47 l0_1 x9_1).f0), .int .i64 ((rd_T47 l0_1 x9_1).f1), .string ((rd_T47 l0_1 x9_1).f2), .bool false, .int .i64 0, .slice none 0 0, .slice none 0 0]) ?_ 3 _ rfl; refine zl ?_; refine blk_put (cs := #[.string ((rd_T47 l0_1 x9_1).f0), .int .i64 ((rd_T47 l0_1 x9_1).f1), .string (⟨#[]⟩ : ByteArray), .bool false, .int .i64 0, .slice none 0 0, .slice none 0 0]) ?_ 2 _ rfl; refine zl ?_; refine blk_put (cs := #[.string ((rd_T47 l0_1 x9_1).f0), .int .i64 0, .string (⟨#[]⟩ : ByteArray), .bool false, .int .i64 0, .slice none 0 0, .slice none 0 0]) ?_ 1 _ rfl; refine zl ?_; refine blk_put (cs := #[.string (⟨#[]⟩ : ByteArray), .int .i64 0, .string (⟨#[]⟩ : ByteArray), .bool false, .int .i64 0, .slice none 0 0, .slice none 0 0]) ?_ 0 _ rfl; refine zl ?_; exact BK103.out) hg (Kd.R_ne HO_3.out BK103.out (by decide))); replace HB := am (hb); have HO106 := am (ho); clear HO_3; clear ho hb hg hat))
              go_roundg k1
              case measure => have := HK1.out; omega
              case rel => exact ⟨(y104), (wrap64 (x9_1 + 1)), (ze), H', ⟨by have := HK1.out; omega⟩, ⟨zR HO106.out⟩, ⟨zl BK101.out⟩, ⟨zb⟩⟩
            · rw [if_neg c7] at H
              exact absurd H (by simp)
          · rw [if_neg c6] at H
            exact absurd H (by simp)
        · rw [if_neg c5] at H
          exact absurd H (by simp)
      · rw [if_neg c4] at H
        have c4b0 : decide (x9_1 < (l0_1.length : Int)) = false := decide_eq_false c4
        clear c4
        obtain rfl := Option.some.inj H
        go_wp2
        go_ret
        exact ⟨_, zf, zR HO_3.out, zb⟩
end Go.Proofs.YtpbembafpnknhaaGreat.Pr
namespace Go.Proofs.YtpbembafpnknhaaGreat.Pr
open Go.RowKit Go.Proofs.YtpbembafpnknhaaGreatW.PrintWords Go.Proofs.YtpbembafpnknhaaGreatW.PrintLast Go.Proofs.YtpbembafpnknhaaGreatW.PrintMore
attribute [local go_sem] max2_int min2_int max_two min_two max_three min_three max_four min_four   -- for this text's walks alone
set_option linter.unusedVariables false
set_option linter.unusedSimpArgs false
def model_isPlan.f (a0_0 : ByteArray) (a0_1 : Int) (a0_2 : ByteArray) (a0_3 : Bool) (a0_4 : Int) (l0_5 : List (S29)) (l0_6 : List (S29)) : Option (Bool) := if a0_1 = 1 then (if a0_2.toList = ([] : List UInt8) then (if a0_3 = true then (some false) else (some ((wrap64 ((l0_5.length : Int) + (l0_6.length : Int))) == 0))) else (some false)) else (some false)
set_option maxHeartbeats 8000000 in
set_option maxRecDepth 100000 in
theorem model_isPlan.calls (a0_0 : ByteArray) (a0_1 : Int) (a0_2 : ByteArray) (a0_3 : Bool) (a0_4 : Int) (A0_5 : Option Addr) (c0_5 : Nat) (l0_5 : List (S29)) (A0_6 : Option Addr) (c0_6 : Nat) (l0_6 : List (S29)) (r : Bool) (w : World) (hr0_5 : Kd.C k29 w A0_5 l0_5.length l0_5) (hc0_5 : l0_5.length ≤ c0_5) (hr0_6 : Kd.C k29 w A0_6 l0_6.length l0_6) (hc0_6 : l0_6.length ≤ c0_6) (h : model_isPlan.f a0_0 a0_1 a0_2 a0_3 a0_4 l0_5 l0_6 = some r) :
    Calls Tryz.prog 108 #[.agg #[.string a0_0, .int .i64 a0_1, .string a0_2, .bool a0_3, .int .i64 a0_4, .slice A0_5 l0_5.length c0_5, .slice A0_6 l0_6.length c0_6]] w fun e w' => e = .returned (.bool r) ∧ Below w.heap.size w w' := by
  have hu47 := Tryz.underlying47
  have HR0_5 := am hr0_5
  have HC0_5 := am hc0_5
  clear hr0_5 hc0_5
  have HR0_6 := am hr0_6
  have HC0_6 := am hc0_6
  clear hr0_6 hc0_6
  have HB := am (Below.refl w.heap.size w)
  have H : (if a0_1 = 1 then (if a0_2.toList = ([] : List UInt8) then (if a0_3 = true then (some false) else (some ((wrap64 ((l0_5.length : Int) + (l0_6.length : Int))) == 0))) else (some false)) else (some false)) = some r := h
  clear h
  by_cases c2 : a0_1 = 1
  · rw [if_pos c2] at H
    have c2b0 : (a0_1 == 1) = true := beq_iff_eq.mpr c2
    have c2b1 : (a0_1 != 1) = false := bne_eq_false_iff_eq.mpr c2
    clear c2
    by_cases c3 : a0_2.toList = ([] : List UInt8)
    · rw [if_pos c3] at H
      have c3b0 : (a0_2.toList == ([] : List UInt8)) = true := beq_iff_eq.mpr c3
      have c3b1 : (a0_2.toList != ([] : List UInt8)) = false := bne_eq_false_iff_eq.mpr c3
      clear c3
      by_cases c4 : a0_3 = true
      · subst c4
        have H1 : (some false) = some r := by rw [if_pos rfl] at H; exact H
        clear H
        have H := H1
        clear H1
        obtain rfl := Option.some.inj H
        go_enter Tryz.func108, Tryz.ntmps108
        go_wp2_with (first | ((with_reducible refine gd_ 1 ?_); (try (refine gate_guard (by rfl) ?_; dsimp only)); refine bx_ 1 #[.string a0_0, .int .i64 a0_1, .string a0_2, .bool true, .int .i64 a0_4, .slice A0_5 l0_5.length c0_5, .slice A0_6 l0_6.length c0_6] 47 ?_; intro gb101 hg w5 hbox hb; have BK101 := am (hbox); have GW101 := am (zg : w.heap.size ≤ gb101); have GE101 := am (zg : w.heap.size ≤ gb101); replace HB := am (below_step (zb) hb); clear hb hbox hg; obtain ⟨hcz6_0, hcz6_1, hcz6_2, hcz6_3, hcz6_4, hcz6_5, hcz6_6, hfz6_0, hfz6_1, hfz6_2, hfz6_3, hfz6_4, hfz6_5, hfz6_6⟩ := cf7 BK101.out))
        go_ret
        exact ⟨zf, zb⟩
      · replace c4 := Bool.eq_false_iff.mpr c4
        subst c4
        have H1 : (some ((wrap64 ((l0_5.length : Int) + (l0_6.length : Int))) == 0)) = some r := by rw [if_neg (show ¬ (false = true) by decide)] at H; exact H
        clear H
        have H := H1
        clear H1
        obtain rfl := Option.some.inj H
        go_enter Tryz.func108, Tryz.ntmps108
        go_wp2_with (first | ((with_reducible refine gd_ 1 ?_); (try (refine gate_guard (by rfl) ?_; dsimp only)); refine bx_ 1 #[.string a0_0, .int .i64 a0_1, .string a0_2, .bool false, .int .i64 a0_4, .slice A0_5 l0_5.length c0_5, .slice A0_6 l0_6.length c0_6] 47 ?_; intro gb101 hg w7 hbox hb; have BK101 := am (hbox); have GW101 := am (zg : w.heap.size ≤ gb101); have GE101 := am (zg : w.heap.size ≤ gb101); replace HB := am (below_step (zb) hb); clear hb hbox hg; obtain ⟨hcz8_0, hcz8_1, hcz8_2, hcz8_3, hcz8_4, hcz8_5, hcz8_6, hfz8_0, hfz8_1, hfz8_2, hfz8_3, hfz8_4, hfz8_5, hfz8_6⟩ := cf7 BK101.out))
        go_ret
        exact ⟨zf, zb⟩
    · rw [if_neg c3] at H
      have c3b0 : (a0_2.toList == ([] : List UInt8)) = false := beq_eq_false_iff_ne.mpr c3
      have c3b1 : (a0_2.toList != ([] : List UInt8)) = true := bne_iff_ne.mpr c3
      obtain rfl := Option.some.inj H
      go_enter Tryz.func108, Tryz.ntmps108
      go_wp2_with (first | ((with_reducible refine gd_ 1 ?_); (try (refine gate_guard (by rfl) ?_; dsimp only)); refine bx_ 1 #[.string a0_0, .int .i64 a0_1, .string a0_2, .bool a0_3, .int .i64 a0_4, .slice A0_5 l0_5.length c0_5, .slice A0_6 l0_6.length c0_6] 47 ?_; intro gb101 hg w9 hbox hb; have BK101 := am (hbox); have GW101 := am (zg : w.heap.size ≤ gb101); have GE101 := am (zg : w.heap.size ≤ gb101); replace HB := am (below_step (zb) hb); clear hb hbox hg; obtain ⟨hcz10_0, hcz10_1, hcz10_2, hcz10_3, hcz10_4, hcz10_5, hcz10_6, hfz10_0, hfz10_1, hfz10_2, hfz10_3, hfz10_4, hfz10_5, hfz10_6⟩ := cf7 BK101.out))
      go_ret
      exact ⟨zf, zb⟩
  · rw [if_neg c2] at H
    have c2b0 : (a0_1 == 1) = false := beq_eq_false_iff_ne.mpr c2
    have c2b1 : (a0_1 != 1) = true := bne_iff_ne.mpr c2
    obtain rfl := Option.some.inj H
    go_enter Tryz.func108, Tryz.ntmps108
    go_wp2_with (first | ((with_reducible refine gd_ 1 ?_); (try (refine gate_guard (by rfl) ?_; dsimp only)); refine bx_ 1 #[.string a0_0, .int .i64 a0_1, .string a0_2, .bool a0_3, .int .i64 a0_4, .slice A0_5 l0_5.length c0_5, .slice A0_6 l0_6.length c0_6] 47 ?_; intro gb101 hg w11 hbox hb; have BK101 := am (hbox); have GW101 := am (zg : w.heap.size ≤ gb101); have GE101 := am (zg : w.heap.size ≤ gb101); replace HB := am (below_step (zb) hb); clear hb hbox hg; obtain ⟨hcz12_0, hcz12_1, hcz12_2, hcz12_3, hcz12_4, hcz12_5, hcz12_6, hfz12_0, hfz12_1, hfz12_2, hfz12_3, hfz12_4, hfz12_5, hfz12_6⟩ := cf7 BK101.out))
    go_ret
    exact ⟨zf, zb⟩
end Go.Proofs.YtpbembafpnknhaaGreat.Pr
namespace Go.Proofs.YtpbembafpnknhaaGreat.Pr
open Go.RowKit Go.Proofs.YtpbembafpnknhaaGreatW.PrintWords Go.Proofs.YtpbembafpnknhaaGreatW.PrintLast Go.Proofs.YtpbembafpnknhaaGreatW.PrintMore
set_option linter.unusedVariables false
set_option maxRecDepth 100000 in
theorem R_full_step {ops : Array Oper} {o : Oper} {a : Act} {Kc : Act → World → Prop} {Q : Exit → Act → World → Prop} {E : Prop} {w0 W : World} (base : Nat) (hg : o.guard = none) (s x : Operand)
    (ho : o.op = .call { callee := .builtin .append, args := #[s, x], argTypes := #[22, 22] }) (A : Option Addr) (c : Nat) (xs : List ByteArray) (p : ByteArray)
    (hs : a.eval s = .slice A xs.length xs.length) (hx : a.eval x = .slice (some ⟨W.heap.size, 0, none⟩) 1 1)
    (HO : Kd.R Kd.string 9 W base (fun _ => True) (.slice A xs.length c) xs) (HB : Below base w0 W) (hbase : base ≤ W.heap.size) (hl : (xs.length + 1) * 16 ≤ 140737488355328)
    (h : ∀ v1 w1, Kd.R Kd.string 9 w1 base (fun _ => True) v1 (xs ++ [p]) → Below base w0 w1 → W.grownBy w1 (Value.slice A xs.length c).ownBlock → (v1.ownBlock = (Value.slice A xs.length c).ownBlock ∨ ∃ b, v1.ownBlock = some b ∧ W.heap.size ≤ b) → Kc (a.put o.dst v1) w1) :
    if Region.wanted o (yielded ops a.tmps) = true then Oper.wp Tryz.prog o a (W.alloc (.cells #[.string p] 9)) Kc Q else E := by
  have hown := Kd.own_of_R HO
  have hinf : (Tryz.prog.info? 9).map (fun i => (i.zero, i.size, i.bytes)) = some (some (.string ⟨#[]⟩), 1, 16) := info9
  obtain ⟨i0, hi, hzz⟩ := Option.map_eq_some_iff.1 hinf
  simp only [Prod.mk.injEq] at hzz
  obtain ⟨hz0, hz1, hz2⟩ := hzz
  have hlen : (encs Value.string xs).length = xs.length * 1 := by rw [encs_length, Nat.mul_one]
  have hsz : (W.alloc (.cells #[.string p] 9)).heap.size = W.heap.size + 1 := Array.size_push _
  refine step_append_grows (w := W.alloc (.cells #[.string p] 9)) hg s x 22 ho 9 i0 (.string ⟨#[]⟩) 1 16 Tryz.underlying22 hi hz0 hz1 hz2 rfl (by decide) A xs.length xs.length (encs Value.string xs) hs ?_ hlen ?_ ⟨W.heap.size, 0, none⟩ 1 1 [.string p] hx rfl ?_ (fun u hu => by simp at hu; subst hu; rfl) (by omega) (by simp only [maxLen]; omega) (by omega) ?_
  · intro hA
    subst hA
    rcases hown.2 with ⟨he, h0⟩ | ⟨_, _, _, he, _⟩
    · exact ⟨h0, h0⟩
    · cases he
  · intro b hb j u hu
    subst hb
    have hlt : j < xs.length := by have := (List.getElem?_eq_some_iff.1 hu).1; rwa [encs_length] at this
    obtain ⟨g, cap, hv, _, hlt2⟩ := hown.form (by omega)
    injection hv with hv1 hv2 hv3
    injection hv1 with hv1
    subst hv1
    have h1 := hown.cells (g := g) rfl j u hu
    exact (World.cell?_alloc_lt _ _ _ (World.block_lt_of_cell? _ _ h1)).trans h1
  · intro j u hu
    cases j with
    | zero =>
      have e : u = .string p := by simpa using hu.symm
      subst e
      exact (blk_cell (blk_new W _) 0).trans rfl
    | succ j => simp at hu
  · intro v' w' ho' hgr
    have hgr2 : W.grownBy w' (Value.slice A xs.length c).ownBlock := by
      have h3 : W.grownBy w' none := (World.grownBy_alloc W _ none).trans hgr
      exact ⟨h3.os, h3.tape, h3.output, h3.size, fun k hk _ => h3.block k hk (by simp)⟩
    have hb : ∃ b, v'.ownBlock = some b ∧ W.heap.size ≤ b := by
      obtain ⟨g, cap, rfl, hb, _⟩ := ho'.form (by omega)
      exact ⟨g, rfl, by rw [hsz] at hb; omega⟩
    refine h v' w' ?_ ?_ hgr2 (.inr hb)
    · have h5 : Kd.R Kd.string 9 w' (W.alloc (.cells #[.string p] 9)).heap.size (fun _ => True) v' (xs ++ [p]) := Kd.R_of_own (by
        have : encs Value.string (xs ++ [p]) = encs Value.string xs ++ [.string p] := by simp [encs]
        rw [this, List.length_append]
        exact ho') (fun _ _ => trivial)
      exact Kd.R_lower h5 (by rw [hsz]; omega)
    · exact (HB.alloc hbase _).grown hgr (by rw [hsz]; omega) (by intro k hk; cases hk)
end Go.Proofs.YtpbembafpnknhaaGreat.Pr
namespace Go.Proofs.YtpbembafpnknhaaGreat.Pr
open Go.RowKit Go.Proofs.YtpbembafpnknhaaGreatW.PrintWords Go.Proofs.YtpbembafpnknhaaGreatW.PrintLast Go.Proofs.YtpbembafpnknhaaGreatW.PrintMore
attribute [local go_sem] max2_int min2_int max_two min_two max_three min_three max_four min_four   -- for this text's walks alone
set_option linter.unusedVariables false
set_option linter.unusedSimpArgs false
def model_stands.l0 : Nat → List ByteArray → List (S47) → Int → Int → List ByteArray → List (S47) → Option (Bool)
  | 0, _, _, _, _, _, _ => none
  | k + 1, x3, x7, x8, x9, x102000, x102001 => if x9 < x8 then (if 0 ≤ x9 then (if x9 < (x7.length : Int) then (if x9 > 0 then ((slices_Index_string_string.f k x3 ((rd_T47 x7 x9).f2)).bind fun t104 => (if 0 ≤ (wrap64 (t104 + 1)) then (if (wrap64 (t104 + 1)) ≤ (x3.length : Int) then ((some (x3.take ((wrap64 (t104 + 1)) : Int).toNat : List ByteArray)).bind fun y105 => (if (y105.length : Int) = 0 then (some false) else (if (y105.length : Int) > 5 then (some false) else ((model_Place.f x102000 x102001 ((rd_T47 x7 x9).f2)).bind fun t108 => (if 0 ≤ t108 then (if t108 < (x102001.length : Int) then (if ((rd_T47 x102001 t108).f1) = 1 then (if y105.length < 8796093022208 then (model_stands.l0 k (y105 ++ [(rd_T47 x7 x9).f0]) x7 x8 (wrap64 (x9 + 1)) x102000 x102001) else (none)) else (some false)) else (none)) else (none)))))) else (none)) else (none))) else (if x3.length < 8796093022208 then (model_stands.l0 k (x3 ++ [(rd_T47 x7 x9).f0]) x7 x8 (wrap64 (x9 + 1)) x102000 x102001) else (none))) else (none)) else (none)) else (some true)
def model_stands.f (k : Nat) (l0_0 : List ByteArray) (l0_1 : List (S47)) : Option (Bool) := model_stands.l0 k ([] : List ByteArray) l0_1 (l0_1.length : Int) 0 l0_0 l0_1
theorem model_stands.mono_l : ∀ k, (∀ y0 y1 y2 y3 y4 y5, LeO (model_stands.l0 k y0 y1 y2 y3 y4 y5) (model_stands.l0 (k + 1) y0 y1 y2 y3 y4 y5))
  | 0 => fun _ _ _ _ _ _ r h => by simp [model_stands.l0] at h
  | k + 1 => by
    have ih0 := model_stands.mono_l k
    · intro y0 y1 y2 y3 y4 y5
      unfold model_stands.l0
      repeat' first
      | (with_reducible exact ih0 _ _ _ _ _ _)
      | (with_reducible exact slices_Index_string_string.mono _ _ _)
      | (with_reducible exact LeO.refl _)
      | (with_reducible exact LeO.none _)
      | (with_reducible refine LeO.ite ?_ ?_)
      | (with_reducible refine LeO.bind ?_ (fun _ => ?_))
      | exact ih0 _ _ _ _ _ _
      | exact slices_Index_string_string.mono _ _ _
      | exact LeO.none _
      | refine LeO.ite ?_ ?_
      | refine LeO.bind ?_ (fun _ => ?_)
theorem model_stands.mono : ∀ a0 a1 k, LeO (model_stands.f k a0 a1) (model_stands.f (k + 1) a0 a1) := by
  intro a0 a1 k
  have ih0 := model_stands.mono_l k
  unfold model_stands.f
  repeat' first
      | (with_reducible exact ih0 _ _ _ _ _ _)
      | (with_reducible exact slices_Index_string_string.mono _ _ _)
      | (with_reducible exact LeO.refl _)
      | (with_reducible exact LeO.none _)
      | (with_reducible refine LeO.ite ?_ ?_)
      | (with_reducible refine LeO.bind ?_ (fun _ => ?_))
      | exact ih0 _ _ _ _ _ _
      | exact slices_Index_string_string.mono _ _ _
      | exact LeO.none _
      | refine LeO.ite ?_ ?_
      | refine LeO.bind ?_ (fun _ => ?_)
def model_stands.T7 : Bool × List (List Nat × List Nat) := (true, [([], []), ([0], [0]), ([1], [1]), ([2], [2]), ([3], [3]), ([4, 3], [3, 4]), ([5, 3], [3, 5]), ([3, 6], [3, 6]), ([7, 3], [7]), ([8], [8]), ([9, 8], [8, 9]), ([8], [8]), ([8], [8]), ([12, 8], [8, 12]), ([11, 13, 8, 8], [8, 11, 13]), ([10, 14, 8], [8, 10, 14]), ([15, 8], [8, 15]), ([16, 8], [8, 16]), ([17, 8], [8, 17]), ([8, 18], [8, 18])])
def model_stands.B7 : List Nat := [0, 1, 3, 7, 15, 31, 63, 127, 255, 511, 1023, 511, 511, 4607, 14847, 32767, 65535, 131071, 262143, 524287]
theorem model_stands.tab7 : rtab .any (opsOf Tryz.f109 7) = model_stands.T7 := by kernel_rfl
theorem model_stands.bits7 : waitsOk model_stands.T7.2 model_stands.B7 = true := by kernel_rfl
def model_stands.T9 : Bool × List (List Nat × List Nat) := (true, [([], []), ([], []), ([1], [1]), ([], []), ([3], [3]), ([0, 2, 4], [0, 2, 4]), ([], []), ([6], [6]), ([7], [7]), ([5, 8], [5, 8]), ([9, 9, 0, 1, 2, 3, 4, 5, 6, 7, 8, 9], [0, 1, 3, 9])])
def model_stands.B9 : List Nat := [0, 0, 2, 0, 8, 31, 0, 64, 192, 511, 1023]
theorem model_stands.tab9 : rtab .any (opsOf Tryz.f109 9) = model_stands.T9 := by kernel_rfl
theorem model_stands.bits9 : waitsOk model_stands.T9.2 model_stands.B9 = true := by kernel_rfl
set_option maxHeartbeats 8000000 in
set_option maxRecDepth 100000 in
theorem model_stands.calls (k : Nat) (A0_0 : Option Addr) (c0_0 : Nat) (l0_0 : List ByteArray) (A0_1 : Option Addr) (c0_1 : Nat) (l0_1 : List (S47)) (r : Bool) (w : World) (hr0_0 : Kd.C Kd.string w A0_0 l0_0.length l0_0) (hc0_0 : l0_0.length ≤ c0_0) (hr0_1 : Kd.C k47 w A0_1 l0_1.length l0_1) (hc0_1 : l0_1.length ≤ c0_1) (h : model_stands.f k l0_0 l0_1 = some r) :
    Calls Tryz.prog 109 #[.agg #[.slice A0_0 l0_0.length c0_0, .slice A0_1 l0_1.length c0_1]] w fun e w' => e = .returned (.bool r) ∧ Below w.heap.size w w' := by
  have hu25 := Tryz.underlying25
  have hu47 := Tryz.underlying47
  have HR0_0 := am hr0_0
  have HC0_0 := am hc0_0
  clear hr0_0 hc0_0
  have HR0_1 := am hr0_1
  have HC0_1 := am hc0_1
  clear hr0_1 hc0_1
  have HB := am (Below.refl w.heap.size w)
  have H : (model_stands.l0 k ([] : List ByteArray) l0_1 (l0_1.length : Int) 0 l0_0 l0_1) = some r := h
  clear h
  have H' := am H
  clear H
  go_enter Tryz.func109, Tryz.ntmps109
  go_wp2_with (first | ((with_reducible refine gd_ 1 ?_); (try (refine gate_guard (by rfl) ?_; dsimp only)); refine bx_ 1 #[.slice A0_0 l0_0.length c0_0, .slice A0_1 l0_1.length c0_1] 25 ?_; intro gb101 hg w2 hbox hb; have BK101 := am (hbox); have GW101 := am (zg : w.heap.size ≤ gb101); have GE101 := am (zg : w.heap.size ≤ gb101); replace HB := am (below_step (zb) hb); clear hb hbox hg; obtain ⟨hcz3_0, hcz3_1, hfz3_0, hfz3_1⟩ := cf2 BK101.out))
  go_loopg [3, 9] k (fun kq v3 v9 w' => ∃ (x3_1 : List ByteArray) (x9_1 : Int), v9 = .int .i64 x9_1 ∧ Aside0 (model_stands.l0 kq x3_1 l0_1 (l0_1.length : Int) x9_1 l0_0 l0_1 = some r) ∧ Aside0 (kq ≤ k) ∧ Aside0 (Kd.R Kd.string 9 w' w.heap.size (fun _ => True) v3 x3_1) ∧ Aside0 (w'.heap[gb101]? = some (.cells #[(.slice A0_0 l0_0.length c0_0), (.slice A0_1 l0_1.length c0_1)] 25 (0, 0))) ∧ Aside0 (Below w.heap.size w w'))
  case atStart => exact ⟨(([] : List ByteArray)), (0), (ze), H', ⟨Nat.le_refl _⟩, ⟨by first | exact Kd.R_nil _ _ _ _ _ | exact Kd.N_nil _ _ _ _ _ | exact Kd.V_nil _ _ _ _ _ | exact Kd.Q_nil _ _ _ _ _ | exact Kd.S_nil _ _ _ _ _⟩, ⟨zl BK101.out⟩, ⟨zb⟩⟩
  case round =>
    clear H'
    try clear c1
    try clear p2
    try clear hcz3_0
    try clear hcz3_1
    try clear hfz3_0
    try clear hfz3_1
    obtain ⟨x3_1, x9_1, rfl, HA, HK1, HO_3, BK101, HB⟩ := hrel
    cases gk with
    | zero => exact absurd HA.out (by simp [model_stands.l0])
    | succ k1 =>
      have H := HA.out
      clear HA
      simp only [model_stands.l0] at H
      by_cases c4 : x9_1 < (l0_1.length : Int)
      · rw [if_pos c4] at H
        have c4b0 : decide (x9_1 < (l0_1.length : Int)) = true := decide_eq_true c4
        clear c4
        by_cases c5 : 0 ≤ x9_1
        · rw [if_pos c5] at H
          have c5b0 : decide (0 ≤ x9_1) = true := decide_eq_true c5
          clear c5
          by_cases c6 : x9_1 < (l0_1.length : Int)
          · rw [if_pos c6] at H
            have c6b0 : decide (x9_1 < (l0_1.length : Int)) = true := decide_eq_true c6
            clear c6
            by_cases c7 : x9_1 > 0
            · rw [if_pos c7] at H
              have c7b0 : decide (0 < x9_1) = true := decide_eq_true c7
              clear c7
              replace H := Option.bind_eq_some_iff.mp H
              obtain ⟨t104, A80, H⟩ := H
              replace H : (if 0 ≤ (wrap64 (t104 + 1)) then (if (wrap64 (t104 + 1)) ≤ (x3_1.length : Int) then ((some (x3_1.take ((wrap64 (t104 + 1)) : Int).toNat : List ByteArray)).bind fun y105 => (if (y105.length : Int) = 0 then (some false) else (if (y105.length : Int) > 5 then (some false) else ((model_Place.f l0_0 l0_1 ((rd_T47 l0_1 x9_1).f2)).bind fun t108 => (if 0 ≤ t108 then (if t108 < (l0_1.length : Int) then (if ((rd_T47 l0_1 t108).f1) = 1 then (if y105.length < 8796093022208 then (model_stands.l0 k1 (y105 ++ [(rd_T47 l0_1 x9_1).f0]) l0_1 (l0_1.length : Int) (wrap64 (x9_1 + 1)) l0_0 l0_1) else (none)) else (some false)) else (none)) else (none)))))) else (none)) else (none)) = some r := H
              have A8 := am A80
              clear A80
              obtain ⟨ji9, hji9⟩ : ∃ j_ : Int, (wrap64 (t104 + 1)) = j_ := ⟨_, rfl⟩
              replace H : (if 0 ≤ (ji9) then (if (ji9) ≤ (x3_1.length : Int) then ((some (x3_1.take ((ji9) : Int).toNat : List ByteArray)).bind fun y105 => (if (y105.length : Int) = 0 then (some false) else (if (y105.length : Int) > 5 then (some false) else ((model_Place.f l0_0 l0_1 ((rd_T47 l0_1 x9_1).f2)).bind fun t108 => (if 0 ≤ t108 then (if t108 < (l0_1.length : Int) then (if ((rd_T47 l0_1 t108).f1) = 1 then (if y105.length < 8796093022208 then (model_stands.l0 k1 (y105 ++ [(rd_T47 l0_1 x9_1).f0]) l0_1 (l0_1.length : Int) (wrap64 (x9_1 + 1)) l0_0 l0_1) else (none)) else (some false)) else (none)) else (none)))))) else (none)) else (none)) = some r := by first | (rw [hji9] at H; exact H) | (simp only [hji9] at H ⊢; exact H)
              (try rw [hji9] at A8)
              have hji9w : (IntKind.i64.wrap (t104 + 1)) = ji9 := (i64_w _).trans hji9
              by_cases c10 : 0 ≤ (ji9)
              · rw [if_pos c10] at H
                have c10b0 := eq_true c10
                have c10b1 : decide (0 ≤ (ji9)) = true := decide_eq_true c10
                clear c10
                by_cases c11 : (ji9) ≤ (x3_1.length : Int)
                · rw [if_pos c11] at H
                  have c11b0 := eq_true c11
                  have c11b1 : decide ((ji9) ≤ (x3_1.length : Int)) = true := decide_eq_true c11
                  clear c11
                  obtain ⟨y105, hy105⟩ : ∃ y_ : List ByteArray, y_ = (x3_1.take ((ji9) : Int).toNat) := ⟨_, rfl⟩
                  replace H : (if (y105.length : Int) = 0 then (some false) else (if (y105.length : Int) > 5 then (some false) else ((model_Place.f l0_0 l0_1 ((rd_T47 l0_1 x9_1).f2)).bind fun t108 => (if 0 ≤ t108 then (if t108 < (l0_1.length : Int) then (if ((rd_T47 l0_1 t108).f1) = 1 then (if y105.length < 8796093022208 then (model_stands.l0 k1 (y105 ++ [(rd_T47 l0_1 x9_1).f0]) l0_1 (l0_1.length : Int) (wrap64 (x9_1 + 1)) l0_0 l0_1) else (none)) else (some false)) else (none)) else (none))))) = some r := by first | (rw [hy105]; with_reducible exact H) | (have H2_ := (Option.bind_some _ _).symm.trans H; rw [hy105]; with_reducible exact H2_) | (have H2_ := (Option.bind_some _ _).symm.trans H; with_reducible exact H2_) | with_reducible exact H | (rw [hy105]; exact H) | exact H
                  have Ny105 := am hy105
                  clear hy105
                  by_cases c12 : (y105.length : Int) = 0
                  · rw [if_pos c12] at H
                    have c12b0 : ((y105.length : Int) == 0) = true := beq_iff_eq.mpr c12
                    have c12b1 : ((y105.length : Int) != 0) = false := bne_eq_false_iff_eq.mpr c12
                    clear c12
                    obtain rfl := Option.some.inj H
                    have p102 : 0 ≤ (x9_1 : Int) := of_decide_eq_true (zas)
                    have q102 : x9_1 < (l0_1.length : Int) := of_decide_eq_true (zas)
                    obtain ⟨ad102, A102_5, c102_5, A102_6, c102_6, e102, hx102_0, hx102_1, hx102_2, hx102_3, hx102_4, hx102_5, hx102_6, hl102_5, hi102_5, hl102_6, hi102_6⟩ := at_T47 HR0_1.out x9_1 p102 q102
                    cases e102
                    replace hx102_0 := ba HB hx102_0
                    replace hx102_1 := ba HB hx102_1
                    replace hx102_2 := ba HB hx102_2
                    replace hx102_3 := ba HB hx102_3
                    replace hx102_4 := ba HB hx102_4
                    replace hx102_5 := ba HB hx102_5
                    replace hx102_6 := ba HB hx102_6
                    have HR102_5 := am hi102_5
                    have HC102_5 := am hl102_5
                    clear hi102_5 hl102_5
                    have HR102_6 := am hi102_6
                    have HC102_6 := am hl102_6
                    clear hi102_6 hl102_6
                    replace p102 := eq_true p102
                    replace q102 := eq_true q102
                    try go_wp2_with (first | ((with_reducible refine gd_ 5 ?_); (try (refine gate_guard (by rfl) ?_; dsimp only)); refine bx_ 5 #[.string (⟨#[]⟩ : ByteArray), .int .i64 0, .string (⟨#[]⟩ : ByteArray), .bool false, .int .i64 0, .slice none 0 0, .slice none 0 0] 47 ?_; intro gb103 hg w13 hbox hb; replace HO_3 := am (Kd.R_below (zR HO_3.out) hb); have BK103 := am (hbox); have GW103 := am (zg : w.heap.size ≤ gb103); have GE103 := am (zg : w.heap.size ≤ gb103); replace HB := am (below_step (zb) hb); have NB101_103 := am ((zn BK101.out : gb101 ≠ gb103)); have NB103_101 := am ((zm BK101.out : gb103 ≠ gb101)); replace BK101 := am (zw BK101.out hb); clear hb hbox hg; have hnb14 := NB103_101.out; have hnc14 := NB101_103.out; obtain ⟨hcz15_0, hcz15_1, hcz15_2, hcz15_3, hcz15_4, hcz15_5, hcz15_6, hfz15_0, hfz15_1, hfz15_2, hfz15_3, hfz15_4, hfz15_5, hfz15_6⟩ := cf7 BK103.out) | ((with_reducible refine gate_store (t := 47) (p := 5) rfl ?_); refine store_event (t := 47) (p := 5) (v := ?vo_w16) (w1 := (((((((w13.setCell ⟨gb103, 0, none⟩ (.string ((rd_T47 l0_1 x9_1).f0))).setCell ⟨gb103, 1, none⟩ (.int .i64 ((rd_T47 l0_1 x9_1).f1))).setCell ⟨gb103, 2, none⟩ (.string ((rd_T47 l0_1 x9_1).f2))).setCell ⟨gb103, 3, none⟩ (.bool ((rd_T47 l0_1 x9_1).f3))).setCell ⟨gb103, 4, none⟩ (.int .i64 ((rd_T47 l0_1 x9_1).f4))).setCell ⟨gb103, 5, none⟩ (.slice A102_5 ((rd_T47 l0_1 x9_1).f5).length c102_5)).setCell ⟨gb103, 6, none⟩ (.slice A102_6 ((rd_T47 l0_1 x9_1).f6).length c102_6))) ?hg ?ho ?hn ?hr ?_; (case ho => rfl); (case hg => rfl); (case hn => rfl); (case hr => first | (go_simp; done) | (go_simp; rfl)); intro w16 hw; have n0_ : Aside0 (Kd.R Kd.string 9 w16 w.heap.size (fun _ => True) u3 x3_1) := ⟨(by rw [hw]; exact (by refine zR ?_; exact Kd.R_mono (Kd.R_far (p := ⟨gb103, 6, none⟩) (Kd.R_far (p := ⟨gb103, 5, none⟩) (Kd.R_far (p := ⟨gb103, 4, none⟩) (Kd.R_far (p := ⟨gb103, 3, none⟩) (Kd.R_far (p := ⟨gb103, 2, none⟩) (Kd.R_far (p := ⟨gb103, 1, none⟩) (Kd.R_far (p := ⟨gb103, 0, none⟩) (Kd.R_types HO_3.out BK103.out (by decide)) (fun _ hk => hk.2) (.string ((rd_T47 l0_1 x9_1).f0))) (fun _ hk => hk.2) (.int .i64 ((rd_T47 l0_1 x9_1).f1))) (fun _ hk => hk.2) (.string ((rd_T47 l0_1 x9_1).f2))) (fun _ hk => hk.2) (.bool ((rd_T47 l0_1 x9_1).f3))) (fun _ hk => hk.2) (.int .i64 ((rd_T47 l0_1 x9_1).f4))) (fun _ hk => hk.2) (.slice A102_5 ((rd_T47 l0_1 x9_1).f5).length c102_5)) (fun _ hk => hk.2) (.slice A102_6 ((rd_T47 l0_1 x9_1).f6).length c102_6)) (fun _ hk => trivial)))⟩; have n1_ : Aside0 (w16.heap[gb101]? = some (.cells #[.slice A0_0 l0_0.length c0_0, .slice (some ad102) l0_1.length c0_1] 25 (0, 0))) := ⟨(by rw [hw]; exact (by refine zl ?_; refine blk_far ?_ NB101_103.out _; refine zl ?_; refine blk_far ?_ NB101_103.out _; refine zl ?_; refine blk_far ?_ NB101_103.out _; refine zl ?_; refine blk_far ?_ NB101_103.out _; refine zl ?_; refine blk_far ?_ NB101_103.out _; refine zl ?_; refine blk_far ?_ NB101_103.out _; refine zl ?_; refine blk_far ?_ NB101_103.out _; refine zl ?_; exact BK101.out))⟩; have n2_ : Aside0 (w16.heap[gb103]? = some (.cells #[.string ((rd_T47 l0_1 x9_1).f0), .int .i64 ((rd_T47 l0_1 x9_1).f1), .string ((rd_T47 l0_1 x9_1).f2), .bool ((rd_T47 l0_1 x9_1).f3), .int .i64 ((rd_T47 l0_1 x9_1).f4), .slice A102_5 ((rd_T47 l0_1 x9_1).f5).length c102_5, .slice A102_6 ((rd_T47 l0_1 x9_1).f6).length c102_6] 47 (0, 0))) := ⟨(by rw [hw]; exact (by refine zl ?_; refine blk_put (cs := #[.string ((rd_T47 l0_1 x9_1).f0), .int .i64 ((rd_T47 l0_1 x9_1).f1), .string ((rd_T47 l0_1 x9_1).f2), .bool ((rd_T47 l0_1 x9_1).f3), .int .i64 ((rd_T47 l0_1 x9_1).f4), .slice A102_5 ((rd_T47 l0_1 x9_1).f5).length c102_5, .slice none 0 0]) ?_ 6 _ rfl; refine zl ?_; refine blk_put (cs := #[.string ((rd_T47 l0_1 x9_1).f0), .int .i64 ((rd_T47 l0_1 x9_1).f1), .string ((rd_T47 l0_1 x9_1).f2), .bool ((rd_T47 l0_1 x9_1).f3), .int .i64 ((rd_T47 l0_1 x9_1).f4), .slice none 0 0, .slice none 0 0]) ?_ 5 _ rfl; refine zl ?_; refine blk_put (cs := #[.string ((rd_T47 l0_1 x9_1).f0), .int .i64 ((rd_T47 l0_1 x9_1).f1), .string ((rd_T47 l0_1 x9_1).f2), .bool ((rd_T47 l0_1 x9_1).f3), .int .i64 0, .slice none 0 0, .slice none 0 0]) ?_ 4 _ rfl; refine zl ?_; refine blk_put (cs := #[.string ((rd_T47 l0_1 x9_1).f0), .int .i64 ((rd_T47 l0_1 x9_1).f1), .string ((rd_T47 l0_1 x9_1).f2), .bool false, .int .i64 0, .slice none 0 0, .slice none 0 0]) ?_ 3 _ rfl; refine zl ?_; refine blk_put (cs := #[.string ((rd_T47 l0_1 x9_1).f0), .int .i64 ((rd_T47 l0_1 x9_1).f1), .string (⟨#[]⟩ : ByteArray), .bool false, .int .i64 0, .slice none 0 0, .slice none 0 0]) ?_ 2 _ rfl; refine zl ?_; refine blk_put (cs := #[.string ((rd_T47 l0_1 x9_1).f0), .int .i64 0, .string (⟨#[]⟩ : ByteArray), .bool false, .int .i64 0, .slice none 0 0, .slice none 0 0]) ?_ 1 _ rfl; refine zl ?_; refine blk_put (cs := #[.string (⟨#[]⟩ : ByteArray), .int .i64 0, .string (⟨#[]⟩ : ByteArray), .bool false, .int .i64 0, .slice none 0 0, .slice none 0 0]) ?_ 0 _ rfl; refine zl ?_; exact BK103.out))⟩; have n3_ : Aside0 (Below w.heap.size w w16) := ⟨(by rw [hw]; exact (zb))⟩; clear hw; clear HO_3; clear BK101; clear BK103; clear HB; have HO_3 := n0_; have BK101 := n1_; have BK103 := n2_; have HB := n3_; clear n0_ n1_ n2_ n3_; obtain ⟨hcz17_0, hcz17_1, hcz17_2, hcz17_3, hcz17_4, hcz17_5, hcz17_6, hfz17_0, hfz17_1, hfz17_2, hfz17_3, hfz17_4, hfz17_5, hfz17_6⟩ := cf7 BK103.out; obtain ⟨Ao18, co18, eo18⟩ := Kd.R_slice HO_3.out; subst eo18) | ((with_reducible refine gc_ 141 ?_); refine goesL_ (some 20) rfl rfl Tryz.func141 (by kernel_rfl) rfl #[.slice Ao18 x3_1.length co18, .string ((rd_T47 l0_1 x9_1).f2)] rfl (za) ?_; (with_reducible refine (slices_Index_string_string.calls k1 _ _ x3_1 ((rd_T47 l0_1 x9_1).f2) t104 _ ?side1 ?side2 A8.out).mono ?_); (case side1 => exact zc (Kd.R_reads' HO_3.out).2.2); (case side2 => exact (Kd.R_reads' HO_3.out).2.1); rintro e w' ⟨rfl, ⟨nd, rfl⟩⟩; refine ⟨_, rfl, ?_⟩; have q19 : ((ji9) : Int) ≤ ((x3_1.length : Int) : Int) := of_decide_eq_true (zas); obtain ⟨i019, hi019, _, hsz19, _⟩ := info_parts info9; have hcut19 := cut_to (P := Tryz.prog) 22 9 .i64 Tryz.underlying22 hi019 Ao18 x3_1.length co18 (ji9) (of_decide_eq_true (zas)) q19 (Kd.R_reads' HO_3.out).2.1; have hr19 := Kd.R_take (m := ((ji9) : Int).toNat) HO_3.out (by omega); have hy19 : y105.length = ((ji9) : Int).toNat := (by rw [Ny105.out, List.length_take]; omega); rw [← Ny105.out] at hr19; rw [← hy19] at hr19 hcut19; clear hy19 hi019 hsz19 HO_3; have HO107 := am hr19; clear hr19; replace q19 := eq_true q19))
                    (try (rw [drewN_self w16]; generalize hq_ : World.drewN w16 _ = w16; have n0_ : Aside0 (Kd.R Kd.string 9 w16 w.heap.size (fun _ => True) (.slice Ao18 y105.length co18) y105) := ⟨by rw [← hq_]; exact (zR HO107.out)⟩; have n1_ : Aside0 (w16.heap[gb101]? = some (.cells #[.slice A0_0 l0_0.length c0_0, .slice (some ad102) l0_1.length c0_1] 25 (0, 0))) := ⟨by rw [← hq_]; exact (zl BK101.out)⟩; have n2_ : Aside0 (w16.heap[gb103]? = some (.cells #[.string ((rd_T47 l0_1 x9_1).f0), .int .i64 ((rd_T47 l0_1 x9_1).f1), .string ((rd_T47 l0_1 x9_1).f2), .bool ((rd_T47 l0_1 x9_1).f3), .int .i64 ((rd_T47 l0_1 x9_1).f4), .slice A102_5 ((rd_T47 l0_1 x9_1).f5).length c102_5, .slice A102_6 ((rd_T47 l0_1 x9_1).f6).length c102_6] 47 (0, 0))) := ⟨by rw [← hq_]; exact (zl BK103.out)⟩; have n3_ : Aside0 (Below w.heap.size w w16) := ⟨by rw [← hq_]; exact (zb)⟩; clear HO107 BK101 BK103 HB hq_; have HO107 := n0_; have BK101 := n1_; have BK103 := n2_; have HB := n3_; clear n0_ n1_ n2_ n3_))
                    replace HO107 := am (Kd.R_drew HO107.out)
                    replace BK101 := am (blk_drew BK101.out)
                    replace BK103 := am (blk_drew BK103.out)
                    replace HB := am (below_drew1 HB.out)
                    refine start_ (n := 20) (S := fun w' => True) (ds := []) #[false, false, false, false, false, false, false, false, false, false, false, false, false, false, false, false, false, false, false, false] (by kernel_rfl) rfl rfl trivial (fun hHeld => ?_); refine with_tabW model_stands.tab7 model_stands.bits7 (fun HT_ HW_ => ?_)
                    generalize w16.drew = w20 at HO107 BK101 BK103 HB hHeld ⊢
                    refine pz_ 0 23 20 1 ?_
                    refine pz_ 1 24 20 3 ?_
                    refine pz_ 2 25 20 7 ?_
                    refine pz_ 3 26 20 15 ?_
                    refine pu_ 4 27 20 31 ?_
                    refine pu_ 5 28 20 63 ?_
                    refine pu_ 6 29 20 127 ?_
                    refine pz_ 7 30 20 255 ?_
                    refine pz_ 8 31 20 511 ?_
                    refine pu_ 9 32 20 1023 ?_
                    refine pu_ 10 33 20 2047 ?_
                    refine pu_ 11 34 20 4095 ?_
                    refine pu_ 12 35 20 8191 ?_
                    refine pu_ 13 36 20 16383 ?_
                    refine pu_ 14 37 20 32767 ?_
                    refine pu_ 15 38 20 65535 ?_
                    refine pu_ 16 39 20 131071 ?_
                    refine pu_ 17 40 20 262143 ?_
                    refine pu_ 18 41 20 524287 ?_
                    refine pz_ 19 42 20 1048575 ?_
                    refine done_ (done_of HT_.out (by kernel_rfl)) ?_
                    try go_wp2
                    go_ret
                    exact ⟨by first | rfl | (simp [errW_none, errW_some] <;> rfl) | (simp only [← hji9]; first | rfl | (simp [errW_none, errW_some] <;> rfl)) | (simp [*, errW_none, errW_some] <;> rfl), zb⟩
                  · rw [if_neg c12] at H
                    have c12b0 : ((y105.length : Int) == 0) = false := beq_eq_false_iff_ne.mpr c12
                    have c12b1 : ((y105.length : Int) != 0) = true := bne_iff_ne.mpr c12
                    have c12b2 : ¬ (y105 = []) := fun h_ => c12 (by rw [h_]; rfl)
                    by_cases c21 : (y105.length : Int) > 5
                    · rw [if_pos c21] at H
                      have c21b0 : decide (5 < (y105.length : Int)) = true := decide_eq_true c21
                      have c21b1 : decide (5 < y105.length) = true := decide_eq_true (by omega)
                      clear c21
                      obtain rfl := Option.some.inj H
                      have p102 : 0 ≤ (x9_1 : Int) := of_decide_eq_true (zas)
                      have q102 : x9_1 < (l0_1.length : Int) := of_decide_eq_true (zas)
                      obtain ⟨ad102, A102_5, c102_5, A102_6, c102_6, e102, hx102_0, hx102_1, hx102_2, hx102_3, hx102_4, hx102_5, hx102_6, hl102_5, hi102_5, hl102_6, hi102_6⟩ := at_T47 HR0_1.out x9_1 p102 q102
                      cases e102
                      replace hx102_0 := ba HB hx102_0
                      replace hx102_1 := ba HB hx102_1
                      replace hx102_2 := ba HB hx102_2
                      replace hx102_3 := ba HB hx102_3
                      replace hx102_4 := ba HB hx102_4
                      replace hx102_5 := ba HB hx102_5
                      replace hx102_6 := ba HB hx102_6
                      have HR102_5 := am hi102_5
                      have HC102_5 := am hl102_5
                      clear hi102_5 hl102_5
                      have HR102_6 := am hi102_6
                      have HC102_6 := am hl102_6
                      clear hi102_6 hl102_6
                      replace p102 := eq_true p102
                      replace q102 := eq_true q102
                      try go_wp2_with (first | ((with_reducible refine gd_ 5 ?_); (try (refine gate_guard (by rfl) ?_; dsimp only)); refine bx_ 5 #[.string (⟨#[]⟩ : ByteArray), .int .i64 0, .string (⟨#[]⟩ : ByteArray), .bool false, .int .i64 0, .slice none 0 0, .slice none 0 0] 47 ?_; intro gb103 hg w22 hbox hb; replace HO_3 := am (Kd.R_below (zR HO_3.out) hb); have BK103 := am (hbox); have GW103 := am (zg : w.heap.size ≤ gb103); have GE103 := am (zg : w.heap.size ≤ gb103); replace HB := am (below_step (zb) hb); have NB101_103 := am ((zn BK101.out : gb101 ≠ gb103)); have NB103_101 := am ((zm BK101.out : gb103 ≠ gb101)); replace BK101 := am (zw BK101.out hb); clear hb hbox hg; have hnb23 := NB103_101.out; have hnc23 := NB101_103.out; obtain ⟨hcz24_0, hcz24_1, hcz24_2, hcz24_3, hcz24_4, hcz24_5, hcz24_6, hfz24_0, hfz24_1, hfz24_2, hfz24_3, hfz24_4, hfz24_5, hfz24_6⟩ := cf7 BK103.out) | ((with_reducible refine gate_store (t := 47) (p := 5) rfl ?_); refine store_event (t := 47) (p := 5) (v := ?vo_w25) (w1 := (((((((w22.setCell ⟨gb103, 0, none⟩ (.string ((rd_T47 l0_1 x9_1).f0))).setCell ⟨gb103, 1, none⟩ (.int .i64 ((rd_T47 l0_1 x9_1).f1))).setCell ⟨gb103, 2, none⟩ (.string ((rd_T47 l0_1 x9_1).f2))).setCell ⟨gb103, 3, none⟩ (.bool ((rd_T47 l0_1 x9_1).f3))).setCell ⟨gb103, 4, none⟩ (.int .i64 ((rd_T47 l0_1 x9_1).f4))).setCell ⟨gb103, 5, none⟩ (.slice A102_5 ((rd_T47 l0_1 x9_1).f5).length c102_5)).setCell ⟨gb103, 6, none⟩ (.slice A102_6 ((rd_T47 l0_1 x9_1).f6).length c102_6))) ?hg ?ho ?hn ?hr ?_; (case ho => rfl); (case hg => rfl); (case hn => rfl); (case hr => first | (go_simp; done) | (go_simp; rfl)); intro w25 hw; have n0_ : Aside0 (Kd.R Kd.string 9 w25 w.heap.size (fun _ => True) u3 x3_1) := ⟨(by rw [hw]; exact (by refine zR ?_; exact Kd.R_mono (Kd.R_far (p := ⟨gb103, 6, none⟩) (Kd.R_far (p := ⟨gb103, 5, none⟩) (Kd.R_far (p := ⟨gb103, 4, none⟩) (Kd.R_far (p := ⟨gb103, 3, none⟩) (Kd.R_far (p := ⟨gb103, 2, none⟩) (Kd.R_far (p := ⟨gb103, 1, none⟩) (Kd.R_far (p := ⟨gb103, 0, none⟩) (Kd.R_types HO_3.out BK103.out (by decide)) (fun _ hk => hk.2) (.string ((rd_T47 l0_1 x9_1).f0))) (fun _ hk => hk.2) (.int .i64 ((rd_T47 l0_1 x9_1).f1))) (fun _ hk => hk.2) (.string ((rd_T47 l0_1 x9_1).f2))) (fun _ hk => hk.2) (.bool ((rd_T47 l0_1 x9_1).f3))) (fun _ hk => hk.2) (.int .i64 ((rd_T47 l0_1 x9_1).f4))) (fun _ hk => hk.2) (.slice A102_5 ((rd_T47 l0_1 x9_1).f5).length c102_5)) (fun _ hk => hk.2) (.slice A102_6 ((rd_T47 l0_1 x9_1).f6).length c102_6)) (fun _ hk => trivial)))⟩; have n1_ : Aside0 (w25.heap[gb101]? = some (.cells #[.slice A0_0 l0_0.length c0_0, .slice (some ad102) l0_1.length c0_1] 25 (0, 0))) := ⟨(by rw [hw]; exact (by refine zl ?_; refine blk_far ?_ NB101_103.out _; refine zl ?_; refine blk_far ?_ NB101_103.out _; refine zl ?_; refine blk_far ?_ NB101_103.out _; refine zl ?_; refine blk_far ?_ NB101_103.out _; refine zl ?_; refine blk_far ?_ NB101_103.out _; refine zl ?_; refine blk_far ?_ NB101_103.out _; refine zl ?_; refine blk_far ?_ NB101_103.out _; refine zl ?_; exact BK101.out))⟩; have n2_ : Aside0 (w25.heap[gb103]? = some (.cells #[.string ((rd_T47 l0_1 x9_1).f0), .int .i64 ((rd_T47 l0_1 x9_1).f1), .string ((rd_T47 l0_1 x9_1).f2), .bool ((rd_T47 l0_1 x9_1).f3), .int .i64 ((rd_T47 l0_1 x9_1).f4), .slice A102_5 ((rd_T47 l0_1 x9_1).f5).length c102_5, .slice A102_6 ((rd_T47 l0_1 x9_1).f6).length c102_6] 47 (0, 0))) := ⟨(by rw [hw]; exact (by refine zl ?_; refine blk_put (cs := #[.string ((rd_T47 l0_1 x9_1).f0), .int .i64 ((rd_T47 l0_1 x9_1).f1), .string ((rd_T47 l0_1 x9_1).f2), .bool ((rd_T47 l0_1 x9_1).f3), .int .i64 ((rd_T47 l0_1 x9_1).f4), .slice A102_5 ((rd_T47 l0_1 x9_1).f5).length c102_5, .slice none 0 0]) ?_ 6 _ rfl; refine zl ?_; refine blk_put (cs := #[.string ((rd_T47 l0_1 x9_1).f0), .int .i64 ((rd_T47 l0_1 x9_1).f1), .string ((rd_T47 l0_1 x9_1).f2), .bool ((rd_T47 l0_1 x9_1).f3), .int .i64 ((rd_T47 l0_1 x9_1).f4), .slice none 0 0, .slice none 0 0]) ?_ 5 _ rfl; refine zl ?_; refine blk_put (cs := #[.string ((rd_T47 l0_1 x9_1).f0), .int .i64 ((rd_T47 l0_1 x9_1).f1), .string ((rd_T47 l0_1 x9_1).f2), .bool ((rd_T47 l0_1 x9_1).f3), .int .i64 0, .slice none 0 0, .slice none 0 0]) ?_ 4 _ rfl; refine zl ?_; refine blk_put (cs := #[.string ((rd_T47 l0_1 x9_1).f0), .int .i64 ((rd_T47 l0_1 x9_1).f1), .string ((rd_T47 l0_1 x9_1).f2), .bool false, .int .i64 0, .slice none 0 0, .slice none 0 0]) ?_ 3 _ rfl; refine zl ?_; refine blk_put (cs := #[.string ((rd_T47 l0_1 x9_1).f0), .int .i64 ((rd_T47 l0_1 x9_1).f1), .string (⟨#[]⟩ : ByteArray), .bool false, .int .i64 0, .slice none 0 0, .slice none 0 0]) ?_ 2 _ rfl; refine zl ?_; refine blk_put (cs := #[.string ((rd_T47 l0_1 x9_1).f0), .int .i64 0, .string (⟨#[]⟩ : ByteArray), .bool false, .int .i64 0, .slice none 0 0, .slice none 0 0]) ?_ 1 _ rfl; refine zl ?_; refine blk_put (cs := #[.string (⟨#[]⟩ : ByteArray), .int .i64 0, .string (⟨#[]⟩ : ByteArray), .bool false, .int .i64 0, .slice none 0 0, .slice none 0 0]) ?_ 0 _ rfl; refine zl ?_; exact BK103.out))⟩; have n3_ : Aside0 (Below w.heap.size w w25) := ⟨(by rw [hw]; exact (zb))⟩; clear hw; clear HO_3; clear BK101; clear BK103; clear HB; have HO_3 := n0_; have BK101 := n1_; have BK103 := n2_; have HB := n3_; clear n0_ n1_ n2_ n3_; obtain ⟨hcz26_0, hcz26_1, hcz26_2, hcz26_3, hcz26_4, hcz26_5, hcz26_6, hfz26_0, hfz26_1, hfz26_2, hfz26_3, hfz26_4, hfz26_5, hfz26_6⟩ := cf7 BK103.out; obtain ⟨Ao27, co27, eo27⟩ := Kd.R_slice HO_3.out; subst eo27) | ((with_reducible refine gc_ 141 ?_); refine goesL_ (some 20) rfl rfl Tryz.func141 (by kernel_rfl) rfl #[.slice Ao27 x3_1.length co27, .string ((rd_T47 l0_1 x9_1).f2)] rfl (za) ?_; (with_reducible refine (slices_Index_string_string.calls k1 _ _ x3_1 ((rd_T47 l0_1 x9_1).f2) t104 _ ?side1 ?side2 A8.out).mono ?_); (case side1 => exact zc (Kd.R_reads' HO_3.out).2.2); (case side2 => exact (Kd.R_reads' HO_3.out).2.1); rintro e w' ⟨rfl, ⟨nd, rfl⟩⟩; refine ⟨_, rfl, ?_⟩; have q28 : ((ji9) : Int) ≤ ((x3_1.length : Int) : Int) := of_decide_eq_true (zas); obtain ⟨i028, hi028, _, hsz28, _⟩ := info_parts info9; have hcut28 := cut_to (P := Tryz.prog) 22 9 .i64 Tryz.underlying22 hi028 Ao27 x3_1.length co27 (ji9) (of_decide_eq_true (zas)) q28 (Kd.R_reads' HO_3.out).2.1; have hr28 := Kd.R_take (m := ((ji9) : Int).toNat) HO_3.out (by omega); have hy28 : y105.length = ((ji9) : Int).toNat := (by rw [Ny105.out, List.length_take]; omega); rw [← Ny105.out] at hr28; rw [← hy28] at hr28 hcut28; clear hy28 hi028 hsz28 HO_3; have HO107 := am hr28; clear hr28; replace q28 := eq_true q28))
                      (try (rw [drewN_self w25]; generalize hq_ : World.drewN w25 _ = w25; have n0_ : Aside0 (Kd.R Kd.string 9 w25 w.heap.size (fun _ => True) (.slice Ao27 y105.length co27) y105) := ⟨by rw [← hq_]; exact (zR HO107.out)⟩; have n1_ : Aside0 (w25.heap[gb101]? = some (.cells #[.slice A0_0 l0_0.length c0_0, .slice (some ad102) l0_1.length c0_1] 25 (0, 0))) := ⟨by rw [← hq_]; exact (zl BK101.out)⟩; have n2_ : Aside0 (w25.heap[gb103]? = some (.cells #[.string ((rd_T47 l0_1 x9_1).f0), .int .i64 ((rd_T47 l0_1 x9_1).f1), .string ((rd_T47 l0_1 x9_1).f2), .bool ((rd_T47 l0_1 x9_1).f3), .int .i64 ((rd_T47 l0_1 x9_1).f4), .slice A102_5 ((rd_T47 l0_1 x9_1).f5).length c102_5, .slice A102_6 ((rd_T47 l0_1 x9_1).f6).length c102_6] 47 (0, 0))) := ⟨by rw [← hq_]; exact (zl BK103.out)⟩; have n3_ : Aside0 (Below w.heap.size w w25) := ⟨by rw [← hq_]; exact (zb)⟩; clear HO107 BK101 BK103 HB hq_; have HO107 := n0_; have BK101 := n1_; have BK103 := n2_; have HB := n3_; clear n0_ n1_ n2_ n3_))
                      replace HO107 := am (Kd.R_drew HO107.out)
                      replace BK101 := am (blk_drew BK101.out)
                      replace BK103 := am (blk_drew BK103.out)
                      replace HB := am (below_drew1 HB.out)
                      refine start_ (n := 20) (S := fun w' => True) (ds := []) #[false, false, false, false, false, false, false, false, false, false, false, false, false, false, false, false, false, false, false, false] (by kernel_rfl) rfl rfl trivial (fun hHeld => ?_); refine with_tabW model_stands.tab7 model_stands.bits7 (fun HT_ HW_ => ?_)
                      generalize w25.drew = w29 at HO107 BK101 BK103 HB hHeld ⊢
                      refine pz_ 0 23 20 1 ?_
                      refine pz_ 1 24 20 3 ?_
                      refine pz_ 2 25 20 7 ?_
                      refine pz_ 3 26 20 15 ?_
                      refine pz_ 4 27 20 31 ?_
                      refine pz_ 5 28 20 63 ?_
                      refine pz_ 6 29 20 127 ?_
                      refine pz_ 7 30 20 255 ?_
                      refine pz_ 8 31 20 511 ?_
                      refine pu_ 9 32 20 1023 ?_
                      refine pu_ 10 33 20 2047 ?_
                      refine pu_ 11 34 20 4095 ?_
                      refine pu_ 12 35 20 8191 ?_
                      refine pu_ 13 36 20 16383 ?_
                      refine pu_ 14 37 20 32767 ?_
                      refine pu_ 15 38 20 65535 ?_
                      refine pu_ 16 39 20 131071 ?_
                      refine pu_ 17 40 20 262143 ?_
                      refine pu_ 18 41 20 524287 ?_
                      refine pz_ 19 42 20 1048575 ?_
                      refine done_ (done_of HT_.out (by kernel_rfl)) ?_
                      try go_wp2
                      go_ret
                      exact ⟨by first | rfl | (simp [errW_none, errW_some] <;> rfl) | (simp only [← hji9]; first | rfl | (simp [errW_none, errW_some] <;> rfl)) | (simp [*, errW_none, errW_some] <;> rfl), zb⟩
                    · rw [if_neg c21] at H
                      have c21b0 : decide (5 < (y105.length : Int)) = false := decide_eq_false c21
                      have c21b1 : decide (5 < y105.length) = false := decide_eq_false (by omega)
                      clear c21
                      replace H := Option.bind_eq_some_iff.mp H
                      obtain ⟨t108, A300, H⟩ := H
                      replace H : (if 0 ≤ t108 then (if t108 < (l0_1.length : Int) then (if ((rd_T47 l0_1 t108).f1) = 1 then (if y105.length < 8796093022208 then (model_stands.l0 k1 (y105 ++ [(rd_T47 l0_1 x9_1).f0]) l0_1 (l0_1.length : Int) (wrap64 (x9_1 + 1)) l0_0 l0_1) else (none)) else (some false)) else (none)) else (none)) = some r := H
                      have A30 := am A300
                      clear A300
                      by_cases c31 : 0 ≤ t108
                      · rw [if_pos c31] at H
                        have c31b0 : decide (0 ≤ t108) = true := decide_eq_true c31
                        clear c31
                        by_cases c32 : t108 < (l0_1.length : Int)
                        · rw [if_pos c32] at H
                          have c32b0 : decide (t108 < (l0_1.length : Int)) = true := decide_eq_true c32
                          clear c32
                          by_cases c33 : ((rd_T47 l0_1 t108).f1) = 1
                          · rw [if_pos c33] at H
                            have c33b0 : (((rd_T47 l0_1 t108).f1) == 1) = true := beq_iff_eq.mpr c33
                            have c33b1 : (((rd_T47 l0_1 t108).f1) != 1) = false := bne_eq_false_iff_eq.mpr c33
                            clear c33
                            by_cases c34 : y105.length < 8796093022208
                            · rw [if_pos c34] at H
                              have LMc34 := am c34
                              clear c34
                              obtain ⟨y110, hy110⟩ : ∃ y_ : List ByteArray, y_ = (y105 ++ [(rd_T47 l0_1 x9_1).f0]) := ⟨_, rfl⟩
                              replace H : (model_stands.l0 k1 y110 l0_1 (l0_1.length : Int) (wrap64 (x9_1 + 1)) l0_0 l0_1) = some r := by first | (rw [hy110]; with_reducible exact H) | (have H2_ := (Option.bind_some _ _).symm.trans H; rw [hy110]; with_reducible exact H2_) | (have H2_ := (Option.bind_some _ _).symm.trans H; with_reducible exact H2_) | with_reducible exact H | (rw [hy110]; exact H) | exact H
                              have Ny110 := am hy110
                              clear hy110
                              have H' := am H
                              clear H
                              have p102 : 0 ≤ (x9_1 : Int) := of_decide_eq_true (zas)
                              have q102 : x9_1 < (l0_1.length : Int) := of_decide_eq_true (zas)
                              obtain ⟨ad102, A102_5, c102_5, A102_6, c102_6, e102, hx102_0, hx102_1, hx102_2, hx102_3, hx102_4, hx102_5, hx102_6, hl102_5, hi102_5, hl102_6, hi102_6⟩ := at_T47 HR0_1.out x9_1 p102 q102
                              cases e102
                              replace hx102_0 := ba HB hx102_0
                              replace hx102_1 := ba HB hx102_1
                              replace hx102_2 := ba HB hx102_2
                              replace hx102_3 := ba HB hx102_3
                              replace hx102_4 := ba HB hx102_4
                              replace hx102_5 := ba HB hx102_5
                              replace hx102_6 := ba HB hx102_6
                              have HR102_5 := am hi102_5
                              have HC102_5 := am hl102_5
                              clear hi102_5 hl102_5
                              have HR102_6 := am hi102_6
                              have HC102_6 := am hl102_6
                              clear hi102_6 hl102_6
                              replace p102 := eq_true p102
                              replace q102 := eq_true q102
                              try go_wp2_with (first | ((with_reducible refine gd_ 5 ?_); (try (refine gate_guard (by rfl) ?_; dsimp only)); refine bx_ 5 #[.string (⟨#[]⟩ : ByteArray), .int .i64 0, .string (⟨#[]⟩ : ByteArray), .bool false, .int .i64 0, .slice none 0 0, .slice none 0 0] 47 ?_; intro gb103 hg w35 hbox hb; replace HO_3 := am (Kd.R_below (zR HO_3.out) hb); have BK103 := am (hbox); have GW103 := am (zg : w.heap.size ≤ gb103); have GE103 := am (zg : w.heap.size ≤ gb103); replace HB := am (below_step (zb) hb); have NB101_103 := am ((zn BK101.out : gb101 ≠ gb103)); have NB103_101 := am ((zm BK101.out : gb103 ≠ gb101)); replace BK101 := am (zw BK101.out hb); clear hb hbox hg; have hnb36 := NB103_101.out; have hnc36 := NB101_103.out; obtain ⟨hcz37_0, hcz37_1, hcz37_2, hcz37_3, hcz37_4, hcz37_5, hcz37_6, hfz37_0, hfz37_1, hfz37_2, hfz37_3, hfz37_4, hfz37_5, hfz37_6⟩ := cf7 BK103.out) | ((with_reducible refine gate_store (t := 47) (p := 5) rfl ?_); refine store_event (t := 47) (p := 5) (v := ?vo_w38) (w1 := (((((((w35.setCell ⟨gb103, 0, none⟩ (.string ((rd_T47 l0_1 x9_1).f0))).setCell ⟨gb103, 1, none⟩ (.int .i64 ((rd_T47 l0_1 x9_1).f1))).setCell ⟨gb103, 2, none⟩ (.string ((rd_T47 l0_1 x9_1).f2))).setCell ⟨gb103, 3, none⟩ (.bool ((rd_T47 l0_1 x9_1).f3))).setCell ⟨gb103, 4, none⟩ (.int .i64 ((rd_T47 l0_1 x9_1).f4))).setCell ⟨gb103, 5, none⟩ (.slice A102_5 ((rd_T47 l0_1 x9_1).f5).length c102_5)).setCell ⟨gb103, 6, none⟩ (.slice A102_6 ((rd_T47 l0_1 x9_1).f6).length c102_6))) ?hg ?ho ?hn ?hr ?_; (case ho => rfl); (case hg => rfl); (case hn => rfl); (case hr => first | (go_simp; done) | (go_simp; rfl)); intro w38 hw; have n0_ : Aside0 (Kd.R Kd.string 9 w38 w.heap.size (fun _ => True) u3 x3_1) := ⟨(by rw [hw]; exact (by refine zR ?_; exact Kd.R_mono (Kd.R_far (p := ⟨gb103, 6, none⟩) (Kd.R_far (p := ⟨gb103, 5, none⟩) (Kd.R_far (p := ⟨gb103, 4, none⟩) (Kd.R_far (p := ⟨gb103, 3, none⟩) (Kd.R_far (p := ⟨gb103, 2, none⟩) (Kd.R_far (p := ⟨gb103, 1, none⟩) (Kd.R_far (p := ⟨gb103, 0, none⟩) (Kd.R_types HO_3.out BK103.out (by decide)) (fun _ hk => hk.2) (.string ((rd_T47 l0_1 x9_1).f0))) (fun _ hk => hk.2) (.int .i64 ((rd_T47 l0_1 x9_1).f1))) (fun _ hk => hk.2) (.string ((rd_T47 l0_1 x9_1).f2))) (fun _ hk => hk.2) (.bool ((rd_T47 l0_1 x9_1).f3))) (fun _ hk => hk.2) (.int .i64 ((rd_T47 l0_1 x9_1).f4))) (fun _ hk => hk.2) (.slice A102_5 ((rd_T47 l0_1 x9_1).f5).length c102_5)) (fun _ hk => hk.2) (.slice A102_6 ((rd_T47 l0_1 x9_1).f6).length c102_6)) (fun _ hk => trivial)))⟩; have n1_ : Aside0 (w38.heap[gb101]? = some (.cells #[.slice A0_0 l0_0.length c0_0, .slice (some ad102) l0_1.length c0_1] 25 (0, 0))) := ⟨(by rw [hw]; exact (by refine zl ?_; refine blk_far ?_ NB101_103.out _; refine zl ?_; refine blk_far ?_ NB101_103.out _; refine zl ?_; refine blk_far ?_ NB101_103.out _; refine zl ?_; refine blk_far ?_ NB101_103.out _; refine zl ?_; refine blk_far ?_ NB101_103.out _; refine zl ?_; refine blk_far ?_ NB101_103.out _; refine zl ?_; refine blk_far ?_ NB101_103.out _; refine zl ?_; exact BK101.out))⟩; have n2_ : Aside0 (w38.heap[gb103]? = some (.cells #[.string ((rd_T47 l0_1 x9_1).f0), .int .i64 ((rd_T47 l0_1 x9_1).f1), .string ((rd_T47 l0_1 x9_1).f2), .bool ((rd_T47 l0_1 x9_1).f3), .int .i64 ((rd_T47 l0_1 x9_1).f4), .slice A102_5 ((rd_T47 l0_1 x9_1).f5).length c102_5, .slice A102_6 ((rd_T47 l0_1 x9_1).f6).length c102_6] 47 (0, 0))) := ⟨(by rw [hw]; exact (by refine zl ?_; refine blk_put (cs := #[.string ((rd_T47 l0_1 x9_1).f0), .int .i64 ((rd_T47 l0_1 x9_1).f1), .string ((rd_T47 l0_1 x9_1).f2), .bool ((rd_T47 l0_1 x9_1).f3), .int .i64 ((rd_T47 l0_1 x9_1).f4), .slice A102_5 ((rd_T47 l0_1 x9_1).f5).length c102_5, .slice none 0 0]) ?_ 6 _ rfl; refine zl ?_; refine blk_put (cs := #[.string ((rd_T47 l0_1 x9_1).f0), .int .i64 ((rd_T47 l0_1 x9_1).f1), .string ((rd_T47 l0_1 x9_1).f2), .bool ((rd_T47 l0_1 x9_1).f3), .int .i64 ((rd_T47 l0_1 x9_1).f4), .slice none 0 0, .slice none 0 0]) ?_ 5 _ rfl; refine zl ?_; refine blk_put (cs := #[.string ((rd_T47 l0_1 x9_1).f0), .int .i64 ((rd_T47 l0_1 x9_1).f1), .string ((rd_T47 l0_1 x9_1).f2), .bool ((rd_T47 l0_1 x9_1).f3), .int .i64 0, .slice none 0 0, .slice none 0 0]) ?_ 4 _ rfl; refine zl ?_; refine blk_put (cs := #[.string ((rd_T47 l0_1 x9_1).f0), .int .i64 ((rd_T47 l0_1 x9_1).f1), .string ((rd_T47 l0_1 x9_1).f2), .bool false, .int .i64 0, .slice none 0 0, .slice none 0 0]) ?_ 3 _ rfl; refine zl ?_; refine blk_put (cs := #[.string ((rd_T47 l0_1 x9_1).f0), .int .i64 ((rd_T47 l0_1 x9_1).f1), .string (⟨#[]⟩ : ByteArray), .bool false, .int .i64 0, .slice none 0 0, .slice none 0 0]) ?_ 2 _ rfl; refine zl ?_; refine blk_put (cs := #[.string ((rd_T47 l0_1 x9_1).f0), .int .i64 0, .string (⟨#[]⟩ : ByteArray), .bool false, .int .i64 0, .slice none 0 0, .slice none 0 0]) ?_ 1 _ rfl; refine zl ?_; refine blk_put (cs := #[.string (⟨#[]⟩ : ByteArray), .int .i64 0, .string (⟨#[]⟩ : ByteArray), .bool false, .int .i64 0, .slice none 0 0, .slice none 0 0]) ?_ 0 _ rfl; refine zl ?_; exact BK103.out))⟩; have n3_ : Aside0 (Below w.heap.size w w38) := ⟨(by rw [hw]; exact (zb))⟩; clear hw; clear HO_3; clear BK101; clear BK103; clear HB; have HO_3 := n0_; have BK101 := n1_; have BK103 := n2_; have HB := n3_; clear n0_ n1_ n2_ n3_; obtain ⟨hcz39_0, hcz39_1, hcz39_2, hcz39_3, hcz39_4, hcz39_5, hcz39_6, hfz39_0, hfz39_1, hfz39_2, hfz39_3, hfz39_4, hfz39_5, hfz39_6⟩ := cf7 BK103.out; obtain ⟨Ao40, co40, eo40⟩ := Kd.R_slice HO_3.out; subst eo40) | ((with_reducible refine gc_ 141 ?_); refine goesL_ (some 20) rfl rfl Tryz.func141 (by kernel_rfl) rfl #[.slice Ao40 x3_1.length co40, .string ((rd_T47 l0_1 x9_1).f2)] rfl (za) ?_; (with_reducible refine (slices_Index_string_string.calls k1 _ _ x3_1 ((rd_T47 l0_1 x9_1).f2) t104 _ ?side1 ?side2 A8.out).mono ?_); (case side1 => exact zc (Kd.R_reads' HO_3.out).2.2); (case side2 => exact (Kd.R_reads' HO_3.out).2.1); rintro e w' ⟨rfl, ⟨nd, rfl⟩⟩; refine ⟨_, rfl, ?_⟩; have q41 : ((ji9) : Int) ≤ ((x3_1.length : Int) : Int) := of_decide_eq_true (zas); obtain ⟨i041, hi041, _, hsz41, _⟩ := info_parts info9; have hcut41 := cut_to (P := Tryz.prog) 22 9 .i64 Tryz.underlying22 hi041 Ao40 x3_1.length co40 (ji9) (of_decide_eq_true (zas)) q41 (Kd.R_reads' HO_3.out).2.1; have hr41 := Kd.R_take (m := ((ji9) : Int).toNat) HO_3.out (by omega); have hy41 : y105.length = ((ji9) : Int).toNat := (by rw [Ny105.out, List.length_take]; omega); rw [← Ny105.out] at hr41; rw [← hy41] at hr41 hcut41; clear hy41 hi041 hsz41 HO_3; have HO107 := am hr41; clear hr41; replace q41 := eq_true q41))
                              (try (rw [drewN_self w38]; generalize hq_ : World.drewN w38 _ = w38; have n0_ : Aside0 (Kd.R Kd.string 9 w38 w.heap.size (fun _ => True) (.slice Ao40 y105.length co40) y105) := ⟨by rw [← hq_]; exact (zR HO107.out)⟩; have n1_ : Aside0 (w38.heap[gb101]? = some (.cells #[.slice A0_0 l0_0.length c0_0, .slice (some ad102) l0_1.length c0_1] 25 (0, 0))) := ⟨by rw [← hq_]; exact (zl BK101.out)⟩; have n2_ : Aside0 (w38.heap[gb103]? = some (.cells #[.string ((rd_T47 l0_1 x9_1).f0), .int .i64 ((rd_T47 l0_1 x9_1).f1), .string ((rd_T47 l0_1 x9_1).f2), .bool ((rd_T47 l0_1 x9_1).f3), .int .i64 ((rd_T47 l0_1 x9_1).f4), .slice A102_5 ((rd_T47 l0_1 x9_1).f5).length c102_5, .slice A102_6 ((rd_T47 l0_1 x9_1).f6).length c102_6] 47 (0, 0))) := ⟨by rw [← hq_]; exact (zl BK103.out)⟩; have n3_ : Aside0 (Below w.heap.size w w38) := ⟨by rw [← hq_]; exact (zb)⟩; clear HO107 BK101 BK103 HB hq_; have HO107 := n0_; have BK101 := n1_; have BK103 := n2_; have HB := n3_; clear n0_ n1_ n2_ n3_))
                              replace HO107 := am (Kd.R_drew HO107.out)
                              replace BK101 := am (blk_drew BK101.out)
                              replace BK103 := am (blk_drew BK103.out)
                              replace HB := am (below_drew1 HB.out)
                              have p109 : 0 ≤ (t108 : Int) := of_decide_eq_true (zas)
                              have q109 : t108 < (l0_1.length : Int) := of_decide_eq_true (zas)
                              obtain ⟨ad109, A109_5, c109_5, A109_6, c109_6, e109, hx109_0, hx109_1, hx109_2, hx109_3, hx109_4, hx109_5, hx109_6, hl109_5, hi109_5, hl109_6, hi109_6⟩ := at_T47 HR0_1.out t108 p109 q109
                              have hw109_6 := hx109_6
                              have hw109_5 := hx109_5
                              have hw109_4 := hx109_4
                              have hw109_3 := hx109_3
                              have hw109_2 := hx109_2
                              have hw109_1 := hx109_1
                              have hw109_0 := hx109_0
                              obtain rfl : ad102 = ad109 := (by injection e109)
                              replace hx109_0 := ba HB hx109_0
                              replace hx109_1 := ba HB hx109_1
                              replace hx109_2 := ba HB hx109_2
                              replace hx109_3 := ba HB hx109_3
                              replace hx109_4 := ba HB hx109_4
                              replace hx109_5 := ba HB hx109_5
                              replace hx109_6 := ba HB hx109_6
                              have HR109_5 := am hi109_5
                              have HC109_5 := am hl109_5
                              clear hi109_5 hl109_5
                              have HR109_6 := am hi109_6
                              have HC109_6 := am hl109_6
                              clear hi109_6 hl109_6
                              replace p109 := eq_true p109
                              replace q109 := eq_true q109
                              refine start_ (n := 20) (S := fun w' => w'.cell? ⟨gb101, 0, none⟩ = some (.slice A0_0 l0_0.length c0_0) ∧ w'.cell? ⟨gb101, 1, none⟩ = some (.slice (some ad102) l0_1.length c0_1) ∧ w'.cell? ⟨gb103, 0, none⟩ = some (.string ((rd_T47 l0_1 x9_1).f0)) ∧ w'.cell? ⟨gb103, 1, none⟩ = some (.int .i64 ((rd_T47 l0_1 x9_1).f1)) ∧ w'.cell? ⟨gb103, 2, none⟩ = some (.string ((rd_T47 l0_1 x9_1).f2)) ∧ w'.cell? ⟨gb103, 3, none⟩ = some (.bool ((rd_T47 l0_1 x9_1).f3)) ∧ w'.cell? ⟨gb103, 4, none⟩ = some (.int .i64 ((rd_T47 l0_1 x9_1).f4)) ∧ w'.cell? ⟨gb103, 5, none⟩ = some (.slice A102_5 ((rd_T47 l0_1 x9_1).f5).length c102_5) ∧ w'.cell? ⟨gb103, 6, none⟩ = some (.slice A102_6 ((rd_T47 l0_1 x9_1).f6).length c102_6) ∧ w'.cell? (ad102.add ((t108).toNat * 7)) = some (.string ((rd_T47 l0_1 t108).f0)) ∧ w'.cell? ⟨(ad102.add ((t108).toNat * 7)).block, (ad102.add ((t108).toNat * 7)).off + 1, none⟩ = some (.int .i64 ((rd_T47 l0_1 t108).f1)) ∧ w'.cell? ⟨(ad102.add ((t108).toNat * 7)).block, (ad102.add ((t108).toNat * 7)).off + 2, none⟩ = some (.string ((rd_T47 l0_1 t108).f2)) ∧ w'.cell? ⟨(ad102.add ((t108).toNat * 7)).block, (ad102.add ((t108).toNat * 7)).off + 3, none⟩ = some (.bool ((rd_T47 l0_1 t108).f3)) ∧ w'.cell? ⟨(ad102.add ((t108).toNat * 7)).block, (ad102.add ((t108).toNat * 7)).off + 4, none⟩ = some (.int .i64 ((rd_T47 l0_1 t108).f4)) ∧ w'.cell? ⟨(ad102.add ((t108).toNat * 7)).block, (ad102.add ((t108).toNat * 7)).off + 5, none⟩ = some (.slice A109_5 ((rd_T47 l0_1 t108).f5).length c109_5) ∧ w'.cell? ⟨(ad102.add ((t108).toNat * 7)).block, (ad102.add ((t108).toNat * 7)).off + 6, none⟩ = some (.slice A109_6 ((rd_T47 l0_1 t108).f6).length c109_6)) (ds := []) #[false, false, false, false, false, false, false, false, false, false, false, false, false, false, false, false, false, false, false, false] (by kernel_rfl) rfl rfl ⟨(blk_cell BK101.out 0).trans rfl, (blk_cell BK101.out 1).trans rfl, (blk_cell BK103.out 0).trans rfl, (blk_cell BK103.out 1).trans rfl, (blk_cell BK103.out 2).trans rfl, (blk_cell BK103.out 3).trans rfl, (blk_cell BK103.out 4).trans rfl, (blk_cell BK103.out 5).trans rfl, (blk_cell BK103.out 6).trans rfl, (ba HB hw109_0), (ba HB hw109_1), (ba HB hw109_2), (ba HB hw109_3), (ba HB hw109_4), (ba HB hw109_5), (ba HB hw109_6)⟩ (fun hHeld => ?_); refine with_tabW model_stands.tab7 model_stands.bits7 (fun HT_ HW_ => ?_)
                              generalize w38.drew = w42 at HO107 BK101 BK103 HB HR109_5 HR109_6 hx109_0 hx109_1 hx109_2 hx109_3 hx109_4 hx109_5 hx109_6 hHeld ⊢
                              refine pz_ 0 23 20 1 ?_
                              refine pz_ 1 24 20 3 ?_
                              refine pz_ 2 25 20 7 ?_
                              refine pz_ 3 26 20 15 ?_
                              refine pz_ 4 27 20 31 ?_
                              refine pz_ 5 28 20 63 ?_
                              refine pz_ 6 29 20 127 ?_
                              refine pz_ 7 30 20 255 ?_
                              refine pz_ 8 31 20 511 ?_
                              refine pz_ 9 32 20 1023 ?_
                              refine pz_ 12 35 20 5119 ?_
                              refine tz_ 10 33 20 6143 ?_
                              refine tz_ 11 34 20 8191 ?_
                              refine tz_ 13 36 20 16383 ?_
                              refine one_ (i := 14) (N := some 37) #[true, true, true, true, true, true, true, true, true, true, true, true, true, true, true, false, false, false, false, false] rfl rfl (one_of HT_.out (by kernel_rfl)) (by decide) (fun K hK => ?_)
                              refine goes_ Tryz.func151 (by kernel_rfl) rfl #[.agg #[.slice A0_0 l0_0.length c0_0, .slice (some ad102) l0_1.length c0_1], .string ((rd_T47 l0_1 x9_1).f2)] (by rfl) rfl rfl (za) ?_
                              with_reducible refine (model_Place.calls _ _ l0_0 _ _ l0_1 ((rd_T47 l0_1 x9_1).f2) t108 _ ?side1 ?side2 ?side3 ?side4 A30.out).mono ?_
                              (case side1 => exact zc (Kd.C_below HR0_0.out HB.out))
                              (case side2 => exact HC0_0.out)
                              (case side3 => exact zc (Kd.C_below HR0_1.out HB.out))
                              (case side4 => exact HC0_1.out)
                              rintro e w43 ⟨rfl, hb⟩
                              refine ⟨_, rfl, ?_⟩
                              replace HO107 := am (Kd.R_below (zR HO107.out) hb)
                              replace BK101 := am (zw BK101.out hb)
                              replace BK103 := am (zw BK103.out hb)
                              replace HB := am (below_step (zb) hb)
                              (try clear hb)
                              (try clear hb2)
                              (try clear hk)
                              (try clear hi)
                              refine hK.out _ _ ⟨(blk_cell BK101.out 0).trans rfl, (blk_cell BK101.out 1).trans rfl, (blk_cell BK103.out 0).trans rfl, (blk_cell BK103.out 1).trans rfl, (blk_cell BK103.out 2).trans rfl, (blk_cell BK103.out 3).trans rfl, (blk_cell BK103.out 4).trans rfl, (blk_cell BK103.out 5).trans rfl, (blk_cell BK103.out 6).trans rfl, (ba HB hw109_0), (ba HB hw109_1), (ba HB hw109_2), (ba HB hw109_3), (ba HB hw109_4), (ba HB hw109_5), (ba HB hw109_6)⟩ (fun hHeld => ?_)
                              clear hK K
                              refine nz_ 37 ?_
                              refine pz_ 15 38 20 65535 ?_
                              refine pz_ 16 39 20 131071 ?_
                              refine tz_ 17 40 20 262143 ?_
                              refine pz_ 18 41 20 524287 ?_
                              refine pz_ 19 42 20 1048575 ?_
                              refine done_ (done_of HT_.out (by kernel_rfl)) ?_
                              try go_wp2
                              replace HO107 := am (Kd.R_drew HO107.out)
                              replace BK101 := am (blk_drew BK101.out)
                              replace BK103 := am (blk_drew BK103.out)
                              replace HB := am (below_drew1 HB.out)
                              have hcap_ : y105.length ≤ co40 := (Kd.R_reads' HO107.out).2.1
                              refine start_ (n := 11) (S := fun w' => w'.cell? ⟨gb103, 0, none⟩ = some (.string ((rd_T47 l0_1 x9_1).f0)) ∧ w'.cell? ⟨gb103, 1, none⟩ = some (.int .i64 ((rd_T47 l0_1 x9_1).f1)) ∧ w'.cell? ⟨gb103, 2, none⟩ = some (.string ((rd_T47 l0_1 x9_1).f2)) ∧ w'.cell? ⟨gb103, 3, none⟩ = some (.bool ((rd_T47 l0_1 x9_1).f3)) ∧ w'.cell? ⟨gb103, 4, none⟩ = some (.int .i64 ((rd_T47 l0_1 x9_1).f4)) ∧ w'.cell? ⟨gb103, 5, none⟩ = some (.slice A102_5 ((rd_T47 l0_1 x9_1).f5).length c102_5) ∧ w'.cell? ⟨gb103, 6, none⟩ = some (.slice A102_6 ((rd_T47 l0_1 x9_1).f6).length c102_6)) (ds := []) #[false, false, false, false, false, false, false, false, false, false, false] (by kernel_rfl) rfl rfl ⟨(blk_cell BK103.out 0).trans rfl, (blk_cell BK103.out 1).trans rfl, (blk_cell BK103.out 2).trans rfl, (blk_cell BK103.out 3).trans rfl, (blk_cell BK103.out 4).trans rfl, (blk_cell BK103.out 5).trans rfl, (blk_cell BK103.out 6).trans rfl⟩ (fun hHeld => ?_); refine with_tabW model_stands.tab9 model_stands.bits9 (fun HT_ HW_ => ?_)
                              generalize w43.drew = w44 at HO107 BK101 BK103 HB hHeld ⊢
                              refine pz_ 0 43 11 1 ?_
                              refine pz_ 1 44 11 3 ?_
                              refine pz_ 2 45 11 7 ?_
                              refine pz_ 3 46 11 15 ?_
                              refine pz_ 4 47 11 31 ?_
                              refine pz_ 5 48 11 63 ?_
                              refine pz_ 6 49 11 127 ?_
                              refine tz_ 7 50 11 255 ?_
                              refine one_ (i := 8) (N := some 51) #[true, true, true, true, true, true, true, true, true, false, false] rfl rfl (one_of HT_.out (by kernel_rfl)) (by decide) (fun K hK => ?_)
                              refine value_ (w1 := ?_) (v := ?_) (by rfl) rfl ?_ ?_
                              rotate_left 2
                              · go_simp
                                constructor
                                · rfl
                                · rfl
                              refine hK.out _ _ ⟨(blk_cell (blk_alloc BK103.out _) 0).trans rfl, (blk_cell (blk_alloc BK103.out _) 1).trans rfl, (blk_cell (blk_alloc BK103.out _) 2).trans rfl, (blk_cell (blk_alloc BK103.out _) 3).trans rfl, (blk_cell (blk_alloc BK103.out _) 4).trans rfl, (blk_cell (blk_alloc BK103.out _) 5).trans rfl, (blk_cell (blk_alloc BK103.out _) 6).trans rfl⟩ (fun hHeld => ?_)
                              clear hK K
                              refine nz_ 51 ?_
                              refine one_ (i := 9) (N := some 52) #[true, true, true, true, true, true, true, true, true, true, false] rfl rfl (one_of HT_.out (by kernel_rfl)) (by decide) (fun K hK => ?_)
                              refine R_full_step (w0 := w) w.heap.size rfl (.tmp 48) (.tmp 51) rfl Ao40 co40 y105 ((rd_T47 l0_1 x9_1).f0) rfl rfl ?aO ?aB ?aS ?aL ?_
                              (case aB => exact (zb))
                              (case aO => exact (zR HO107.out))
                              (case aS => exact (below_size (zb)))
                              (case aL => have := LMc34.out; omega)
                              intro v111 w45 ho hb hg hat
                              rw [← Ny110.out] at ho
                              replace BK101 := am (blk_grown (g := gb101) (o := .cells #[.slice A0_0 l0_0.length c0_0, .slice (some ad102) l0_1.length c0_1] 25 (0, 0)) (zl BK101.out) hg (Kd.R_ne HO107.out BK101.out (by decide)))
                              replace BK103 := am (blk_grown (g := gb103) (o := .cells #[.string ((rd_T47 l0_1 x9_1).f0), .int .i64 ((rd_T47 l0_1 x9_1).f1), .string ((rd_T47 l0_1 x9_1).f2), .bool ((rd_T47 l0_1 x9_1).f3), .int .i64 ((rd_T47 l0_1 x9_1).f4), .slice A102_5 ((rd_T47 l0_1 x9_1).f5).length c102_5, .slice A102_6 ((rd_T47 l0_1 x9_1).f6).length c102_6] 47 (0, 0)) (zl BK103.out) hg (Kd.R_ne HO107.out BK103.out (by decide)))
                              replace HB := am (hb)
                              have HO112 := am (ho)
                              clear HO107
                              clear ho hb hg hat
                              refine hK.out _ _ ⟨(blk_cell BK103.out 0).trans rfl, (blk_cell BK103.out 1).trans rfl, (blk_cell BK103.out 2).trans rfl, (blk_cell BK103.out 3).trans rfl, (blk_cell BK103.out 4).trans rfl, (blk_cell BK103.out 5).trans rfl, (blk_cell BK103.out 6).trans rfl⟩ (fun hHeld => ?_)
                              clear hK K
                              refine nz_ 52 ?_
                              refine pz_ 10 3 11 2047 ?_
                              refine done_ (done_of HT_.out (by kernel_rfl)) ?_
                              try go_wp2
                              go_roundg k1
                              case measure => have := HK1.out; omega
                              case rel => exact ⟨(y110), (wrap64 (x9_1 + 1)), (ze), H', ⟨by have := HK1.out; omega⟩, ⟨zR HO112.out⟩, ⟨zl BK101.out⟩, ⟨zb⟩⟩
                            · rw [if_neg c34] at H
                              exact absurd H (by simp)
                          · rw [if_neg c33] at H
                            have c33b0 : (((rd_T47 l0_1 t108).f1) == 1) = false := beq_eq_false_iff_ne.mpr c33
                            have c33b1 : (((rd_T47 l0_1 t108).f1) != 1) = true := bne_iff_ne.mpr c33
                            obtain rfl := Option.some.inj H
                            have p102 : 0 ≤ (x9_1 : Int) := of_decide_eq_true (zas)
                            have q102 : x9_1 < (l0_1.length : Int) := of_decide_eq_true (zas)
                            obtain ⟨ad102, A102_5, c102_5, A102_6, c102_6, e102, hx102_0, hx102_1, hx102_2, hx102_3, hx102_4, hx102_5, hx102_6, hl102_5, hi102_5, hl102_6, hi102_6⟩ := at_T47 HR0_1.out x9_1 p102 q102
                            cases e102
                            replace hx102_0 := ba HB hx102_0
                            replace hx102_1 := ba HB hx102_1
                            replace hx102_2 := ba HB hx102_2
                            replace hx102_3 := ba HB hx102_3
                            replace hx102_4 := ba HB hx102_4
                            replace hx102_5 := ba HB hx102_5
                            replace hx102_6 := ba HB hx102_6
                            have HR102_5 := am hi102_5
                            have HC102_5 := am hl102_5
                            clear hi102_5 hl102_5
                            have HR102_6 := am hi102_6
                            have HC102_6 := am hl102_6
                            clear hi102_6 hl102_6
                            replace p102 := eq_true p102
                            replace q102 := eq_true q102
                            try go_wp2_with (first | ((with_reducible refine gd_ 5 ?_); (try (refine gate_guard (by rfl) ?_; dsimp only)); refine bx_ 5 #[.string (⟨#[]⟩ : ByteArray), .int .i64 0, .string (⟨#[]⟩ : ByteArray), .bool false, .int .i64 0, .slice none 0 0, .slice none 0 0] 47 ?_; intro gb103 hg w46 hbox hb; replace HO_3 := am (Kd.R_below (zR HO_3.out) hb); have BK103 := am (hbox); have GW103 := am (zg : w.heap.size ≤ gb103); have GE103 := am (zg : w.heap.size ≤ gb103); replace HB := am (below_step (zb) hb); have NB101_103 := am ((zn BK101.out : gb101 ≠ gb103)); have NB103_101 := am ((zm BK101.out : gb103 ≠ gb101)); replace BK101 := am (zw BK101.out hb); clear hb hbox hg; have hnb47 := NB103_101.out; have hnc47 := NB101_103.out; obtain ⟨hcz48_0, hcz48_1, hcz48_2, hcz48_3, hcz48_4, hcz48_5, hcz48_6, hfz48_0, hfz48_1, hfz48_2, hfz48_3, hfz48_4, hfz48_5, hfz48_6⟩ := cf7 BK103.out) | ((with_reducible refine gate_store (t := 47) (p := 5) rfl ?_); refine store_event (t := 47) (p := 5) (v := ?vo_w49) (w1 := (((((((w46.setCell ⟨gb103, 0, none⟩ (.string ((rd_T47 l0_1 x9_1).f0))).setCell ⟨gb103, 1, none⟩ (.int .i64 ((rd_T47 l0_1 x9_1).f1))).setCell ⟨gb103, 2, none⟩ (.string ((rd_T47 l0_1 x9_1).f2))).setCell ⟨gb103, 3, none⟩ (.bool ((rd_T47 l0_1 x9_1).f3))).setCell ⟨gb103, 4, none⟩ (.int .i64 ((rd_T47 l0_1 x9_1).f4))).setCell ⟨gb103, 5, none⟩ (.slice A102_5 ((rd_T47 l0_1 x9_1).f5).length c102_5)).setCell ⟨gb103, 6, none⟩ (.slice A102_6 ((rd_T47 l0_1 x9_1).f6).length c102_6))) ?hg ?ho ?hn ?hr ?_; (case ho => rfl); (case hg => rfl); (case hn => rfl); (case hr => first | (go_simp; done) | (go_simp; rfl)); intro w49 hw; have n0_ : Aside0 (Kd.R Kd.string 9 w49 w.heap.size (fun _ => True) u3 x3_1) := ⟨(by rw [hw]; exact (by refine zR ?_; exact Kd.R_mono (Kd.R_far (p := ⟨gb103, 6, none⟩) (Kd.R_far (p := ⟨gb103, 5, none⟩) (Kd.R_far (p := ⟨gb103, 4, none⟩) (Kd.R_far (p := ⟨gb103, 3, none⟩) (Kd.R_far (p := ⟨gb103, 2, none⟩) (Kd.R_far (p := ⟨gb103, 1, none⟩) (Kd.R_far (p := ⟨gb103, 0, none⟩) (Kd.R_types HO_3.out BK103.out (by decide)) (fun _ hk => hk.2) (.string ((rd_T47 l0_1 x9_1).f0))) (fun _ hk => hk.2) (.int .i64 ((rd_T47 l0_1 x9_1).f1))) (fun _ hk => hk.2) (.string ((rd_T47 l0_1 x9_1).f2))) (fun _ hk => hk.2) (.bool ((rd_T47 l0_1 x9_1).f3))) (fun _ hk => hk.2) (.int .i64 ((rd_T47 l0_1 x9_1).f4))) (fun _ hk => hk.2) (.slice A102_5 ((rd_T47 l0_1 x9_1).f5).length c102_5)) (fun _ hk => hk.2) (.slice A102_6 ((rd_T47 l0_1 x9_1).f6).length c102_6)) (fun _ hk => trivial)))⟩; have n1_ : Aside0 (w49.heap[gb101]? = some (.cells #[.slice A0_0 l0_0.length c0_0, .slice (some ad102) l0_1.length c0_1] 25 (0, 0))) := ⟨(by rw [hw]; exact (by refine zl ?_; refine blk_far ?_ NB101_103.out _; refine zl ?_; refine blk_far ?_ NB101_103.out _; refine zl ?_; refine blk_far ?_ NB101_103.out _; refine zl ?_; refine blk_far ?_ NB101_103.out _; refine zl ?_; refine blk_far ?_ NB101_103.out _; refine zl ?_; refine blk_far ?_ NB101_103.out _; refine zl ?_; refine blk_far ?_ NB101_103.out _; refine zl ?_; exact BK101.out))⟩; have n2_ : Aside0 (w49.heap[gb103]? = some (.cells #[.string ((rd_T47 l0_1 x9_1).f0), .int .i64 ((rd_T47 l0_1 x9_1).f1), .string ((rd_T47 l0_1 x9_1).f2), .bool ((rd_T47 l0_1 x9_1).f3), .int .i64 ((rd_T47 l0_1 x9_1).f4), .slice A102_5 ((rd_T47 l0_1 x9_1).f5).length c102_5, .slice A102_6 ((rd_T47 l0_1 x9_1).f6).length c102_6] 47 (0, 0))) := ⟨(by rw [hw]; exact (by refine zl ?_; refine blk_put (cs := #[.string ((rd_T47 l0_1 x9_1).f0), .int .i64 ((rd_T47 l0_1 x9_1).f1), .string ((rd_T47 l0_1 x9_1).f2), .bool ((rd_T47 l0_1 x9_1).f3), .int .i64 ((rd_T47 l0_1 x9_1).f4), .slice A102_5 ((rd_T47 l0_1 x9_1).f5).length c102_5, .slice none 0 0]) ?_ 6 _ rfl; refine zl ?_; refine blk_put (cs := #[.string ((rd_T47 l0_1 x9_1).f0), .int .i64 ((rd_T47 l0_1 x9_1).f1), .string ((rd_T47 l0_1 x9_1).f2), .bool ((rd_T47 l0_1 x9_1).f3), .int .i64 ((rd_T47 l0_1 x9_1).f4), .slice none 0 0, .slice none 0 0]) ?_ 5 _ rfl; refine zl ?_; refine blk_put (cs := #[.string ((rd_T47 l0_1 x9_1).f0), .int .i64 ((rd_T47 l0_1 x9_1).f1), .string ((rd_T47 l0_1 x9_1).f2), .bool ((rd_T47 l0_1 x9_1).f3), .int .i64 0, .slice none 0 0, .slice none 0 0]) ?_ 4 _ rfl; refine zl ?_; refine blk_put (cs := #[.string ((rd_T47 l0_1 x9_1).f0), .int .i64 ((rd_T47 l0_1 x9_1).f1), .string ((rd_T47 l0_1 x9_1).f2), .bool false, .int .i64 0, .slice none 0 0, .slice none 0 0]) ?_ 3 _ rfl; refine zl ?_; refine blk_put (cs := #[.string ((rd_T47 l0_1 x9_1).f0), .int .i64 ((rd_T47 l0_1 x9_1).f1), .string (⟨#[]⟩ : ByteArray), .bool false, .int .i64 0, .slice none 0 0, .slice none 0 0]) ?_ 2 _ rfl; refine zl ?_; refine blk_put (cs := #[.string ((rd_T47 l0_1 x9_1).f0), .int .i64 0, .string (⟨#[]⟩ : ByteArray), .bool false, .int .i64 0, .slice none 0 0, .slice none 0 0]) ?_ 1 _ rfl; refine zl ?_; refine blk_put (cs := #[.string (⟨#[]⟩ : ByteArray), .int .i64 0, .string (⟨#[]⟩ : ByteArray), .bool false, .int .i64 0, .slice none 0 0, .slice none 0 0]) ?_ 0 _ rfl; refine zl ?_; exact BK103.out))⟩; have n3_ : Aside0 (Below w.heap.size w w49) := ⟨(by rw [hw]; exact (zb))⟩; clear hw; clear HO_3; clear BK101; clear BK103; clear HB; have HO_3 := n0_; have BK101 := n1_; have BK103 := n2_; have HB := n3_; clear n0_ n1_ n2_ n3_; obtain ⟨hcz50_0, hcz50_1, hcz50_2, hcz50_3, hcz50_4, hcz50_5, hcz50_6, hfz50_0, hfz50_1, hfz50_2, hfz50_3, hfz50_4, hfz50_5, hfz50_6⟩ := cf7 BK103.out; obtain ⟨Ao51, co51, eo51⟩ := Kd.R_slice HO_3.out; subst eo51) | ((with_reducible refine gc_ 141 ?_); refine goesL_ (some 20) rfl rfl Tryz.func141 (by kernel_rfl) rfl #[.slice Ao51 x3_1.length co51, .string ((rd_T47 l0_1 x9_1).f2)] rfl (za) ?_; (with_reducible refine (slices_Index_string_string.calls k1 _ _ x3_1 ((rd_T47 l0_1 x9_1).f2) t104 _ ?side1 ?side2 A8.out).mono ?_); (case side1 => exact zc (Kd.R_reads' HO_3.out).2.2); (case side2 => exact (Kd.R_reads' HO_3.out).2.1); rintro e w' ⟨rfl, ⟨nd, rfl⟩⟩; refine ⟨_, rfl, ?_⟩; have q52 : ((ji9) : Int) ≤ ((x3_1.length : Int) : Int) := of_decide_eq_true (zas); obtain ⟨i052, hi052, _, hsz52, _⟩ := info_parts info9; have hcut52 := cut_to (P := Tryz.prog) 22 9 .i64 Tryz.underlying22 hi052 Ao51 x3_1.length co51 (ji9) (of_decide_eq_true (zas)) q52 (Kd.R_reads' HO_3.out).2.1; have hr52 := Kd.R_take (m := ((ji9) : Int).toNat) HO_3.out (by omega); have hy52 : y105.length = ((ji9) : Int).toNat := (by rw [Ny105.out, List.length_take]; omega); rw [← Ny105.out] at hr52; rw [← hy52] at hr52 hcut52; clear hy52 hi052 hsz52 HO_3; have HO107 := am hr52; clear hr52; replace q52 := eq_true q52))
                            (try (rw [drewN_self w49]; generalize hq_ : World.drewN w49 _ = w49; have n0_ : Aside0 (Kd.R Kd.string 9 w49 w.heap.size (fun _ => True) (.slice Ao51 y105.length co51) y105) := ⟨by rw [← hq_]; exact (zR HO107.out)⟩; have n1_ : Aside0 (w49.heap[gb101]? = some (.cells #[.slice A0_0 l0_0.length c0_0, .slice (some ad102) l0_1.length c0_1] 25 (0, 0))) := ⟨by rw [← hq_]; exact (zl BK101.out)⟩; have n2_ : Aside0 (w49.heap[gb103]? = some (.cells #[.string ((rd_T47 l0_1 x9_1).f0), .int .i64 ((rd_T47 l0_1 x9_1).f1), .string ((rd_T47 l0_1 x9_1).f2), .bool ((rd_T47 l0_1 x9_1).f3), .int .i64 ((rd_T47 l0_1 x9_1).f4), .slice A102_5 ((rd_T47 l0_1 x9_1).f5).length c102_5, .slice A102_6 ((rd_T47 l0_1 x9_1).f6).length c102_6] 47 (0, 0))) := ⟨by rw [← hq_]; exact (zl BK103.out)⟩; have n3_ : Aside0 (Below w.heap.size w w49) := ⟨by rw [← hq_]; exact (zb)⟩; clear HO107 BK101 BK103 HB hq_; have HO107 := n0_; have BK101 := n1_; have BK103 := n2_; have HB := n3_; clear n0_ n1_ n2_ n3_))
                            replace HO107 := am (Kd.R_drew HO107.out)
                            replace BK101 := am (blk_drew BK101.out)
                            replace BK103 := am (blk_drew BK103.out)
                            replace HB := am (below_drew1 HB.out)
                            have p109 : 0 ≤ (t108 : Int) := of_decide_eq_true (zas)
                            have q109 : t108 < (l0_1.length : Int) := of_decide_eq_true (zas)
                            obtain ⟨ad109, A109_5, c109_5, A109_6, c109_6, e109, hx109_0, hx109_1, hx109_2, hx109_3, hx109_4, hx109_5, hx109_6, hl109_5, hi109_5, hl109_6, hi109_6⟩ := at_T47 HR0_1.out t108 p109 q109
                            have hw109_6 := hx109_6
                            have hw109_5 := hx109_5
                            have hw109_4 := hx109_4
                            have hw109_3 := hx109_3
                            have hw109_2 := hx109_2
                            have hw109_1 := hx109_1
                            have hw109_0 := hx109_0
                            obtain rfl : ad102 = ad109 := (by injection e109)
                            replace hx109_0 := ba HB hx109_0
                            replace hx109_1 := ba HB hx109_1
                            replace hx109_2 := ba HB hx109_2
                            replace hx109_3 := ba HB hx109_3
                            replace hx109_4 := ba HB hx109_4
                            replace hx109_5 := ba HB hx109_5
                            replace hx109_6 := ba HB hx109_6
                            have HR109_5 := am hi109_5
                            have HC109_5 := am hl109_5
                            clear hi109_5 hl109_5
                            have HR109_6 := am hi109_6
                            have HC109_6 := am hl109_6
                            clear hi109_6 hl109_6
                            replace p109 := eq_true p109
                            replace q109 := eq_true q109
                            refine start_ (n := 20) (S := fun w' => w'.cell? ⟨gb101, 0, none⟩ = some (.slice A0_0 l0_0.length c0_0) ∧ w'.cell? ⟨gb101, 1, none⟩ = some (.slice (some ad102) l0_1.length c0_1) ∧ w'.cell? ⟨gb103, 0, none⟩ = some (.string ((rd_T47 l0_1 x9_1).f0)) ∧ w'.cell? ⟨gb103, 1, none⟩ = some (.int .i64 ((rd_T47 l0_1 x9_1).f1)) ∧ w'.cell? ⟨gb103, 2, none⟩ = some (.string ((rd_T47 l0_1 x9_1).f2)) ∧ w'.cell? ⟨gb103, 3, none⟩ = some (.bool ((rd_T47 l0_1 x9_1).f3)) ∧ w'.cell? ⟨gb103, 4, none⟩ = some (.int .i64 ((rd_T47 l0_1 x9_1).f4)) ∧ w'.cell? ⟨gb103, 5, none⟩ = some (.slice A102_5 ((rd_T47 l0_1 x9_1).f5).length c102_5) ∧ w'.cell? ⟨gb103, 6, none⟩ = some (.slice A102_6 ((rd_T47 l0_1 x9_1).f6).length c102_6) ∧ w'.cell? (ad102.add ((t108).toNat * 7)) = some (.string ((rd_T47 l0_1 t108).f0)) ∧ w'.cell? ⟨(ad102.add ((t108).toNat * 7)).block, (ad102.add ((t108).toNat * 7)).off + 1, none⟩ = some (.int .i64 ((rd_T47 l0_1 t108).f1)) ∧ w'.cell? ⟨(ad102.add ((t108).toNat * 7)).block, (ad102.add ((t108).toNat * 7)).off + 2, none⟩ = some (.string ((rd_T47 l0_1 t108).f2)) ∧ w'.cell? ⟨(ad102.add ((t108).toNat * 7)).block, (ad102.add ((t108).toNat * 7)).off + 3, none⟩ = some (.bool ((rd_T47 l0_1 t108).f3)) ∧ w'.cell? ⟨(ad102.add ((t108).toNat * 7)).block, (ad102.add ((t108).toNat * 7)).off + 4, none⟩ = some (.int .i64 ((rd_T47 l0_1 t108).f4)) ∧ w'.cell? ⟨(ad102.add ((t108).toNat * 7)).block, (ad102.add ((t108).toNat * 7)).off + 5, none⟩ = some (.slice A109_5 ((rd_T47 l0_1 t108).f5).length c109_5) ∧ w'.cell? ⟨(ad102.add ((t108).toNat * 7)).block, (ad102.add ((t108).toNat * 7)).off + 6, none⟩ = some (.slice A109_6 ((rd_T47 l0_1 t108).f6).length c109_6)) (ds := []) #[false, false, false, false, false, false, false, false, false, false, false, false, false, false, false, false, false, false, false, false] (by kernel_rfl) rfl rfl ⟨(blk_cell BK101.out 0).trans rfl, (blk_cell BK101.out 1).trans rfl, (blk_cell BK103.out 0).trans rfl, (blk_cell BK103.out 1).trans rfl, (blk_cell BK103.out 2).trans rfl, (blk_cell BK103.out 3).trans rfl, (blk_cell BK103.out 4).trans rfl, (blk_cell BK103.out 5).trans rfl, (blk_cell BK103.out 6).trans rfl, (ba HB hw109_0), (ba HB hw109_1), (ba HB hw109_2), (ba HB hw109_3), (ba HB hw109_4), (ba HB hw109_5), (ba HB hw109_6)⟩ (fun hHeld => ?_); refine with_tabW model_stands.tab7 model_stands.bits7 (fun HT_ HW_ => ?_)
                            generalize w49.drew = w53 at HO107 BK101 BK103 HB HR109_5 HR109_6 hx109_0 hx109_1 hx109_2 hx109_3 hx109_4 hx109_5 hx109_6 hHeld ⊢
                            refine pz_ 0 23 20 1 ?_
                            refine pz_ 1 24 20 3 ?_
                            refine pz_ 2 25 20 7 ?_
                            refine pz_ 3 26 20 15 ?_
                            refine pz_ 4 27 20 31 ?_
                            refine pz_ 5 28 20 63 ?_
                            refine pz_ 6 29 20 127 ?_
                            refine pz_ 7 30 20 255 ?_
                            refine pz_ 8 31 20 511 ?_
                            refine pz_ 9 32 20 1023 ?_
                            refine pz_ 12 35 20 5119 ?_
                            refine tz_ 10 33 20 6143 ?_
                            refine tz_ 11 34 20 8191 ?_
                            refine tz_ 13 36 20 16383 ?_
                            refine one_ (i := 14) (N := some 37) #[true, true, true, true, true, true, true, true, true, true, true, true, true, true, true, false, false, false, false, false] rfl rfl (one_of HT_.out (by kernel_rfl)) (by decide) (fun K hK => ?_)
                            refine goes_ Tryz.func151 (by kernel_rfl) rfl #[.agg #[.slice A0_0 l0_0.length c0_0, .slice (some ad102) l0_1.length c0_1], .string ((rd_T47 l0_1 x9_1).f2)] (by rfl) rfl rfl (za) ?_
                            with_reducible refine (model_Place.calls _ _ l0_0 _ _ l0_1 ((rd_T47 l0_1 x9_1).f2) t108 _ ?side1 ?side2 ?side3 ?side4 A30.out).mono ?_
                            (case side1 => exact zc (Kd.C_below HR0_0.out HB.out))
                            (case side2 => exact HC0_0.out)
                            (case side3 => exact zc (Kd.C_below HR0_1.out HB.out))
                            (case side4 => exact HC0_1.out)
                            rintro e w54 ⟨rfl, hb⟩
                            refine ⟨_, rfl, ?_⟩
                            replace HO107 := am (Kd.R_below (zR HO107.out) hb)
                            replace BK101 := am (zw BK101.out hb)
                            replace BK103 := am (zw BK103.out hb)
                            replace HB := am (below_step (zb) hb)
                            (try clear hb)
                            (try clear hb2)
                            (try clear hk)
                            (try clear hi)
                            refine hK.out _ _ ⟨(blk_cell BK101.out 0).trans rfl, (blk_cell BK101.out 1).trans rfl, (blk_cell BK103.out 0).trans rfl, (blk_cell BK103.out 1).trans rfl, (blk_cell BK103.out 2).trans rfl, (blk_cell BK103.out 3).trans rfl, (blk_cell BK103.out 4).trans rfl, (blk_cell BK103.out 5).trans rfl, (blk_cell BK103.out 6).trans rfl, (ba HB hw109_0), (ba HB hw109_1), (ba HB hw109_2), (ba HB hw109_3), (ba HB hw109_4), (ba HB hw109_5), (ba HB hw109_6)⟩ (fun hHeld => ?_)
                            clear hK K
                            refine nz_ 37 ?_
                            refine pz_ 15 38 20 65535 ?_
                            refine pz_ 16 39 20 131071 ?_
                            refine tz_ 17 40 20 262143 ?_
                            refine pz_ 18 41 20 524287 ?_
                            refine pz_ 19 42 20 1048575 ?_
                            refine done_ (done_of HT_.out (by kernel_rfl)) ?_
                            try go_wp2
                            go_ret
                            exact ⟨by first | rfl | (simp [errW_none, errW_some] <;> rfl) | (simp only [← hji9]; first | rfl | (simp [errW_none, errW_some] <;> rfl)) | (simp [*, errW_none, errW_some] <;> rfl), zb⟩
                        · rw [if_neg c32] at H
                          exact absurd H (by simp)
                      · rw [if_neg c31] at H
                        exact absurd H (by simp)
                · rw [if_neg c11] at H
                  exact absurd H (by simp)
              · rw [if_neg c10] at H
                exact absurd H (by simp)
            · rw [if_neg c7] at H
              have c7b0 : decide (0 < x9_1) = false := decide_eq_false c7
              clear c7
              by_cases c55 : x3_1.length < 8796093022208
              · rw [if_pos c55] at H
                have LMc55 := am c55
                clear c55
                obtain ⟨y113, hy113⟩ : ∃ y_ : List ByteArray, y_ = (x3_1 ++ [(rd_T47 l0_1 x9_1).f0]) := ⟨_, rfl⟩
                replace H : (model_stands.l0 k1 y113 l0_1 (l0_1.length : Int) (wrap64 (x9_1 + 1)) l0_0 l0_1) = some r := by first | (rw [hy113]; with_reducible exact H) | (have H2_ := (Option.bind_some _ _).symm.trans H; rw [hy113]; with_reducible exact H2_) | (have H2_ := (Option.bind_some _ _).symm.trans H; with_reducible exact H2_) | with_reducible exact H | (rw [hy113]; exact H) | exact H
                have Ny113 := am hy113
                clear hy113
                have H' := am H
                clear H
                have p102 : 0 ≤ (x9_1 : Int) := of_decide_eq_true (zas)
                have q102 : x9_1 < (l0_1.length : Int) := of_decide_eq_true (zas)
                obtain ⟨ad102, A102_5, c102_5, A102_6, c102_6, e102, hx102_0, hx102_1, hx102_2, hx102_3, hx102_4, hx102_5, hx102_6, hl102_5, hi102_5, hl102_6, hi102_6⟩ := at_T47 HR0_1.out x9_1 p102 q102
                cases e102
                replace hx102_0 := ba HB hx102_0
                replace hx102_1 := ba HB hx102_1
                replace hx102_2 := ba HB hx102_2
                replace hx102_3 := ba HB hx102_3
                replace hx102_4 := ba HB hx102_4
                replace hx102_5 := ba HB hx102_5
                replace hx102_6 := ba HB hx102_6
                have HR102_5 := am hi102_5
                have HC102_5 := am hl102_5
                clear hi102_5 hl102_5
                have HR102_6 := am hi102_6
                have HC102_6 := am hl102_6
                clear hi102_6 hl102_6
                replace p102 := eq_true p102
                replace q102 := eq_true q102
                try go_wp2_with (first | ((with_reducible refine gd_ 5 ?_); (try (refine gate_guard (by rfl) ?_; dsimp only)); refine bx_ 5 #[.string (⟨#[]⟩ : ByteArray), .int .i64 0, .string (⟨#[]⟩ : ByteArray), .bool false, .int .i64 0, .slice none 0 0, .slice none 0 0] 47 ?_; intro gb103 hg w56 hbox hb; replace HO_3 := am (Kd.R_below (zR HO_3.out) hb); have BK103 := am (hbox); have GW103 := am (zg : w.heap.size ≤ gb103); have GE103 := am (zg : w.heap.size ≤ gb103); replace HB := am (below_step (zb) hb); have NB101_103 := am ((zn BK101.out : gb101 ≠ gb103)); have NB103_101 := am ((zm BK101.out : gb103 ≠ gb101)); replace BK101 := am (zw BK101.out hb); clear hb hbox hg; have hnb57 := NB103_101.out; have hnc57 := NB101_103.out; obtain ⟨hcz58_0, hcz58_1, hcz58_2, hcz58_3, hcz58_4, hcz58_5, hcz58_6, hfz58_0, hfz58_1, hfz58_2, hfz58_3, hfz58_4, hfz58_5, hfz58_6⟩ := cf7 BK103.out))
                have n0_ : Aside0 (Kd.R Kd.string 9 (((((((w56.setCell ⟨gb103, 0, none⟩ (.string ((rd_T47 l0_1 x9_1).f0))).setCell ⟨gb103, 1, none⟩ (.int .i64 ((rd_T47 l0_1 x9_1).f1))).setCell ⟨gb103, 2, none⟩ (.string ((rd_T47 l0_1 x9_1).f2))).setCell ⟨gb103, 3, none⟩ (.bool ((rd_T47 l0_1 x9_1).f3))).setCell ⟨gb103, 4, none⟩ (.int .i64 ((rd_T47 l0_1 x9_1).f4))).setCell ⟨gb103, 5, none⟩ (.slice A102_5 ((rd_T47 l0_1 x9_1).f5).length c102_5)).setCell ⟨gb103, 6, none⟩ (.slice A102_6 ((rd_T47 l0_1 x9_1).f6).length c102_6)) w.heap.size (fun _ => True) u3 x3_1) := ⟨by refine zR ?_; exact Kd.R_mono (Kd.R_far (p := ⟨gb103, 6, none⟩) (Kd.R_far (p := ⟨gb103, 5, none⟩) (Kd.R_far (p := ⟨gb103, 4, none⟩) (Kd.R_far (p := ⟨gb103, 3, none⟩) (Kd.R_far (p := ⟨gb103, 2, none⟩) (Kd.R_far (p := ⟨gb103, 1, none⟩) (Kd.R_far (p := ⟨gb103, 0, none⟩) (Kd.R_types HO_3.out BK103.out (by decide)) (fun _ hk => hk.2) (.string ((rd_T47 l0_1 x9_1).f0))) (fun _ hk => hk.2) (.int .i64 ((rd_T47 l0_1 x9_1).f1))) (fun _ hk => hk.2) (.string ((rd_T47 l0_1 x9_1).f2))) (fun _ hk => hk.2) (.bool ((rd_T47 l0_1 x9_1).f3))) (fun _ hk => hk.2) (.int .i64 ((rd_T47 l0_1 x9_1).f4))) (fun _ hk => hk.2) (.slice A102_5 ((rd_T47 l0_1 x9_1).f5).length c102_5)) (fun _ hk => hk.2) (.slice A102_6 ((rd_T47 l0_1 x9_1).f6).length c102_6)) (fun _ hk => trivial)⟩
                have n1_ : Aside0 ((((((((w56.setCell ⟨gb103, 0, none⟩ (.string ((rd_T47 l0_1 x9_1).f0))).setCell ⟨gb103, 1, none⟩ (.int .i64 ((rd_T47 l0_1 x9_1).f1))).setCell ⟨gb103, 2, none⟩ (.string ((rd_T47 l0_1 x9_1).f2))).setCell ⟨gb103, 3, none⟩ (.bool ((rd_T47 l0_1 x9_1).f3))).setCell ⟨gb103, 4, none⟩ (.int .i64 ((rd_T47 l0_1 x9_1).f4))).setCell ⟨gb103, 5, none⟩ (.slice A102_5 ((rd_T47 l0_1 x9_1).f5).length c102_5)).setCell ⟨gb103, 6, none⟩ (.slice A102_6 ((rd_T47 l0_1 x9_1).f6).length c102_6)).heap[gb101]? = some (.cells #[.slice A0_0 l0_0.length c0_0, .slice (some ad102) l0_1.length c0_1] 25 (0, 0))) := ⟨by refine zl ?_; refine blk_far ?_ NB101_103.out _; refine zl ?_; refine blk_far ?_ NB101_103.out _; refine zl ?_; refine blk_far ?_ NB101_103.out _; refine zl ?_; refine blk_far ?_ NB101_103.out _; refine zl ?_; refine blk_far ?_ NB101_103.out _; refine zl ?_; refine blk_far ?_ NB101_103.out _; refine zl ?_; refine blk_far ?_ NB101_103.out _; refine zl ?_; exact BK101.out⟩
                have n2_ : Aside0 ((((((((w56.setCell ⟨gb103, 0, none⟩ (.string ((rd_T47 l0_1 x9_1).f0))).setCell ⟨gb103, 1, none⟩ (.int .i64 ((rd_T47 l0_1 x9_1).f1))).setCell ⟨gb103, 2, none⟩ (.string ((rd_T47 l0_1 x9_1).f2))).setCell ⟨gb103, 3, none⟩ (.bool ((rd_T47 l0_1 x9_1).f3))).setCell ⟨gb103, 4, none⟩ (.int .i64 ((rd_T47 l0_1 x9_1).f4))).setCell ⟨gb103, 5, none⟩ (.slice A102_5 ((rd_T47 l0_1 x9_1).f5).length c102_5)).setCell ⟨gb103, 6, none⟩ (.slice A102_6 ((rd_T47 l0_1 x9_1).f6).length c102_6)).heap[gb103]? = some (.cells #[.string ((rd_T47 l0_1 x9_1).f0), .int .i64 ((rd_T47 l0_1 x9_1).f1), .string ((rd_T47 l0_1 x9_1).f2), .bool ((rd_T47 l0_1 x9_1).f3), .int .i64 ((rd_T47 l0_1 x9_1).f4), .slice A102_5 ((rd_T47 l0_1 x9_1).f5).length c102_5, .slice A102_6 ((rd_T47 l0_1 x9_1).f6).length c102_6] 47 (0, 0))) := ⟨by refine zl ?_; refine blk_put (cs := #[.string ((rd_T47 l0_1 x9_1).f0), .int .i64 ((rd_T47 l0_1 x9_1).f1), .string ((rd_T47 l0_1 x9_1).f2), .bool ((rd_T47 l0_1 x9_1).f3), .int .i64 ((rd_T47 l0_1 x9_1).f4), .slice A102_5 ((rd_T47 l0_1 x9_1).f5).length c102_5, .slice none 0 0]) ?_ 6 _ rfl; refine zl ?_; refine blk_put (cs := #[.string ((rd_T47 l0_1 x9_1).f0), .int .i64 ((rd_T47 l0_1 x9_1).f1), .string ((rd_T47 l0_1 x9_1).f2), .bool ((rd_T47 l0_1 x9_1).f3), .int .i64 ((rd_T47 l0_1 x9_1).f4), .slice none 0 0, .slice none 0 0]) ?_ 5 _ rfl; refine zl ?_; refine blk_put (cs := #[.string ((rd_T47 l0_1 x9_1).f0), .int .i64 ((rd_T47 l0_1 x9_1).f1), .string ((rd_T47 l0_1 x9_1).f2), .bool ((rd_T47 l0_1 x9_1).f3), .int .i64 0, .slice none 0 0, .slice none 0 0]) ?_ 4 _ rfl; refine zl ?_; refine blk_put (cs := #[.string ((rd_T47 l0_1 x9_1).f0), .int .i64 ((rd_T47 l0_1 x9_1).f1), .string ((rd_T47 l0_1 x9_1).f2), .bool false, .int .i64 0, .slice none 0 0, .slice none 0 0]) ?_ 3 _ rfl; refine zl ?_; refine blk_put (cs := #[.string ((rd_T47 l0_1 x9_1).f0), .int .i64 ((rd_T47 l0_1 x9_1).f1), .string (⟨#[]⟩ : ByteArray), .bool false, .int .i64 0, .slice none 0 0, .slice none 0 0]) ?_ 2 _ rfl; refine zl ?_; refine blk_put (cs := #[.string ((rd_T47 l0_1 x9_1).f0), .int .i64 0, .string (⟨#[]⟩ : ByteArray), .bool false, .int .i64 0, .slice none 0 0, .slice none 0 0]) ?_ 1 _ rfl; refine zl ?_; refine blk_put (cs := #[.string (⟨#[]⟩ : ByteArray), .int .i64 0, .string (⟨#[]⟩ : ByteArray), .bool false, .int .i64 0, .slice none 0 0, .slice none 0 0]) ?_ 0 _ rfl; refine zl ?_; exact BK103.out⟩
                have n3_ : Aside0 (Below w.heap.size w (((((((w56.setCell ⟨gb103, 0, none⟩ (.string ((rd_T47 l0_1 x9_1).f0))).setCell ⟨gb103, 1, none⟩ (.int .i64 ((rd_T47 l0_1 x9_1).f1))).setCell ⟨gb103, 2, none⟩ (.string ((rd_T47 l0_1 x9_1).f2))).setCell ⟨gb103, 3, none⟩ (.bool ((rd_T47 l0_1 x9_1).f3))).setCell ⟨gb103, 4, none⟩ (.int .i64 ((rd_T47 l0_1 x9_1).f4))).setCell ⟨gb103, 5, none⟩ (.slice A102_5 ((rd_T47 l0_1 x9_1).f5).length c102_5)).setCell ⟨gb103, 6, none⟩ (.slice A102_6 ((rd_T47 l0_1 x9_1).f6).length c102_6))) := ⟨zb⟩
                (try clear HO_3)
                (try clear BK101)
                (try clear BK103)
                (try clear HB)
                generalize (((((((w56.setCell ⟨gb103, 0, none⟩ (.string ((rd_T47 l0_1 x9_1).f0))).setCell ⟨gb103, 1, none⟩ (.int .i64 ((rd_T47 l0_1 x9_1).f1))).setCell ⟨gb103, 2, none⟩ (.string ((rd_T47 l0_1 x9_1).f2))).setCell ⟨gb103, 3, none⟩ (.bool ((rd_T47 l0_1 x9_1).f3))).setCell ⟨gb103, 4, none⟩ (.int .i64 ((rd_T47 l0_1 x9_1).f4))).setCell ⟨gb103, 5, none⟩ (.slice A102_5 ((rd_T47 l0_1 x9_1).f5).length c102_5)).setCell ⟨gb103, 6, none⟩ (.slice A102_6 ((rd_T47 l0_1 x9_1).f6).length c102_6)) = w59 at n0_ n1_ n2_ n3_ ⊢
                have HO_3 := n0_
                have BK101 := n1_
                have BK103 := n2_
                have HB := n3_
                clear n0_ n1_ n2_ n3_
                replace HO_3 := am (Kd.R_drew HO_3.out)
                replace BK101 := am (blk_drew BK101.out)
                replace BK103 := am (blk_drew BK103.out)
                replace HB := am (below_drew1 HB.out)
                obtain ⟨Ao61, co61, eo61⟩ := Kd.R_slice HO_3.out
                (first | subst eo61 | (injection eo61 with f1_ f2_ f3_; have f4_ := f1_.symm; have f5_ := f3_.symm; clear f1_ f2_ f3_; subst f4_; subst f5_))
                have hcap_ : x3_1.length ≤ co61 := (Kd.R_reads' HO_3.out).2.1
                refine start_ (n := 11) (S := fun w' => w'.cell? ⟨gb103, 0, none⟩ = some (.string ((rd_T47 l0_1 x9_1).f0)) ∧ w'.cell? ⟨gb103, 1, none⟩ = some (.int .i64 ((rd_T47 l0_1 x9_1).f1)) ∧ w'.cell? ⟨gb103, 2, none⟩ = some (.string ((rd_T47 l0_1 x9_1).f2)) ∧ w'.cell? ⟨gb103, 3, none⟩ = some (.bool ((rd_T47 l0_1 x9_1).f3)) ∧ w'.cell? ⟨gb103, 4, none⟩ = some (.int .i64 ((rd_T47 l0_1 x9_1).f4)) ∧ w'.cell? ⟨gb103, 5, none⟩ = some (.slice A102_5 ((rd_T47 l0_1 x9_1).f5).length c102_5) ∧ w'.cell? ⟨gb103, 6, none⟩ = some (.slice A102_6 ((rd_T47 l0_1 x9_1).f6).length c102_6)) (ds := []) #[false, false, false, false, false, false, false, false, false, false, false] (by kernel_rfl) rfl rfl ⟨(blk_cell BK103.out 0).trans rfl, (blk_cell BK103.out 1).trans rfl, (blk_cell BK103.out 2).trans rfl, (blk_cell BK103.out 3).trans rfl, (blk_cell BK103.out 4).trans rfl, (blk_cell BK103.out 5).trans rfl, (blk_cell BK103.out 6).trans rfl⟩ (fun hHeld => ?_); refine with_tabW model_stands.tab9 model_stands.bits9 (fun HT_ HW_ => ?_)
                generalize w59.drew = w60 at HO_3 BK101 BK103 HB hHeld ⊢
                refine pz_ 0 43 11 1 ?_
                refine pz_ 1 44 11 3 ?_
                refine pz_ 2 45 11 7 ?_
                refine pz_ 3 46 11 15 ?_
                refine pz_ 4 47 11 31 ?_
                refine pz_ 5 48 11 63 ?_
                refine pz_ 6 49 11 127 ?_
                refine tz_ 7 50 11 255 ?_
                refine one_ (i := 8) (N := some 51) #[true, true, true, true, true, true, true, true, true, false, false] rfl rfl (one_of HT_.out (by kernel_rfl)) (by decide) (fun K hK => ?_)
                refine value_ (w1 := ?_) (v := ?_) (by rfl) rfl ?_ ?_
                rotate_left 2
                · go_simp
                  constructor
                  · rfl
                  · rfl
                refine hK.out _ _ ⟨(blk_cell (blk_alloc BK103.out _) 0).trans rfl, (blk_cell (blk_alloc BK103.out _) 1).trans rfl, (blk_cell (blk_alloc BK103.out _) 2).trans rfl, (blk_cell (blk_alloc BK103.out _) 3).trans rfl, (blk_cell (blk_alloc BK103.out _) 4).trans rfl, (blk_cell (blk_alloc BK103.out _) 5).trans rfl, (blk_cell (blk_alloc BK103.out _) 6).trans rfl⟩ (fun hHeld => ?_)
                clear hK K
                refine nz_ 51 ?_
                refine one_ (i := 9) (N := some 52) #[true, true, true, true, true, true, true, true, true, true, false] rfl rfl (one_of HT_.out (by kernel_rfl)) (by decide) (fun K hK => ?_)
                refine R_full_step (w0 := w) w.heap.size rfl (.tmp 48) (.tmp 51) rfl Ao61 co61 x3_1 ((rd_T47 l0_1 x9_1).f0) rfl rfl ?aO ?aB ?aS ?aL ?_
                (case aB => exact (zb))
                (case aO => exact (zR HO_3.out))
                (case aS => exact (below_size (zb)))
                (case aL => have := LMc55.out; omega)
                intro v114 w62 ho hb hg hat
                rw [← Ny113.out] at ho
                replace BK101 := am (blk_grown (g := gb101) (o := .cells #[.slice A0_0 l0_0.length c0_0, .slice (some ad102) l0_1.length c0_1] 25 (0, 0)) (zl BK101.out) hg (Kd.R_ne HO_3.out BK101.out (by decide)))
                replace BK103 := am (blk_grown (g := gb103) (o := .cells #[.string ((rd_T47 l0_1 x9_1).f0), .int .i64 ((rd_T47 l0_1 x9_1).f1), .string ((rd_T47 l0_1 x9_1).f2), .bool ((rd_T47 l0_1 x9_1).f3), .int .i64 ((rd_T47 l0_1 x9_1).f4), .slice A102_5 ((rd_T47 l0_1 x9_1).f5).length c102_5, .slice A102_6 ((rd_T47 l0_1 x9_1).f6).length c102_6] 47 (0, 0)) (zl BK103.out) hg (Kd.R_ne HO_3.out BK103.out (by decide)))
                replace HB := am (hb)
                have HO115 := am (ho)
                clear HO_3
                clear ho hb hg hat
                refine hK.out _ _ ⟨(blk_cell BK103.out 0).trans rfl, (blk_cell BK103.out 1).trans rfl, (blk_cell BK103.out 2).trans rfl, (blk_cell BK103.out 3).trans rfl, (blk_cell BK103.out 4).trans rfl, (blk_cell BK103.out 5).trans rfl, (blk_cell BK103.out 6).trans rfl⟩ (fun hHeld => ?_)
                clear hK K
                refine nz_ 52 ?_
                refine pz_ 10 3 11 2047 ?_
                refine done_ (done_of HT_.out (by kernel_rfl)) ?_
                try go_wp2
                go_roundg k1
                case measure => have := HK1.out; omega
                case rel => exact ⟨(y113), (wrap64 (x9_1 + 1)), (ze), H', ⟨by have := HK1.out; omega⟩, ⟨zR HO115.out⟩, ⟨zl BK101.out⟩, ⟨zb⟩⟩
              · rw [if_neg c55] at H
                exact absurd H (by simp)
          · rw [if_neg c6] at H
            exact absurd H (by simp)
        · rw [if_neg c5] at H
          exact absurd H (by simp)
      · rw [if_neg c4] at H
        have c4b0 : decide (x9_1 < (l0_1.length : Int)) = false := decide_eq_false c4
        clear c4
        obtain rfl := Option.some.inj H
        go_wp2
        go_ret
        exact ⟨zf, zb⟩
end Go.Proofs.YtpbembafpnknhaaGreat.Pr
