/- Proof texts of one seat, in one file: the walks of functions and the lemmas under them, printed by programs and typed by hand. Put together by wip/bundle.py. -/
import Derived.Test.YtpbembafpnknhaaGreatRows
import Derived.ArgAppend
import Derived.Below
import Derived.BigQuiet
import Derived.ChangeArms
import Derived.ChangeOld
import Derived.ChangeSlices
import Derived.Deep.AppendLies
import Derived.Deep.CutBlock
import Derived.Deep.DeepCutAuto
import Derived.Deep.Draws
import Derived.Deep.LoopGhost
import Derived.Deep.OwnRows
import Derived.Deep.QuietTactic
import Derived.Deep.RegionHeld3
import Derived.Deep.RegionLawGrows
import Derived.Deep.Upon
import Derived.Ground.Names2Prog
import Derived.Ground.SlgfProg
import Derived.Ground.SlgnProg
import Derived.Ground.SlsfProg
import Derived.JoinedOf
import Derived.KernelRfl
import Derived.Laws.BitsLemmas
import Derived.Laws.BytesArg
import Derived.Laws.IdiomCopy
import Derived.Laws.MakeOwn
import Derived.Laws.OwnMore
import Derived.Laws.Rows
import Derived.Laws.Slices
import Derived.Laws.StructEq
import Derived.Lib.AppendStr
import Derived.Lib.ConvBytes
import Derived.Lib.Hide
import Derived.Maps.AppendAt
import Derived.OpenShut
import Derived.OrdersHeld
import Derived.OwnWalk
import Derived.ProofKit
import Derived.RowKit
import Derived.RowKit3
import Derived.Shelf.GgSortFunc.InsertionK
import Derived.Shelf.SlGeneric
import Derived.Shelf.SlSortCmp.NoneTotal
import Derived.Shelf.Slices.In.SortNone
import Derived.Shelf.SlicesE.Clone
import Derived.Shelf.SlicesQ.IndexFunc
import Derived.Shelf.Sort.Plain
import Derived.ShutString
import Derived.SizedLaws
import Derived.Sort.Grow
import Derived.Sort.Walk0
import Derived.StillTailTactics
import Derived.Tactics
import Derived.WalkKit
import Derived.WalkSpells
import Derived.WideLaws
import Derived.Test.YtpbembafpnknhaaGreatBNormOrders0
import Derived.Test.YtpbembafpnknhaaGreatBNormOrders1
import Derived.Test.YtpbembafpnknhaaGreatBNormOrders2
import Derived.Test.YtpbembafpnknhaaGreatBNormOrders3
import Derived.Test.YtpbembafpnknhaaGreatBNormOrders4
import Derived.Test.YtpbembafpnknhaaGreatBNormOrders5
import Derived.Test.YtpbembafpnknhaaGreatBNormOrders6
import Derived.Test.YtpbembafpnknhaaGreatBNormOrders7
import Derived.Test.YtpbembafpnknhaaGreatBNormOrders8
namespace Go.Proofs.YtpbembafpnknhaaGreat.Pr
open Go.RowKit Go.Proofs.YtpbembafpnknhaaGreatW.PrintWords Go.Proofs.YtpbembafpnknhaaGreatW.PrintLast Go.Proofs.YtpbembafpnknhaaGreatW.PrintMore
attribute [local go_sem] max2_int min2_int max_two min_two max_three min_three max_four min_four   -- for this text's walks alone
set_option linter.unusedVariables false
set_option linter.unusedSimpArgs false
def sentrylaw7_NormOrders.f (k : Nat) (l0_0 : List (S78)) (l0_1 : List (S93)) (l1_0 : List (S78)) (l1_1 : List (S93)) (l2_0 : List (S78)) (l2_1 : List (S93)) : Option (Bool) := if (wrap64 ((wrap64 ((wrap64 ((wrap64 ((wrap64 ((l0_0.length : Int) + (l0_1.length : Int))) + (l1_0.length : Int))) + (l1_1.length : Int))) + (l2_0.length : Int))) + (l2_1.length : Int))) > 60 then (some true) else ((norm_CmpSentry.f k l0_0 l0_1 l1_0 l1_1).bind fun t104 => ((norm_CmpSentry.f k l1_0 l1_1 l2_0 l2_1).bind fun t105 => ((norm_CmpSentry.f k l0_0 l0_1 l2_0 l2_1).bind fun t106 => ((norm_CmpSentry.f k l1_0 l1_1 l0_0 l0_1).bind fun t107 => (if t104 = (wrap64 (-t107)) then (if t104 ≥ (-1) then (if t104 ≤ 1 then (if t104 > 0 then ((norm_CmpSentry.f k l0_0 l0_1 l0_0 l0_1).bind fun t108 => (if t108 = 0 then ((sentrylaw7_known.f k).bind fun t109 => (some t109)) else (some false))) else (if t105 > 0 then ((norm_CmpSentry.f k l0_0 l0_1 l0_0 l0_1).bind fun t110 => (if t110 = 0 then ((sentrylaw7_known.f k).bind fun t111 => (some t111)) else (some false))) else (if t106 ≤ 0 then ((norm_CmpSentry.f k l0_0 l0_1 l0_0 l0_1).bind fun t112 => (if t112 = 0 then ((sentrylaw7_known.f k).bind fun t113 => (some t113)) else (some false))) else (some false)))) else (some false)) else (some false)) else (some false))))))
theorem sentrylaw7_NormOrders.mono : ∀ a0 a1 a2 a3 a4 a5 k, LeO (sentrylaw7_NormOrders.f k a0 a1 a2 a3 a4 a5) (sentrylaw7_NormOrders.f (k + 1) a0 a1 a2 a3 a4 a5) := by
  intro a0 a1 a2 a3 a4 a5 k
  unfold sentrylaw7_NormOrders.f
  repeat' first
      | (with_reducible exact norm_CmpSentry.mono _ _ _ _ _)
      | (with_reducible exact sentrylaw7_known.mono _)
      | (with_reducible exact LeO.refl _)
      | (with_reducible exact LeO.none _)
      | (with_reducible refine LeO.ite ?_ ?_)
      | (with_reducible refine LeO.bind ?_ (fun _ => ?_))
      | exact norm_CmpSentry.mono _ _ _ _ _
      | exact sentrylaw7_known.mono _
      | exact LeO.none _
      | refine LeO.ite ?_ ?_
      | refine LeO.bind ?_ (fun _ => ?_)
def sentrylaw7_NormOrders.T3 : Bool × List (List Nat × List Nat) := (true, [([], []), ([], []), ([0, 1], [0, 1]), ([], []), ([], []), ([3, 4, 2], [3, 4]), ([], []), ([], []), ([6, 7, 5], [6, 7]), ([2, 8, 0, 1, 2], [2]), ([5, 9, 0, 1, 2, 3, 4, 5, 9], [5]), ([8, 10, 0, 1, 2, 3, 4, 5, 6, 7, 8, 9, 10], [8])])
def sentrylaw7_NormOrders.B3 : List Nat := [0, 0, 3, 0, 0, 31, 0, 0, 255, 511, 1023, 2047]
theorem sentrylaw7_NormOrders.tab3 : rtab .any (opsOf Tryz.f5 3) = sentrylaw7_NormOrders.T3 := by kernel_rfl
theorem sentrylaw7_NormOrders.bits3 : waitsOk sentrylaw7_NormOrders.T3.2 sentrylaw7_NormOrders.B3 = true := by kernel_rfl
set_option maxHeartbeats 8000000 in
set_option maxRecDepth 100000 in
theorem sentrylaw7_NormOrders.calls (k : Nat) (A0_0 : Option Addr) (c0_0 : Nat) (l0_0 : List (S78)) (A0_1 : Option Addr) (c0_1 : Nat) (l0_1 : List (S93)) (A1_0 : Option Addr) (c1_0 : Nat) (l1_0 : List (S78)) (A1_1 : Option Addr) (c1_1 : Nat) (l1_1 : List (S93)) (A2_0 : Option Addr) (c2_0 : Nat) (l2_0 : List (S78)) (A2_1 : Option Addr) (c2_1 : Nat) (l2_1 : List (S93)) (r : Bool) (w : World) (hr0_0 : Kd.C k78 w A0_0 l0_0.length l0_0) (hc0_0 : l0_0.length ≤ c0_0) (hr0_1 : Kd.C k93 w A0_1 l0_1.length l0_1) (hc0_1 : l0_1.length ≤ c0_1) (hr1_0 : Kd.C k78 w A1_0 l1_0.length l1_0) (hc1_0 : l1_0.length ≤ c1_0) (hr1_1 : Kd.C k93 w A1_1 l1_1.length l1_1) (hc1_1 : l1_1.length ≤ c1_1) (hr2_0 : Kd.C k78 w A2_0 l2_0.length l2_0) (hc2_0 : l2_0.length ≤ c2_0) (hr2_1 : Kd.C k93 w A2_1 l2_1.length l2_1) (hc2_1 : l2_1.length ≤ c2_1) (h : sentrylaw7_NormOrders.f k l0_0 l0_1 l1_0 l1_1 l2_0 l2_1 = some r) :
    Calls Tryz.prog 5 #[.agg #[.slice A0_0 l0_0.length c0_0, .slice A0_1 l0_1.length c0_1], .agg #[.slice A1_0 l1_0.length c1_0, .slice A1_1 l1_1.length c1_1], .agg #[.slice A2_0 l2_0.length c2_0, .slice A2_1 l2_1.length c2_1]] w fun e w' => e = .returned (.bool r) ∧ Below w.heap.size w w' := by
  have hu29 := Tryz.underlying29
  have HR0_0 := am hr0_0
  have HC0_0 := am hc0_0
  clear hr0_0 hc0_0
  have HR0_1 := am hr0_1
  have HC0_1 := am hc0_1
  clear hr0_1 hc0_1
  have HR1_0 := am hr1_0
  have HC1_0 := am hc1_0
  clear hr1_0 hc1_0
  have HR1_1 := am hr1_1
  have HC1_1 := am hc1_1
  clear hr1_1 hc1_1
  have HR2_0 := am hr2_0
  have HC2_0 := am hc2_0
  clear hr2_0 hc2_0
  have HR2_1 := am hr2_1
  have HC2_1 := am hc2_1
  clear hr2_1 hc2_1
  have HB := am (Below.refl w.heap.size w)
  have H : (if (wrap64 ((wrap64 ((wrap64 ((wrap64 ((wrap64 ((l0_0.length : Int) + (l0_1.length : Int))) + (l1_0.length : Int))) + (l1_1.length : Int))) + (l2_0.length : Int))) + (l2_1.length : Int))) > 60 then (some true) else ((norm_CmpSentry.f k l0_0 l0_1 l1_0 l1_1).bind fun t104 => ((norm_CmpSentry.f k l1_0 l1_1 l2_0 l2_1).bind fun t105 => ((norm_CmpSentry.f k l0_0 l0_1 l2_0 l2_1).bind fun t106 => ((norm_CmpSentry.f k l1_0 l1_1 l0_0 l0_1).bind fun t107 => (if t104 = (wrap64 (-t107)) then (if t104 ≥ (-1) then (if t104 ≤ 1 then (if t104 > 0 then ((norm_CmpSentry.f k l0_0 l0_1 l0_0 l0_1).bind fun t108 => (if t108 = 0 then ((sentrylaw7_known.f k).bind fun t109 => (some t109)) else (some false))) else (if t105 > 0 then ((norm_CmpSentry.f k l0_0 l0_1 l0_0 l0_1).bind fun t110 => (if t110 = 0 then ((sentrylaw7_known.f k).bind fun t111 => (some t111)) else (some false))) else (if t106 ≤ 0 then ((norm_CmpSentry.f k l0_0 l0_1 l0_0 l0_1).bind fun t112 => (if t112 = 0 then ((sentrylaw7_known.f k).bind fun t113 => (some t113)) else (some false))) else (some false)))) else (some false)) else (some false)) else (some false))))))) = some r := h
  clear h
  by_cases c4 : (wrap64 ((wrap64 ((wrap64 ((wrap64 ((wrap64 ((l0_0.length : Int) + (l0_1.length : Int))) + (l1_0.length : Int))) + (l1_1.length : Int))) + (l2_0.length : Int))) + (l2_1.length : Int))) > 60
  · rw [if_pos c4] at H
    have c4b0 : decide (60 < (wrap64 ((wrap64 ((wrap64 ((wrap64 ((wrap64 ((l0_0.length : Int) + (l0_1.length : Int))) + (l1_0.length : Int))) + (l1_1.length : Int))) + (l2_0.length : Int))) + (l2_1.length : Int)))) = true := decide_eq_true c4
    clear c4
    obtain rfl := Option.some.inj H
    go_enter Tryz.func5, Tryz.ntmps5
    go_wp2_with (first | ((with_reducible refine gd_ 3 ?_); refine bx_ 3 #[.slice A0_0 l0_0.length c0_0, .slice A0_1 l0_1.length c0_1] 29 ?_; intro gb101 hg w5 hbox hb; have BK101 := am (hbox); have GW101 := am (zg : w.heap.size ≤ gb101); have GE101 := am (zg : w.heap.size ≤ gb101); replace HB := am (below_step (zb) hb); clear hb hbox hg) | ((with_reducible refine gd_ 4 ?_); refine bx_ 4 #[.slice A1_0 l1_0.length c1_0, .slice A1_1 l1_1.length c1_1] 29 ?_; intro gb102 hg w6 hbox hb; have BK102 := am (hbox); have GW102 := am (zg : w.heap.size ≤ gb102); have GE102 := am (zg : w.heap.size ≤ gb102); replace HB := am (below_step (zb) hb); have NB101_102 := am ((zn BK101.out : gb101 ≠ gb102)); have NB102_101 := am ((zm BK101.out : gb102 ≠ gb101)); replace BK101 := am (zw BK101.out hb); clear hb hbox hg) | ((with_reducible refine gd_ 5 ?_); refine bx_ 5 #[.slice A2_0 l2_0.length c2_0, .slice A2_1 l2_1.length c2_1] 29 ?_; intro gb103 hg w7 hbox hb; have BK103 := am (hbox); have GW103 := am (zg : w.heap.size ≤ gb103); have GE103 := am (zg : w.heap.size ≤ gb103); replace HB := am (below_step (zb) hb); have NB101_103 := am ((zn BK101.out : gb101 ≠ gb103)); have NB103_101 := am ((zm BK101.out : gb103 ≠ gb101)); replace BK101 := am (zw BK101.out hb); have NB102_103 := am ((zn BK102.out : gb102 ≠ gb103)); have NB103_102 := am ((zm BK102.out : gb103 ≠ gb102)); replace BK102 := am (zw BK102.out hb); clear hb hbox hg; have hnb8 := NB101_102.out; have hnc8 := NB102_101.out; have hnb9 := NB101_103.out; have hnc9 := NB103_101.out; obtain ⟨hcz10_0, hcz10_1, hfz10_0, hfz10_1⟩ := cf2 BK101.out; have hnb11 := NB102_103.out; have hnc11 := NB103_102.out; obtain ⟨hcz12_0, hcz12_1, hfz12_0, hfz12_1⟩ := cf2 BK102.out; obtain ⟨hcz13_0, hcz13_1, hfz13_0, hfz13_1⟩ := cf2 BK103.out))
    go_ret
    exact ⟨zf, zb⟩
  · rw [if_neg c4] at H
    have c4b0 : decide (60 < (wrap64 ((wrap64 ((wrap64 ((wrap64 ((wrap64 ((l0_0.length : Int) + (l0_1.length : Int))) + (l1_0.length : Int))) + (l1_1.length : Int))) + (l2_0.length : Int))) + (l2_1.length : Int)))) = false := decide_eq_false c4
    clear c4
    replace H := Option.bind_eq_some_iff.mp H
    obtain ⟨t104, A140, H⟩ := H
    replace H : ((norm_CmpSentry.f k l1_0 l1_1 l2_0 l2_1).bind fun t105 => ((norm_CmpSentry.f k l0_0 l0_1 l2_0 l2_1).bind fun t106 => ((norm_CmpSentry.f k l1_0 l1_1 l0_0 l0_1).bind fun t107 => (if t104 = (wrap64 (-t107)) then (if t104 ≥ (-1) then (if t104 ≤ 1 then (if t104 > 0 then ((norm_CmpSentry.f k l0_0 l0_1 l0_0 l0_1).bind fun t108 => (if t108 = 0 then ((sentrylaw7_known.f k).bind fun t109 => (some t109)) else (some false))) else (if t105 > 0 then ((norm_CmpSentry.f k l0_0 l0_1 l0_0 l0_1).bind fun t110 => (if t110 = 0 then ((sentrylaw7_known.f k).bind fun t111 => (some t111)) else (some false))) else (if t106 ≤ 0 then ((norm_CmpSentry.f k l0_0 l0_1 l0_0 l0_1).bind fun t112 => (if t112 = 0 then ((sentrylaw7_known.f k).bind fun t113 => (some t113)) else (some false))) else (some false)))) else (some false)) else (some false)) else (some false))))) = some r := H
    have A14 := am A140
    clear A140
    replace H := Option.bind_eq_some_iff.mp H
    obtain ⟨t105, A150, H⟩ := H
    replace H : ((norm_CmpSentry.f k l0_0 l0_1 l2_0 l2_1).bind fun t106 => ((norm_CmpSentry.f k l1_0 l1_1 l0_0 l0_1).bind fun t107 => (if t104 = (wrap64 (-t107)) then (if t104 ≥ (-1) then (if t104 ≤ 1 then (if t104 > 0 then ((norm_CmpSentry.f k l0_0 l0_1 l0_0 l0_1).bind fun t108 => (if t108 = 0 then ((sentrylaw7_known.f k).bind fun t109 => (some t109)) else (some false))) else (if t105 > 0 then ((norm_CmpSentry.f k l0_0 l0_1 l0_0 l0_1).bind fun t110 => (if t110 = 0 then ((sentrylaw7_known.f k).bind fun t111 => (some t111)) else (some false))) else (if t106 ≤ 0 then ((norm_CmpSentry.f k l0_0 l0_1 l0_0 l0_1).bind fun t112 => (if t112 = 0 then ((sentrylaw7_known.f k).bind fun t113 => (some t113)) else (some false))) else (some false)))) else (some false)) else (some false)) else (some false)))) = some r := H
    have A15 := am A150
    clear A150
    replace H := Option.bind_eq_some_iff.mp H
    obtain ⟨t106, A160, H⟩ := H
    replace H : ((norm_CmpSentry.f k l1_0 l1_1 l0_0 l0_1).bind fun t107 => (if t104 = (wrap64 (-t107)) then (if t104 ≥ (-1) then (if t104 ≤ 1 then (if t104 > 0 then ((norm_CmpSentry.f k l0_0 l0_1 l0_0 l0_1).bind fun t108 => (if t108 = 0 then ((sentrylaw7_known.f k).bind fun t109 => (some t109)) else (some false))) else (if t105 > 0 then ((norm_CmpSentry.f k l0_0 l0_1 l0_0 l0_1).bind fun t110 => (if t110 = 0 then ((sentrylaw7_known.f k).bind fun t111 => (some t111)) else (some false))) else (if t106 ≤ 0 then ((norm_CmpSentry.f k l0_0 l0_1 l0_0 l0_1).bind fun t112 => (if t112 = 0 then ((sentrylaw7_known.f k).bind fun t113 => (some t113)) else (some false))) else (some false)))) else (some false)) else (some false)) else (some false))) = some r := H
    have A16 := am A160
    clear A160
    replace H := Option.bind_eq_some_iff.mp H
    obtain ⟨t107, A170, H⟩ := H
    replace H : (if t104 = (wrap64 (-t107)) then (if t104 ≥ (-1) then (if t104 ≤ 1 then (if t104 > 0 then ((norm_CmpSentry.f k l0_0 l0_1 l0_0 l0_1).bind fun t108 => (if t108 = 0 then ((sentrylaw7_known.f k).bind fun t109 => (some t109)) else (some false))) else (if t105 > 0 then ((norm_CmpSentry.f k l0_0 l0_1 l0_0 l0_1).bind fun t110 => (if t110 = 0 then ((sentrylaw7_known.f k).bind fun t111 => (some t111)) else (some false))) else (if t106 ≤ 0 then ((norm_CmpSentry.f k l0_0 l0_1 l0_0 l0_1).bind fun t112 => (if t112 = 0 then ((sentrylaw7_known.f k).bind fun t113 => (some t113)) else (some false))) else (some false)))) else (some false)) else (some false)) else (some false)) = some r := H
    have A17 := am A170
    clear A170
    by_cases c18 : t104 = (wrap64 (-t107))
    · rw [if_pos c18] at H
      have c18b0 : (t104 == (wrap64 (-t107))) = true := beq_iff_eq.mpr c18
      have c18b1 : (t104 != (wrap64 (-t107))) = false := bne_eq_false_iff_eq.mpr c18
      clear c18
      by_cases c19 : t104 ≥ (-1)
      · rw [if_pos c19] at H
        have c19b0 : decide ((-1) ≤ t104) = true := decide_eq_true c19
        clear c19
        by_cases c20 : t104 ≤ 1
        · rw [if_pos c20] at H
          have c20b0 : decide (t104 ≤ 1) = true := decide_eq_true c20
          clear c20
          by_cases c21 : t104 > 0
          · rw [if_pos c21] at H
            have c21b0 : decide (0 < t104) = true := decide_eq_true c21
            clear c21
            replace H := Option.bind_eq_some_iff.mp H
            obtain ⟨t108, A220, H⟩ := H
            replace H : (if t108 = 0 then ((sentrylaw7_known.f k).bind fun t109 => (some t109)) else (some false)) = some r := H
            have A22 := am A220
            clear A220
            by_cases c23 : t108 = 0
            · rw [if_pos c23] at H
              have c23b0 : (t108 == 0) = true := beq_iff_eq.mpr c23
              have c23b1 : (t108 != 0) = false := bne_eq_false_iff_eq.mpr c23
              clear c23
              replace H := Option.bind_eq_some_iff.mp H
              obtain ⟨t109, A240, H⟩ := H
              replace H : (some t109) = some r := H
              have A24 := am A240
              clear A240
              obtain rfl := Option.some.inj H
              go_enter Tryz.func5, Tryz.ntmps5
              try go_wp2_with (first | ((with_reducible refine gd_ 3 ?_); refine bx_ 3 #[.slice A0_0 l0_0.length c0_0, .slice A0_1 l0_1.length c0_1] 29 ?_; intro gb101 hg w25 hbox hb; have BK101 := am (hbox); have GW101 := am (zg : w.heap.size ≤ gb101); have GE101 := am (zg : w.heap.size ≤ gb101); replace HB := am (below_step (zb) hb); clear hb hbox hg) | ((with_reducible refine gd_ 4 ?_); refine bx_ 4 #[.slice A1_0 l1_0.length c1_0, .slice A1_1 l1_1.length c1_1] 29 ?_; intro gb102 hg w26 hbox hb; have BK102 := am (hbox); have GW102 := am (zg : w.heap.size ≤ gb102); have GE102 := am (zg : w.heap.size ≤ gb102); replace HB := am (below_step (zb) hb); have NB101_102 := am ((zn BK101.out : gb101 ≠ gb102)); have NB102_101 := am ((zm BK101.out : gb102 ≠ gb101)); replace BK101 := am (zw BK101.out hb); clear hb hbox hg) | ((with_reducible refine gd_ 5 ?_); refine bx_ 5 #[.slice A2_0 l2_0.length c2_0, .slice A2_1 l2_1.length c2_1] 29 ?_; intro gb103 hg w27 hbox hb; have BK103 := am (hbox); have GW103 := am (zg : w.heap.size ≤ gb103); have GE103 := am (zg : w.heap.size ≤ gb103); replace HB := am (below_step (zb) hb); have NB101_103 := am ((zn BK101.out : gb101 ≠ gb103)); have NB103_101 := am ((zm BK101.out : gb103 ≠ gb101)); replace BK101 := am (zw BK101.out hb); have NB102_103 := am ((zn BK102.out : gb102 ≠ gb103)); have NB103_102 := am ((zm BK102.out : gb103 ≠ gb102)); replace BK102 := am (zw BK102.out hb); clear hb hbox hg; have hnb28 := NB101_102.out; have hnc28 := NB102_101.out; have hnb29 := NB101_103.out; have hnc29 := NB103_101.out; obtain ⟨hcz30_0, hcz30_1, hfz30_0, hfz30_1⟩ := cf2 BK101.out; have hnb31 := NB102_103.out; have hnc31 := NB103_102.out; obtain ⟨hcz32_0, hcz32_1, hfz32_0, hfz32_1⟩ := cf2 BK102.out; obtain ⟨hcz33_0, hcz33_1, hfz33_0, hfz33_1⟩ := cf2 BK103.out))
              replace BK101 := am (blk_drew BK101.out)
              replace BK102 := am (blk_drew BK102.out)
              replace BK103 := am (blk_drew BK103.out)
              replace HB := am (below_drew1 HB.out)
              refine start_ (n := 12) (S := fun w' => w'.cell? ⟨gb101, 0, none⟩ = some (.slice A0_0 l0_0.length c0_0) ∧ w'.cell? ⟨gb101, 1, none⟩ = some (.slice A0_1 l0_1.length c0_1) ∧ w'.cell? ⟨gb102, 0, none⟩ = some (.slice A1_0 l1_0.length c1_0) ∧ w'.cell? ⟨gb102, 1, none⟩ = some (.slice A1_1 l1_1.length c1_1) ∧ w'.cell? ⟨gb103, 0, none⟩ = some (.slice A2_0 l2_0.length c2_0) ∧ w'.cell? ⟨gb103, 1, none⟩ = some (.slice A2_1 l2_1.length c2_1)) (ds := []) #[false, false, false, false, false, false, false, false, false, false, false, false] (by kernel_rfl) rfl rfl ⟨(blk_cell BK101.out 0).trans rfl, (blk_cell BK101.out 1).trans rfl, (blk_cell BK102.out 0).trans rfl, (blk_cell BK102.out 1).trans rfl, (blk_cell BK103.out 0).trans rfl, (blk_cell BK103.out 1).trans rfl⟩ (fun hHeld => ?_); refine with_tabW sentrylaw7_NormOrders.tab3 sentrylaw7_NormOrders.bits3 (fun HT_ HW_ => ?_)
              generalize w27.drew = w34 at BK101 BK102 BK103 HB hHeld ⊢
              refine tz_ 0 34 12 1 ?_
              refine tz_ 1 35 12 3 ?_
              refine tz_ 3 37 12 11 ?_
              refine tz_ 4 38 12 27 ?_
              refine tz_ 6 40 12 91 ?_
              refine tz_ 7 41 12 219 ?_
              refine one_ (i := 2) (N := some 36) #[true, true, true, true, true, false, true, true, false, false, false, false] rfl rfl (one_of HT_.out (by kernel_rfl)) (by decide) (fun K hK => ?_)
              refine goes_ Tryz.func32 (by kernel_rfl) rfl #[.agg #[.slice A0_0 l0_0.length c0_0, .slice A0_1 l0_1.length c0_1], .agg #[.slice A1_0 l1_0.length c1_0, .slice A1_1 l1_1.length c1_1]] (by rfl) rfl rfl (za) ?_
              with_reducible refine (norm_CmpSentry.calls k _ _ l0_0 _ _ l0_1 _ _ l1_0 _ _ l1_1 t104 _ ?side1 ?side2 ?side3 ?side4 ?side5 ?side6 ?side7 ?side8 A14.out).mono ?_
              (case side1 => exact zc (Kd.C_below HR0_0.out HB.out))
              (case side2 => exact HC0_0.out)
              (case side3 => exact zc (Kd.C_below HR0_1.out HB.out))
              (case side4 => exact HC0_1.out)
              (case side5 => exact zc (Kd.C_below HR1_0.out HB.out))
              (case side6 => exact HC1_0.out)
              (case side7 => exact zc (Kd.C_below HR1_1.out HB.out))
              (case side8 => exact HC1_1.out)
              rintro e w35 ⟨rfl, hb⟩
              refine ⟨_, rfl, ?_⟩
              replace BK101 := am (zw BK101.out hb)
              replace BK102 := am (zw BK102.out hb)
              replace BK103 := am (zw BK103.out hb)
              replace HB := am (below_step (zb) hb)
              (try clear hb)
              (try clear hb2)
              (try clear hk)
              (try clear hi)
              refine hK.out _ _ ⟨(blk_cell BK101.out 0).trans rfl, (blk_cell BK101.out 1).trans rfl, (blk_cell BK102.out 0).trans rfl, (blk_cell BK102.out 1).trans rfl, (blk_cell BK103.out 0).trans rfl, (blk_cell BK103.out 1).trans rfl⟩ (fun hHeld => ?_)
              clear hK K
              refine nz_ 36 ?_
              refine one_ (i := 5) (N := some 39) #[true, true, true, true, true, true, true, true, false, false, false, false] rfl rfl (one_of HT_.out (by kernel_rfl)) (by decide) (fun K hK => ?_)
              refine goes_ Tryz.func32 (by kernel_rfl) rfl #[.agg #[.slice A1_0 l1_0.length c1_0, .slice A1_1 l1_1.length c1_1], .agg #[.slice A2_0 l2_0.length c2_0, .slice A2_1 l2_1.length c2_1]] (by rfl) rfl rfl (za) ?_
              with_reducible refine (norm_CmpSentry.calls k _ _ l1_0 _ _ l1_1 _ _ l2_0 _ _ l2_1 t105 _ ?side1 ?side2 ?side3 ?side4 ?side5 ?side6 ?side7 ?side8 A15.out).mono ?_
              (case side1 => exact zc (Kd.C_below HR1_0.out HB.out))
              (case side2 => exact HC1_0.out)
              (case side3 => exact zc (Kd.C_below HR1_1.out HB.out))
              (case side4 => exact HC1_1.out)
              (case side5 => exact zc (Kd.C_below HR2_0.out HB.out))
              (case side6 => exact HC2_0.out)
              (case side7 => exact zc (Kd.C_below HR2_1.out HB.out))
              (case side8 => exact HC2_1.out)
              rintro e w36 ⟨rfl, hb⟩
              refine ⟨_, rfl, ?_⟩
              replace BK101 := am (zw BK101.out hb)
              replace BK102 := am (zw BK102.out hb)
              replace BK103 := am (zw BK103.out hb)
              replace HB := am (below_step (zb) hb)
              (try clear hb)
              (try clear hb2)
              (try clear hk)
              (try clear hi)
              refine hK.out _ _ ⟨(blk_cell BK101.out 0).trans rfl, (blk_cell BK101.out 1).trans rfl, (blk_cell BK102.out 0).trans rfl, (blk_cell BK102.out 1).trans rfl, (blk_cell BK103.out 0).trans rfl, (blk_cell BK103.out 1).trans rfl⟩ (fun hHeld => ?_)
              clear hK K
              refine nz_ 39 ?_
              refine one_ (i := 8) (N := some 42) #[true, true, true, true, true, true, true, true, true, false, false, false] rfl rfl (one_of HT_.out (by kernel_rfl)) (by decide) (fun K hK => ?_)
              refine goes_ Tryz.func32 (by kernel_rfl) rfl #[.agg #[.slice A0_0 l0_0.length c0_0, .slice A0_1 l0_1.length c0_1], .agg #[.slice A2_0 l2_0.length c2_0, .slice A2_1 l2_1.length c2_1]] (by rfl) rfl rfl (za) ?_
              with_reducible refine (norm_CmpSentry.calls k _ _ l0_0 _ _ l0_1 _ _ l2_0 _ _ l2_1 t106 _ ?side1 ?side2 ?side3 ?side4 ?side5 ?side6 ?side7 ?side8 A16.out).mono ?_
              (case side1 => exact zc (Kd.C_below HR0_0.out HB.out))
              (case side2 => exact HC0_0.out)
              (case side3 => exact zc (Kd.C_below HR0_1.out HB.out))
              (case side4 => exact HC0_1.out)
              (case side5 => exact zc (Kd.C_below HR2_0.out HB.out))
              (case side6 => exact HC2_0.out)
              (case side7 => exact zc (Kd.C_below HR2_1.out HB.out))
              (case side8 => exact HC2_1.out)
              rintro e w37 ⟨rfl, hb⟩
              refine ⟨_, rfl, ?_⟩
              replace BK101 := am (zw BK101.out hb)
              replace BK102 := am (zw BK102.out hb)
              replace BK103 := am (zw BK103.out hb)
              replace HB := am (below_step (zb) hb)
              (try clear hb)
              (try clear hb2)
              (try clear hk)
              (try clear hi)
              refine hK.out _ _ ⟨(blk_cell BK101.out 0).trans rfl, (blk_cell BK101.out 1).trans rfl, (blk_cell BK102.out 0).trans rfl, (blk_cell BK102.out 1).trans rfl, (blk_cell BK103.out 0).trans rfl, (blk_cell BK103.out 1).trans rfl⟩ (fun hHeld => ?_)
              clear hK K
              refine nz_ 42 ?_
              refine pz_ 9 7 12 1023 ?_
              refine pz_ 10 8 12 2047 ?_
              refine pz_ 11 9 12 4095 ?_
              refine done_ (done_of HT_.out (by kernel_rfl)) ?_
              obtain ⟨hcz38_0, hcz38_1, hfz38_0, hfz38_1⟩ := cf2 BK102.out
              obtain ⟨hcz39_0, hcz39_1, hfz39_0, hfz39_1⟩ := cf2 BK101.out
              try go_wp2_with (first | ((with_reducible refine gc_ 32 ?_); refine goesL_ (some 46) rfl rfl Tryz.func32 (by kernel_rfl) rfl #[.agg #[.slice A1_0 l1_0.length c1_0, .slice A1_1 l1_1.length c1_1], .agg #[.slice A0_0 l0_0.length c0_0, .slice A0_1 l0_1.length c0_1]] rfl (za) ?_; (with_reducible refine (norm_CmpSentry.calls k _ _ l1_0 _ _ l1_1 _ _ l0_0 _ _ l0_1 t107 _ ?side1 ?side2 ?side3 ?side4 ?side5 ?side6 ?side7 ?side8 A17.out).mono ?_); (case side1 => exact zc (Kd.C_below HR1_0.out HB.out)); (case side2 => exact HC1_0.out); (case side3 => exact zc (Kd.C_below HR1_1.out HB.out)); (case side4 => exact HC1_1.out); (case side5 => exact zc (Kd.C_below HR0_0.out HB.out)); (case side6 => exact HC0_0.out); (case side7 => exact zc (Kd.C_below HR0_1.out HB.out)); (case side8 => exact HC0_1.out); rintro e w40 ⟨rfl, hb⟩; refine ⟨_, rfl, ?_⟩; replace BK101 := am (zw BK101.out hb); replace BK102 := am (zw BK102.out hb); replace BK103 := am (zw BK103.out hb); replace HB := am (below_step (zb) hb); (try clear hb); (try clear hb2); (try clear hk); (try clear hi); obtain ⟨hcz41_0, hcz41_1, hfz41_0, hfz41_1⟩ := cf2 BK101.out) | (go_at_call 32; (with_reducible refine (norm_CmpSentry.calls k _ _ l0_0 _ _ l0_1 _ _ l0_0 _ _ l0_1 t108 _ ?side1 ?side2 ?side3 ?side4 ?side5 ?side6 ?side7 ?side8 A22.out).mono ?_); (case side1 => exact zc (Kd.C_below HR0_0.out HB.out)); (case side2 => exact HC0_0.out); (case side3 => exact zc (Kd.C_below HR0_1.out HB.out)); (case side4 => exact HC0_1.out); (case side5 => exact zc (Kd.C_below HR0_0.out HB.out)); (case side6 => exact HC0_0.out); (case side7 => exact zc (Kd.C_below HR0_1.out HB.out)); (case side8 => exact HC0_1.out); rintro e w42 ⟨rfl, hb⟩; replace BK101 := am (zw BK101.out hb); replace BK102 := am (zw BK102.out hb); replace BK103 := am (zw BK103.out hb); replace HB := am (below_step (zb) hb); (try clear hb); (try clear hb2); (try clear hk); (try clear hi)) | (go_at_call 38; (with_reducible refine (sentrylaw7_known.calls k  t109 _ A24.out).mono ?_); rintro e w43 ⟨rfl, hb⟩; replace BK101 := am (zw BK101.out hb); replace BK102 := am (zw BK102.out hb); replace BK103 := am (zw BK103.out hb); replace HB := am (below_step (zb) hb); (try clear hb); (try clear hb2); (try clear hk); (try clear hi)))
              go_ret
              exact ⟨zf, zb⟩
            · rw [if_neg c23] at H
              have c23b0 : (t108 == 0) = false := beq_eq_false_iff_ne.mpr c23
              have c23b1 : (t108 != 0) = true := bne_iff_ne.mpr c23
              obtain rfl := Option.some.inj H
              go_enter Tryz.func5, Tryz.ntmps5
              try go_wp2_with (first | ((with_reducible refine gd_ 3 ?_); refine bx_ 3 #[.slice A0_0 l0_0.length c0_0, .slice A0_1 l0_1.length c0_1] 29 ?_; intro gb101 hg w44 hbox hb; have BK101 := am (hbox); have GW101 := am (zg : w.heap.size ≤ gb101); have GE101 := am (zg : w.heap.size ≤ gb101); replace HB := am (below_step (zb) hb); clear hb hbox hg) | ((with_reducible refine gd_ 4 ?_); refine bx_ 4 #[.slice A1_0 l1_0.length c1_0, .slice A1_1 l1_1.length c1_1] 29 ?_; intro gb102 hg w45 hbox hb; have BK102 := am (hbox); have GW102 := am (zg : w.heap.size ≤ gb102); have GE102 := am (zg : w.heap.size ≤ gb102); replace HB := am (below_step (zb) hb); have NB101_102 := am ((zn BK101.out : gb101 ≠ gb102)); have NB102_101 := am ((zm BK101.out : gb102 ≠ gb101)); replace BK101 := am (zw BK101.out hb); clear hb hbox hg) | ((with_reducible refine gd_ 5 ?_); refine bx_ 5 #[.slice A2_0 l2_0.length c2_0, .slice A2_1 l2_1.length c2_1] 29 ?_; intro gb103 hg w46 hbox hb; have BK103 := am (hbox); have GW103 := am (zg : w.heap.size ≤ gb103); have GE103 := am (zg : w.heap.size ≤ gb103); replace HB := am (below_step (zb) hb); have NB101_103 := am ((zn BK101.out : gb101 ≠ gb103)); have NB103_101 := am ((zm BK101.out : gb103 ≠ gb101)); replace BK101 := am (zw BK101.out hb); have NB102_103 := am ((zn BK102.out : gb102 ≠ gb103)); have NB103_102 := am ((zm BK102.out : gb103 ≠ gb102)); replace BK102 := am (zw BK102.out hb); clear hb hbox hg; have hnb47 := NB101_102.out; have hnc47 := NB102_101.out; have hnb48 := NB101_103.out; have hnc48 := NB103_101.out; obtain ⟨hcz49_0, hcz49_1, hfz49_0, hfz49_1⟩ := cf2 BK101.out; have hnb50 := NB102_103.out; have hnc50 := NB103_102.out; obtain ⟨hcz51_0, hcz51_1, hfz51_0, hfz51_1⟩ := cf2 BK102.out; obtain ⟨hcz52_0, hcz52_1, hfz52_0, hfz52_1⟩ := cf2 BK103.out))
              replace BK101 := am (blk_drew BK101.out)
              replace BK102 := am (blk_drew BK102.out)
              replace BK103 := am (blk_drew BK103.out)
              replace HB := am (below_drew1 HB.out)
              refine start_ (n := 12) (S := fun w' => w'.cell? ⟨gb101, 0, none⟩ = some (.slice A0_0 l0_0.length c0_0) ∧ w'.cell? ⟨gb101, 1, none⟩ = some (.slice A0_1 l0_1.length c0_1) ∧ w'.cell? ⟨gb102, 0, none⟩ = some (.slice A1_0 l1_0.length c1_0) ∧ w'.cell? ⟨gb102, 1, none⟩ = some (.slice A1_1 l1_1.length c1_1) ∧ w'.cell? ⟨gb103, 0, none⟩ = some (.slice A2_0 l2_0.length c2_0) ∧ w'.cell? ⟨gb103, 1, none⟩ = some (.slice A2_1 l2_1.length c2_1)) (ds := []) #[false, false, false, false, false, false, false, false, false, false, false, false] (by kernel_rfl) rfl rfl ⟨(blk_cell BK101.out 0).trans rfl, (blk_cell BK101.out 1).trans rfl, (blk_cell BK102.out 0).trans rfl, (blk_cell BK102.out 1).trans rfl, (blk_cell BK103.out 0).trans rfl, (blk_cell BK103.out 1).trans rfl⟩ (fun hHeld => ?_); refine with_tabW sentrylaw7_NormOrders.tab3 sentrylaw7_NormOrders.bits3 (fun HT_ HW_ => ?_)
              generalize w46.drew = w53 at BK101 BK102 BK103 HB hHeld ⊢
              refine tz_ 0 34 12 1 ?_
              refine tz_ 1 35 12 3 ?_
              refine tz_ 3 37 12 11 ?_
              refine tz_ 4 38 12 27 ?_
              refine tz_ 6 40 12 91 ?_
              refine tz_ 7 41 12 219 ?_
              refine one_ (i := 2) (N := some 36) #[true, true, true, true, true, false, true, true, false, false, false, false] rfl rfl (one_of HT_.out (by kernel_rfl)) (by decide) (fun K hK => ?_)
              refine goes_ Tryz.func32 (by kernel_rfl) rfl #[.agg #[.slice A0_0 l0_0.length c0_0, .slice A0_1 l0_1.length c0_1], .agg #[.slice A1_0 l1_0.length c1_0, .slice A1_1 l1_1.length c1_1]] (by rfl) rfl rfl (za) ?_
              with_reducible refine (norm_CmpSentry.calls k _ _ l0_0 _ _ l0_1 _ _ l1_0 _ _ l1_1 t104 _ ?side1 ?side2 ?side3 ?side4 ?side5 ?side6 ?side7 ?side8 A14.out).mono ?_
              (case side1 => exact zc (Kd.C_below HR0_0.out HB.out))
              (case side2 => exact HC0_0.out)
              (case side3 => exact zc (Kd.C_below HR0_1.out HB.out))
              (case side4 => exact HC0_1.out)
              (case side5 => exact zc (Kd.C_below HR1_0.out HB.out))
              (case side6 => exact HC1_0.out)
              (case side7 => exact zc (Kd.C_below HR1_1.out HB.out))
              (case side8 => exact HC1_1.out)
              rintro e w54 ⟨rfl, hb⟩
              refine ⟨_, rfl, ?_⟩
              replace BK101 := am (zw BK101.out hb)
              replace BK102 := am (zw BK102.out hb)
              replace BK103 := am (zw BK103.out hb)
              replace HB := am (below_step (zb) hb)
              (try clear hb)
              (try clear hb2)
              (try clear hk)
              (try clear hi)
              refine hK.out _ _ ⟨(blk_cell BK101.out 0).trans rfl, (blk_cell BK101.out 1).trans rfl, (blk_cell BK102.out 0).trans rfl, (blk_cell BK102.out 1).trans rfl, (blk_cell BK103.out 0).trans rfl, (blk_cell BK103.out 1).trans rfl⟩ (fun hHeld => ?_)
              clear hK K
              refine nz_ 36 ?_
              refine one_ (i := 5) (N := some 39) #[true, true, true, true, true, true, true, true, false, false, false, false] rfl rfl (one_of HT_.out (by kernel_rfl)) (by decide) (fun K hK => ?_)
              refine goes_ Tryz.func32 (by kernel_rfl) rfl #[.agg #[.slice A1_0 l1_0.length c1_0, .slice A1_1 l1_1.length c1_1], .agg #[.slice A2_0 l2_0.length c2_0, .slice A2_1 l2_1.length c2_1]] (by rfl) rfl rfl (za) ?_
              with_reducible refine (norm_CmpSentry.calls k _ _ l1_0 _ _ l1_1 _ _ l2_0 _ _ l2_1 t105 _ ?side1 ?side2 ?side3 ?side4 ?side5 ?side6 ?side7 ?side8 A15.out).mono ?_
              (case side1 => exact zc (Kd.C_below HR1_0.out HB.out))
              (case side2 => exact HC1_0.out)
              (case side3 => exact zc (Kd.C_below HR1_1.out HB.out))
              (case side4 => exact HC1_1.out)
              (case side5 => exact zc (Kd.C_below HR2_0.out HB.out))
              (case side6 => exact HC2_0.out)
              (case side7 => exact zc (Kd.C_below HR2_1.out HB.out))
              (case side8 => exact HC2_1.out)
              rintro e w55 ⟨rfl, hb⟩
              refine ⟨_, rfl, ?_⟩
              replace BK101 := am (zw BK101.out hb)
              replace BK102 := am (zw BK102.out hb)
              replace BK103 := am (zw BK103.out hb)
              replace HB := am (below_step (zb) hb)
              (try clear hb)
              (try clear hb2)
              (try clear hk)
              (try clear hi)
              refine hK.out _ _ ⟨(blk_cell BK101.out 0).trans rfl, (blk_cell BK101.out 1).trans rfl, (blk_cell BK102.out 0).trans rfl, (blk_cell BK102.out 1).trans rfl, (blk_cell BK103.out 0).trans rfl, (blk_cell BK103.out 1).trans rfl⟩ (fun hHeld => ?_)
              clear hK K
              refine nz_ 39 ?_
              refine one_ (i := 8) (N := some 42) #[true, true, true, true, true, true, true, true, true, false, false, false] rfl rfl (one_of HT_.out (by kernel_rfl)) (by decide) (fun K hK => ?_)
              refine goes_ Tryz.func32 (by kernel_rfl) rfl #[.agg #[.slice A0_0 l0_0.length c0_0, .slice A0_1 l0_1.length c0_1], .agg #[.slice A2_0 l2_0.length c2_0, .slice A2_1 l2_1.length c2_1]] (by rfl) rfl rfl (za) ?_
              with_reducible refine (norm_CmpSentry.calls k _ _ l0_0 _ _ l0_1 _ _ l2_0 _ _ l2_1 t106 _ ?side1 ?side2 ?side3 ?side4 ?side5 ?side6 ?side7 ?side8 A16.out).mono ?_
              (case side1 => exact zc (Kd.C_below HR0_0.out HB.out))
              (case side2 => exact HC0_0.out)
              (case side3 => exact zc (Kd.C_below HR0_1.out HB.out))
              (case side4 => exact HC0_1.out)
              (case side5 => exact zc (Kd.C_below HR2_0.out HB.out))
              (case side6 => exact HC2_0.out)
              (case side7 => exact zc (Kd.C_below HR2_1.out HB.out))
              (case side8 => exact HC2_1.out)
              rintro e w56 ⟨rfl, hb⟩
              refine ⟨_, rfl, ?_⟩
              replace BK101 := am (zw BK101.out hb)
              replace BK102 := am (zw BK102.out hb)
              replace BK103 := am (zw BK103.out hb)
              replace HB := am (below_step (zb) hb)
              (try clear hb)
              (try clear hb2)
              (try clear hk)
              (try clear hi)
              refine hK.out _ _ ⟨(blk_cell BK101.out 0).trans rfl, (blk_cell BK101.out 1).trans rfl, (blk_cell BK102.out 0).trans rfl, (blk_cell BK102.out 1).trans rfl, (blk_cell BK103.out 0).trans rfl, (blk_cell BK103.out 1).trans rfl⟩ (fun hHeld => ?_)
              clear hK K
              refine nz_ 42 ?_
              refine pz_ 9 7 12 1023 ?_
              refine pz_ 10 8 12 2047 ?_
              refine pz_ 11 9 12 4095 ?_
              refine done_ (done_of HT_.out (by kernel_rfl)) ?_
              obtain ⟨hcz57_0, hcz57_1, hfz57_0, hfz57_1⟩ := cf2 BK102.out
              obtain ⟨hcz58_0, hcz58_1, hfz58_0, hfz58_1⟩ := cf2 BK101.out
              try go_wp2_with (first | ((with_reducible refine gc_ 32 ?_); refine goesL_ (some 46) rfl rfl Tryz.func32 (by kernel_rfl) rfl #[.agg #[.slice A1_0 l1_0.length c1_0, .slice A1_1 l1_1.length c1_1], .agg #[.slice A0_0 l0_0.length c0_0, .slice A0_1 l0_1.length c0_1]] rfl (za) ?_; (with_reducible refine (norm_CmpSentry.calls k _ _ l1_0 _ _ l1_1 _ _ l0_0 _ _ l0_1 t107 _ ?side1 ?side2 ?side3 ?side4 ?side5 ?side6 ?side7 ?side8 A17.out).mono ?_); (case side1 => exact zc (Kd.C_below HR1_0.out HB.out)); (case side2 => exact HC1_0.out); (case side3 => exact zc (Kd.C_below HR1_1.out HB.out)); (case side4 => exact HC1_1.out); (case side5 => exact zc (Kd.C_below HR0_0.out HB.out)); (case side6 => exact HC0_0.out); (case side7 => exact zc (Kd.C_below HR0_1.out HB.out)); (case side8 => exact HC0_1.out); rintro e w59 ⟨rfl, hb⟩; refine ⟨_, rfl, ?_⟩; replace BK101 := am (zw BK101.out hb); replace BK102 := am (zw BK102.out hb); replace BK103 := am (zw BK103.out hb); replace HB := am (below_step (zb) hb); (try clear hb); (try clear hb2); (try clear hk); (try clear hi); obtain ⟨hcz60_0, hcz60_1, hfz60_0, hfz60_1⟩ := cf2 BK101.out) | (go_at_call 32; (with_reducible refine (norm_CmpSentry.calls k _ _ l0_0 _ _ l0_1 _ _ l0_0 _ _ l0_1 t108 _ ?side1 ?side2 ?side3 ?side4 ?side5 ?side6 ?side7 ?side8 A22.out).mono ?_); (case side1 => exact zc (Kd.C_below HR0_0.out HB.out)); (case side2 => exact HC0_0.out); (case side3 => exact zc (Kd.C_below HR0_1.out HB.out)); (case side4 => exact HC0_1.out); (case side5 => exact zc (Kd.C_below HR0_0.out HB.out)); (case side6 => exact HC0_0.out); (case side7 => exact zc (Kd.C_below HR0_1.out HB.out)); (case side8 => exact HC0_1.out); rintro e w61 ⟨rfl, hb⟩; replace BK101 := am (zw BK101.out hb); replace BK102 := am (zw BK102.out hb); replace BK103 := am (zw BK103.out hb); replace HB := am (below_step (zb) hb); (try clear hb); (try clear hb2); (try clear hk); (try clear hi)))
              go_ret
              exact ⟨zf, zb⟩
          · rw [if_neg c21] at H
            have c21b0 : decide (0 < t104) = false := decide_eq_false c21
            clear c21
            by_cases c62 : t105 > 0
            · rw [if_pos c62] at H
              have c62b0 : decide (0 < t105) = true := decide_eq_true c62
              clear c62
              replace H := Option.bind_eq_some_iff.mp H
              obtain ⟨t110, A630, H⟩ := H
              replace H : (if t110 = 0 then ((sentrylaw7_known.f k).bind fun t111 => (some t111)) else (some false)) = some r := H
              have A63 := am A630
              clear A630
              by_cases c64 : t110 = 0
              · rw [if_pos c64] at H
                have c64b0 : (t110 == 0) = true := beq_iff_eq.mpr c64
                have c64b1 : (t110 != 0) = false := bne_eq_false_iff_eq.mpr c64
                clear c64
                replace H := Option.bind_eq_some_iff.mp H
                obtain ⟨t111, A650, H⟩ := H
                replace H : (some t111) = some r := H
                have A65 := am A650
                clear A650
                obtain rfl := Option.some.inj H
                go_enter Tryz.func5, Tryz.ntmps5
                try go_wp2_with (first | ((with_reducible refine gd_ 3 ?_); refine bx_ 3 #[.slice A0_0 l0_0.length c0_0, .slice A0_1 l0_1.length c0_1] 29 ?_; intro gb101 hg w66 hbox hb; have BK101 := am (hbox); have GW101 := am (zg : w.heap.size ≤ gb101); have GE101 := am (zg : w.heap.size ≤ gb101); replace HB := am (below_step (zb) hb); clear hb hbox hg) | ((with_reducible refine gd_ 4 ?_); refine bx_ 4 #[.slice A1_0 l1_0.length c1_0, .slice A1_1 l1_1.length c1_1] 29 ?_; intro gb102 hg w67 hbox hb; have BK102 := am (hbox); have GW102 := am (zg : w.heap.size ≤ gb102); have GE102 := am (zg : w.heap.size ≤ gb102); replace HB := am (below_step (zb) hb); have NB101_102 := am ((zn BK101.out : gb101 ≠ gb102)); have NB102_101 := am ((zm BK101.out : gb102 ≠ gb101)); replace BK101 := am (zw BK101.out hb); clear hb hbox hg) | ((with_reducible refine gd_ 5 ?_); refine bx_ 5 #[.slice A2_0 l2_0.length c2_0, .slice A2_1 l2_1.length c2_1] 29 ?_; intro gb103 hg w68 hbox hb; have BK103 := am (hbox); have GW103 := am (zg : w.heap.size ≤ gb103); have GE103 := am (zg : w.heap.size ≤ gb103); replace HB := am (below_step (zb) hb); have NB101_103 := am ((zn BK101.out : gb101 ≠ gb103)); have NB103_101 := am ((zm BK101.out : gb103 ≠ gb101)); replace BK101 := am (zw BK101.out hb); have NB102_103 := am ((zn BK102.out : gb102 ≠ gb103)); have NB103_102 := am ((zm BK102.out : gb103 ≠ gb102)); replace BK102 := am (zw BK102.out hb); clear hb hbox hg; have hnb69 := NB101_102.out; have hnc69 := NB102_101.out; have hnb70 := NB101_103.out; have hnc70 := NB103_101.out; obtain ⟨hcz71_0, hcz71_1, hfz71_0, hfz71_1⟩ := cf2 BK101.out; have hnb72 := NB102_103.out; have hnc72 := NB103_102.out; obtain ⟨hcz73_0, hcz73_1, hfz73_0, hfz73_1⟩ := cf2 BK102.out; obtain ⟨hcz74_0, hcz74_1, hfz74_0, hfz74_1⟩ := cf2 BK103.out))
                replace BK101 := am (blk_drew BK101.out)
                replace BK102 := am (blk_drew BK102.out)
                replace BK103 := am (blk_drew BK103.out)
                replace HB := am (below_drew1 HB.out)
                refine start_ (n := 12) (S := fun w' => w'.cell? ⟨gb101, 0, none⟩ = some (.slice A0_0 l0_0.length c0_0) ∧ w'.cell? ⟨gb101, 1, none⟩ = some (.slice A0_1 l0_1.length c0_1) ∧ w'.cell? ⟨gb102, 0, none⟩ = some (.slice A1_0 l1_0.length c1_0) ∧ w'.cell? ⟨gb102, 1, none⟩ = some (.slice A1_1 l1_1.length c1_1) ∧ w'.cell? ⟨gb103, 0, none⟩ = some (.slice A2_0 l2_0.length c2_0) ∧ w'.cell? ⟨gb103, 1, none⟩ = some (.slice A2_1 l2_1.length c2_1)) (ds := []) #[false, false, false, false, false, false, false, false, false, false, false, false] (by kernel_rfl) rfl rfl ⟨(blk_cell BK101.out 0).trans rfl, (blk_cell BK101.out 1).trans rfl, (blk_cell BK102.out 0).trans rfl, (blk_cell BK102.out 1).trans rfl, (blk_cell BK103.out 0).trans rfl, (blk_cell BK103.out 1).trans rfl⟩ (fun hHeld => ?_); refine with_tabW sentrylaw7_NormOrders.tab3 sentrylaw7_NormOrders.bits3 (fun HT_ HW_ => ?_)
                generalize w68.drew = w75 at BK101 BK102 BK103 HB hHeld ⊢
                refine tz_ 0 34 12 1 ?_
                refine tz_ 1 35 12 3 ?_
                refine tz_ 3 37 12 11 ?_
                refine tz_ 4 38 12 27 ?_
                refine tz_ 6 40 12 91 ?_
                refine tz_ 7 41 12 219 ?_
                refine one_ (i := 2) (N := some 36) #[true, true, true, true, true, false, true, true, false, false, false, false] rfl rfl (one_of HT_.out (by kernel_rfl)) (by decide) (fun K hK => ?_)
                refine goes_ Tryz.func32 (by kernel_rfl) rfl #[.agg #[.slice A0_0 l0_0.length c0_0, .slice A0_1 l0_1.length c0_1], .agg #[.slice A1_0 l1_0.length c1_0, .slice A1_1 l1_1.length c1_1]] (by rfl) rfl rfl (za) ?_
                with_reducible refine (norm_CmpSentry.calls k _ _ l0_0 _ _ l0_1 _ _ l1_0 _ _ l1_1 t104 _ ?side1 ?side2 ?side3 ?side4 ?side5 ?side6 ?side7 ?side8 A14.out).mono ?_
                (case side1 => exact zc (Kd.C_below HR0_0.out HB.out))
                (case side2 => exact HC0_0.out)
                (case side3 => exact zc (Kd.C_below HR0_1.out HB.out))
                (case side4 => exact HC0_1.out)
                (case side5 => exact zc (Kd.C_below HR1_0.out HB.out))
                (case side6 => exact HC1_0.out)
                (case side7 => exact zc (Kd.C_below HR1_1.out HB.out))
                (case side8 => exact HC1_1.out)
                rintro e w76 ⟨rfl, hb⟩
                refine ⟨_, rfl, ?_⟩
                replace BK101 := am (zw BK101.out hb)
                replace BK102 := am (zw BK102.out hb)
                replace BK103 := am (zw BK103.out hb)
                replace HB := am (below_step (zb) hb)
                (try clear hb)
                (try clear hb2)
                (try clear hk)
                (try clear hi)
                refine hK.out _ _ ⟨(blk_cell BK101.out 0).trans rfl, (blk_cell BK101.out 1).trans rfl, (blk_cell BK102.out 0).trans rfl, (blk_cell BK102.out 1).trans rfl, (blk_cell BK103.out 0).trans rfl, (blk_cell BK103.out 1).trans rfl⟩ (fun hHeld => ?_)
                clear hK K
                refine nz_ 36 ?_
                refine one_ (i := 5) (N := some 39) #[true, true, true, true, true, true, true, true, false, false, false, false] rfl rfl (one_of HT_.out (by kernel_rfl)) (by decide) (fun K hK => ?_)
                refine goes_ Tryz.func32 (by kernel_rfl) rfl #[.agg #[.slice A1_0 l1_0.length c1_0, .slice A1_1 l1_1.length c1_1], .agg #[.slice A2_0 l2_0.length c2_0, .slice A2_1 l2_1.length c2_1]] (by rfl) rfl rfl (za) ?_
                with_reducible refine (norm_CmpSentry.calls k _ _ l1_0 _ _ l1_1 _ _ l2_0 _ _ l2_1 t105 _ ?side1 ?side2 ?side3 ?side4 ?side5 ?side6 ?side7 ?side8 A15.out).mono ?_
                (case side1 => exact zc (Kd.C_below HR1_0.out HB.out))
                (case side2 => exact HC1_0.out)
                (case side3 => exact zc (Kd.C_below HR1_1.out HB.out))
                (case side4 => exact HC1_1.out)
                (case side5 => exact zc (Kd.C_below HR2_0.out HB.out))
                (case side6 => exact HC2_0.out)
                (case side7 => exact zc (Kd.C_below HR2_1.out HB.out))
                (case side8 => exact HC2_1.out)
                rintro e w77 ⟨rfl, hb⟩
                refine ⟨_, rfl, ?_⟩
                replace BK101 := am (zw BK101.out hb)
                replace BK102 := am (zw BK102.out hb)
                replace BK103 := am (zw BK103.out hb)
                replace HB := am (below_step (zb) hb)
                (try clear hb)
                (try clear hb2)
                (try clear hk)
                (try clear hi)
                refine hK.out _ _ ⟨(blk_cell BK101.out 0).trans rfl, (blk_cell BK101.out 1).trans rfl, (blk_cell BK102.out 0).trans rfl, (blk_cell BK102.out 1).trans rfl, (blk_cell BK103.out 0).trans rfl, (blk_cell BK103.out 1).trans rfl⟩ (fun hHeld => ?_)
                clear hK K
                refine nz_ 39 ?_
                refine one_ (i := 8) (N := some 42) #[true, true, true, true, true, true, true, true, true, false, false, false] rfl rfl (one_of HT_.out (by kernel_rfl)) (by decide) (fun K hK => ?_)
                refine goes_ Tryz.func32 (by kernel_rfl) rfl #[.agg #[.slice A0_0 l0_0.length c0_0, .slice A0_1 l0_1.length c0_1], .agg #[.slice A2_0 l2_0.length c2_0, .slice A2_1 l2_1.length c2_1]] (by rfl) rfl rfl (za) ?_
                with_reducible refine (norm_CmpSentry.calls k _ _ l0_0 _ _ l0_1 _ _ l2_0 _ _ l2_1 t106 _ ?side1 ?side2 ?side3 ?side4 ?side5 ?side6 ?side7 ?side8 A16.out).mono ?_
                (case side1 => exact zc (Kd.C_below HR0_0.out HB.out))
                (case side2 => exact HC0_0.out)
                (case side3 => exact zc (Kd.C_below HR0_1.out HB.out))
                (case side4 => exact HC0_1.out)
                (case side5 => exact zc (Kd.C_below HR2_0.out HB.out))
                (case side6 => exact HC2_0.out)
                (case side7 => exact zc (Kd.C_below HR2_1.out HB.out))
                (case side8 => exact HC2_1.out)
                rintro e w78 ⟨rfl, hb⟩
                refine ⟨_, rfl, ?_⟩
                replace BK101 := am (zw BK101.out hb)
                replace BK102 := am (zw BK102.out hb)
                replace BK103 := am (zw BK103.out hb)
                replace HB := am (below_step (zb) hb)
                (try clear hb)
                (try clear hb2)
                (try clear hk)
                (try clear hi)
                refine hK.out _ _ ⟨(blk_cell BK101.out 0).trans rfl, (blk_cell BK101.out 1).trans rfl, (blk_cell BK102.out 0).trans rfl, (blk_cell BK102.out 1).trans rfl, (blk_cell BK103.out 0).trans rfl, (blk_cell BK103.out 1).trans rfl⟩ (fun hHeld => ?_)
                clear hK K
                refine nz_ 42 ?_
                refine pz_ 9 7 12 1023 ?_
                refine pz_ 10 8 12 2047 ?_
                refine pz_ 11 9 12 4095 ?_
                refine done_ (done_of HT_.out (by kernel_rfl)) ?_
                obtain ⟨hcz79_0, hcz79_1, hfz79_0, hfz79_1⟩ := cf2 BK102.out
                obtain ⟨hcz80_0, hcz80_1, hfz80_0, hfz80_1⟩ := cf2 BK101.out
                try go_wp2_with (first | ((with_reducible refine gc_ 32 ?_); refine goesL_ (some 46) rfl rfl Tryz.func32 (by kernel_rfl) rfl #[.agg #[.slice A1_0 l1_0.length c1_0, .slice A1_1 l1_1.length c1_1], .agg #[.slice A0_0 l0_0.length c0_0, .slice A0_1 l0_1.length c0_1]] rfl (za) ?_; (with_reducible refine (norm_CmpSentry.calls k _ _ l1_0 _ _ l1_1 _ _ l0_0 _ _ l0_1 t107 _ ?side1 ?side2 ?side3 ?side4 ?side5 ?side6 ?side7 ?side8 A17.out).mono ?_); (case side1 => exact zc (Kd.C_below HR1_0.out HB.out)); (case side2 => exact HC1_0.out); (case side3 => exact zc (Kd.C_below HR1_1.out HB.out)); (case side4 => exact HC1_1.out); (case side5 => exact zc (Kd.C_below HR0_0.out HB.out)); (case side6 => exact HC0_0.out); (case side7 => exact zc (Kd.C_below HR0_1.out HB.out)); (case side8 => exact HC0_1.out); rintro e w81 ⟨rfl, hb⟩; refine ⟨_, rfl, ?_⟩; replace BK101 := am (zw BK101.out hb); replace BK102 := am (zw BK102.out hb); replace BK103 := am (zw BK103.out hb); replace HB := am (below_step (zb) hb); (try clear hb); (try clear hb2); (try clear hk); (try clear hi); obtain ⟨hcz82_0, hcz82_1, hfz82_0, hfz82_1⟩ := cf2 BK101.out) | (go_at_call 32; (with_reducible refine (norm_CmpSentry.calls k _ _ l0_0 _ _ l0_1 _ _ l0_0 _ _ l0_1 t110 _ ?side1 ?side2 ?side3 ?side4 ?side5 ?side6 ?side7 ?side8 A63.out).mono ?_); (case side1 => exact zc (Kd.C_below HR0_0.out HB.out)); (case side2 => exact HC0_0.out); (case side3 => exact zc (Kd.C_below HR0_1.out HB.out)); (case side4 => exact HC0_1.out); (case side5 => exact zc (Kd.C_below HR0_0.out HB.out)); (case side6 => exact HC0_0.out); (case side7 => exact zc (Kd.C_below HR0_1.out HB.out)); (case side8 => exact HC0_1.out); rintro e w83 ⟨rfl, hb⟩; replace BK101 := am (zw BK101.out hb); replace BK102 := am (zw BK102.out hb); replace BK103 := am (zw BK103.out hb); replace HB := am (below_step (zb) hb); (try clear hb); (try clear hb2); (try clear hk); (try clear hi)) | (go_at_call 38; (with_reducible refine (sentrylaw7_known.calls k  t111 _ A65.out).mono ?_); rintro e w84 ⟨rfl, hb⟩; replace BK101 := am (zw BK101.out hb); replace BK102 := am (zw BK102.out hb); replace BK103 := am (zw BK103.out hb); replace HB := am (below_step (zb) hb); (try clear hb); (try clear hb2); (try clear hk); (try clear hi)))
                go_ret
                exact ⟨zf, zb⟩
              · rw [if_neg c64] at H
                have c64b0 : (t110 == 0) = false := beq_eq_false_iff_ne.mpr c64
                have c64b1 : (t110 != 0) = true := bne_iff_ne.mpr c64
                obtain rfl := Option.some.inj H
                go_enter Tryz.func5, Tryz.ntmps5
                try go_wp2_with (first | ((with_reducible refine gd_ 3 ?_); refine bx_ 3 #[.slice A0_0 l0_0.length c0_0, .slice A0_1 l0_1.length c0_1] 29 ?_; intro gb101 hg w85 hbox hb; have BK101 := am (hbox); have GW101 := am (zg : w.heap.size ≤ gb101); have GE101 := am (zg : w.heap.size ≤ gb101); replace HB := am (below_step (zb) hb); clear hb hbox hg) | ((with_reducible refine gd_ 4 ?_); refine bx_ 4 #[.slice A1_0 l1_0.length c1_0, .slice A1_1 l1_1.length c1_1] 29 ?_; intro gb102 hg w86 hbox hb; have BK102 := am (hbox); have GW102 := am (zg : w.heap.size ≤ gb102); have GE102 := am (zg : w.heap.size ≤ gb102); replace HB := am (below_step (zb) hb); have NB101_102 := am ((zn BK101.out : gb101 ≠ gb102)); have NB102_101 := am ((zm BK101.out : gb102 ≠ gb101)); replace BK101 := am (zw BK101.out hb); clear hb hbox hg) | ((with_reducible refine gd_ 5 ?_); refine bx_ 5 #[.slice A2_0 l2_0.length c2_0, .slice A2_1 l2_1.length c2_1] 29 ?_; intro gb103 hg w87 hbox hb; have BK103 := am (hbox); have GW103 := am (zg : w.heap.size ≤ gb103); have GE103 := am (zg : w.heap.size ≤ gb103); replace HB := am (below_step (zb) hb); have NB101_103 := am ((zn BK101.out : gb101 ≠ gb103)); have NB103_101 := am ((zm BK101.out : gb103 ≠ gb101)); replace BK101 := am (zw BK101.out hb); have NB102_103 := am ((zn BK102.out : gb102 ≠ gb103)); have NB103_102 := am ((zm BK102.out : gb103 ≠ gb102)); replace BK102 := am (zw BK102.out hb); clear hb hbox hg; have hnb88 := NB101_102.out; have hnc88 := NB102_101.out; have hnb89 := NB101_103.out; have hnc89 := NB103_101.out; obtain ⟨hcz90_0, hcz90_1, hfz90_0, hfz90_1⟩ := cf2 BK101.out; have hnb91 := NB102_103.out; have hnc91 := NB103_102.out; obtain ⟨hcz92_0, hcz92_1, hfz92_0, hfz92_1⟩ := cf2 BK102.out; obtain ⟨hcz93_0, hcz93_1, hfz93_0, hfz93_1⟩ := cf2 BK103.out))
                replace BK101 := am (blk_drew BK101.out)
                replace BK102 := am (blk_drew BK102.out)
                replace BK103 := am (blk_drew BK103.out)
                replace HB := am (below_drew1 HB.out)
                refine start_ (n := 12) (S := fun w' => w'.cell? ⟨gb101, 0, none⟩ = some (.slice A0_0 l0_0.length c0_0) ∧ w'.cell? ⟨gb101, 1, none⟩ = some (.slice A0_1 l0_1.length c0_1) ∧ w'.cell? ⟨gb102, 0, none⟩ = some (.slice A1_0 l1_0.length c1_0) ∧ w'.cell? ⟨gb102, 1, none⟩ = some (.slice A1_1 l1_1.length c1_1) ∧ w'.cell? ⟨gb103, 0, none⟩ = some (.slice A2_0 l2_0.length c2_0) ∧ w'.cell? ⟨gb103, 1, none⟩ = some (.slice A2_1 l2_1.length c2_1)) (ds := []) #[false, false, false, false, false, false, false, false, false, false, false, false] (by kernel_rfl) rfl rfl ⟨(blk_cell BK101.out 0).trans rfl, (blk_cell BK101.out 1).trans rfl, (blk_cell BK102.out 0).trans rfl, (blk_cell BK102.out 1).trans rfl, (blk_cell BK103.out 0).trans rfl, (blk_cell BK103.out 1).trans rfl⟩ (fun hHeld => ?_); refine with_tabW sentrylaw7_NormOrders.tab3 sentrylaw7_NormOrders.bits3 (fun HT_ HW_ => ?_)
                generalize w87.drew = w94 at BK101 BK102 BK103 HB hHeld ⊢
                refine tz_ 0 34 12 1 ?_
                refine tz_ 1 35 12 3 ?_
                refine tz_ 3 37 12 11 ?_
                refine tz_ 4 38 12 27 ?_
                refine tz_ 6 40 12 91 ?_
                refine tz_ 7 41 12 219 ?_
                refine one_ (i := 2) (N := some 36) #[true, true, true, true, true, false, true, true, false, false, false, false] rfl rfl (one_of HT_.out (by kernel_rfl)) (by decide) (fun K hK => ?_)
                refine goes_ Tryz.func32 (by kernel_rfl) rfl #[.agg #[.slice A0_0 l0_0.length c0_0, .slice A0_1 l0_1.length c0_1], .agg #[.slice A1_0 l1_0.length c1_0, .slice A1_1 l1_1.length c1_1]] (by rfl) rfl rfl (za) ?_
                with_reducible refine (norm_CmpSentry.calls k _ _ l0_0 _ _ l0_1 _ _ l1_0 _ _ l1_1 t104 _ ?side1 ?side2 ?side3 ?side4 ?side5 ?side6 ?side7 ?side8 A14.out).mono ?_
                (case side1 => exact zc (Kd.C_below HR0_0.out HB.out))
                (case side2 => exact HC0_0.out)
                (case side3 => exact zc (Kd.C_below HR0_1.out HB.out))
                (case side4 => exact HC0_1.out)
                (case side5 => exact zc (Kd.C_below HR1_0.out HB.out))
                (case side6 => exact HC1_0.out)
                (case side7 => exact zc (Kd.C_below HR1_1.out HB.out))
                (case side8 => exact HC1_1.out)
                rintro e w95 ⟨rfl, hb⟩
                refine ⟨_, rfl, ?_⟩
                replace BK101 := am (zw BK101.out hb)
                replace BK102 := am (zw BK102.out hb)
                replace BK103 := am (zw BK103.out hb)
                replace HB := am (below_step (zb) hb)
                (try clear hb)
                (try clear hb2)
                (try clear hk)
                (try clear hi)
                refine hK.out _ _ ⟨(blk_cell BK101.out 0).trans rfl, (blk_cell BK101.out 1).trans rfl, (blk_cell BK102.out 0).trans rfl, (blk_cell BK102.out 1).trans rfl, (blk_cell BK103.out 0).trans rfl, (blk_cell BK103.out 1).trans rfl⟩ (fun hHeld => ?_)
                clear hK K
                refine nz_ 36 ?_
                refine one_ (i := 5) (N := some 39) #[true, true, true, true, true, true, true, true, false, false, false, false] rfl rfl (one_of HT_.out (by kernel_rfl)) (by decide) (fun K hK => ?_)
                refine goes_ Tryz.func32 (by kernel_rfl) rfl #[.agg #[.slice A1_0 l1_0.length c1_0, .slice A1_1 l1_1.length c1_1], .agg #[.slice A2_0 l2_0.length c2_0, .slice A2_1 l2_1.length c2_1]] (by rfl) rfl rfl (za) ?_
                with_reducible refine (norm_CmpSentry.calls k _ _ l1_0 _ _ l1_1 _ _ l2_0 _ _ l2_1 t105 _ ?side1 ?side2 ?side3 ?side4 ?side5 ?side6 ?side7 ?side8 A15.out).mono ?_
                (case side1 => exact zc (Kd.C_below HR1_0.out HB.out))
                (case side2 => exact HC1_0.out)
                (case side3 => exact zc (Kd.C_below HR1_1.out HB.out))
                (case side4 => exact HC1_1.out)
                (case side5 => exact zc (Kd.C_below HR2_0.out HB.out))
                (case side6 => exact HC2_0.out)
                (case side7 => exact zc (Kd.C_below HR2_1.out HB.out))
                (case side8 => exact HC2_1.out)
                rintro e w96 ⟨rfl, hb⟩
                refine ⟨_, rfl, ?_⟩
                replace BK101 := am (zw BK101.out hb)
                replace BK102 := am (zw BK102.out hb)
                replace BK103 := am (zw BK103.out hb)
                replace HB := am (below_step (zb) hb)
                (try clear hb)
                (try clear hb2)
                (try clear hk)
                (try clear hi)
                refine hK.out _ _ ⟨(blk_cell BK101.out 0).trans rfl, (blk_cell BK101.out 1).trans rfl, (blk_cell BK102.out 0).trans rfl, (blk_cell BK102.out 1).trans rfl, (blk_cell BK103.out 0).trans rfl, (blk_cell BK103.out 1).trans rfl⟩ (fun hHeld => ?_)
                clear hK K
                refine nz_ 39 ?_
                refine one_ (i := 8) (N := some 42) #[true, true, true, true, true, true, true, true, true, false, false, false] rfl rfl (one_of HT_.out (by kernel_rfl)) (by decide) (fun K hK => ?_)
                refine goes_ Tryz.func32 (by kernel_rfl) rfl #[.agg #[.slice A0_0 l0_0.length c0_0, .slice A0_1 l0_1.length c0_1], .agg #[.slice A2_0 l2_0.length c2_0, .slice A2_1 l2_1.length c2_1]] (by rfl) rfl rfl (za) ?_
                with_reducible refine (norm_CmpSentry.calls k _ _ l0_0 _ _ l0_1 _ _ l2_0 _ _ l2_1 t106 _ ?side1 ?side2 ?side3 ?side4 ?side5 ?side6 ?side7 ?side8 A16.out).mono ?_
                (case side1 => exact zc (Kd.C_below HR0_0.out HB.out))
                (case side2 => exact HC0_0.out)
                (case side3 => exact zc (Kd.C_below HR0_1.out HB.out))
                (case side4 => exact HC0_1.out)
                (case side5 => exact zc (Kd.C_below HR2_0.out HB.out))
                (case side6 => exact HC2_0.out)
                (case side7 => exact zc (Kd.C_below HR2_1.out HB.out))
                (case side8 => exact HC2_1.out)
                rintro e w97 ⟨rfl, hb⟩
                refine ⟨_, rfl, ?_⟩
                replace BK101 := am (zw BK101.out hb)
                replace BK102 := am (zw BK102.out hb)
                replace BK103 := am (zw BK103.out hb)
                replace HB := am (below_step (zb) hb)
                (try clear hb)
                (try clear hb2)
                (try clear hk)
                (try clear hi)
                refine hK.out _ _ ⟨(blk_cell BK101.out 0).trans rfl, (blk_cell BK101.out 1).trans rfl, (blk_cell BK102.out 0).trans rfl, (blk_cell BK102.out 1).trans rfl, (blk_cell BK103.out 0).trans rfl, (blk_cell BK103.out 1).trans rfl⟩ (fun hHeld => ?_)
                clear hK K
                refine nz_ 42 ?_
                refine pz_ 9 7 12 1023 ?_
                refine pz_ 10 8 12 2047 ?_
                refine pz_ 11 9 12 4095 ?_
                refine done_ (done_of HT_.out (by kernel_rfl)) ?_
                obtain ⟨hcz98_0, hcz98_1, hfz98_0, hfz98_1⟩ := cf2 BK102.out
                obtain ⟨hcz99_0, hcz99_1, hfz99_0, hfz99_1⟩ := cf2 BK101.out
                try go_wp2_with (first | ((with_reducible refine gc_ 32 ?_); refine goesL_ (some 46) rfl rfl Tryz.func32 (by kernel_rfl) rfl #[.agg #[.slice A1_0 l1_0.length c1_0, .slice A1_1 l1_1.length c1_1], .agg #[.slice A0_0 l0_0.length c0_0, .slice A0_1 l0_1.length c0_1]] rfl (za) ?_; (with_reducible refine (norm_CmpSentry.calls k _ _ l1_0 _ _ l1_1 _ _ l0_0 _ _ l0_1 t107 _ ?side1 ?side2 ?side3 ?side4 ?side5 ?side6 ?side7 ?side8 A17.out).mono ?_); (case side1 => exact zc (Kd.C_below HR1_0.out HB.out)); (case side2 => exact HC1_0.out); (case side3 => exact zc (Kd.C_below HR1_1.out HB.out)); (case side4 => exact HC1_1.out); (case side5 => exact zc (Kd.C_below HR0_0.out HB.out)); (case side6 => exact HC0_0.out); (case side7 => exact zc (Kd.C_below HR0_1.out HB.out)); (case side8 => exact HC0_1.out); rintro e w100 ⟨rfl, hb⟩; refine ⟨_, rfl, ?_⟩; replace BK101 := am (zw BK101.out hb); replace BK102 := am (zw BK102.out hb); replace BK103 := am (zw BK103.out hb); replace HB := am (below_step (zb) hb); (try clear hb); (try clear hb2); (try clear hk); (try clear hi); obtain ⟨hcz101_0, hcz101_1, hfz101_0, hfz101_1⟩ := cf2 BK101.out) | (go_at_call 32; (with_reducible refine (norm_CmpSentry.calls k _ _ l0_0 _ _ l0_1 _ _ l0_0 _ _ l0_1 t110 _ ?side1 ?side2 ?side3 ?side4 ?side5 ?side6 ?side7 ?side8 A63.out).mono ?_); (case side1 => exact zc (Kd.C_below HR0_0.out HB.out)); (case side2 => exact HC0_0.out); (case side3 => exact zc (Kd.C_below HR0_1.out HB.out)); (case side4 => exact HC0_1.out); (case side5 => exact zc (Kd.C_below HR0_0.out HB.out)); (case side6 => exact HC0_0.out); (case side7 => exact zc (Kd.C_below HR0_1.out HB.out)); (case side8 => exact HC0_1.out); rintro e w102 ⟨rfl, hb⟩; replace BK101 := am (zw BK101.out hb); replace BK102 := am (zw BK102.out hb); replace BK103 := am (zw BK103.out hb); replace HB := am (below_step (zb) hb); (try clear hb); (try clear hb2); (try clear hk); (try clear hi)))
                go_ret
                exact ⟨zf, zb⟩
            · rw [if_neg c62] at H
              have c62b0 : decide (0 < t105) = false := decide_eq_false c62
              clear c62
              by_cases c103 : t106 ≤ 0
              · rw [if_pos c103] at H
                have c103b0 : decide (t106 ≤ 0) = true := decide_eq_true c103
                clear c103
                replace H := Option.bind_eq_some_iff.mp H
                obtain ⟨t112, A1040, H⟩ := H
                replace H : (if t112 = 0 then ((sentrylaw7_known.f k).bind fun t113 => (some t113)) else (some false)) = some r := H
                have A104 := am A1040
                clear A1040
                by_cases c105 : t112 = 0
                · rw [if_pos c105] at H
                  have c105b0 : (t112 == 0) = true := beq_iff_eq.mpr c105
                  have c105b1 : (t112 != 0) = false := bne_eq_false_iff_eq.mpr c105
                  clear c105
                  replace H := Option.bind_eq_some_iff.mp H
                  obtain ⟨t113, A1060, H⟩ := H
                  replace H : (some t113) = some r := H
                  have A106 := am A1060
                  clear A1060
                  obtain rfl := Option.some.inj H
                  go_enter Tryz.func5, Tryz.ntmps5
                  try go_wp2_with (first | ((with_reducible refine gd_ 3 ?_); refine bx_ 3 #[.slice A0_0 l0_0.length c0_0, .slice A0_1 l0_1.length c0_1] 29 ?_; intro gb101 hg w107 hbox hb; have BK101 := am (hbox); have GW101 := am (zg : w.heap.size ≤ gb101); have GE101 := am (zg : w.heap.size ≤ gb101); replace HB := am (below_step (zb) hb); clear hb hbox hg) | ((with_reducible refine gd_ 4 ?_); refine bx_ 4 #[.slice A1_0 l1_0.length c1_0, .slice A1_1 l1_1.length c1_1] 29 ?_; intro gb102 hg w108 hbox hb; have BK102 := am (hbox); have GW102 := am (zg : w.heap.size ≤ gb102); have GE102 := am (zg : w.heap.size ≤ gb102); replace HB := am (below_step (zb) hb); have NB101_102 := am ((zn BK101.out : gb101 ≠ gb102)); have NB102_101 := am ((zm BK101.out : gb102 ≠ gb101)); replace BK101 := am (zw BK101.out hb); clear hb hbox hg) | ((with_reducible refine gd_ 5 ?_); refine bx_ 5 #[.slice A2_0 l2_0.length c2_0, .slice A2_1 l2_1.length c2_1] 29 ?_; intro gb103 hg w109 hbox hb; have BK103 := am (hbox); have GW103 := am (zg : w.heap.size ≤ gb103); have GE103 := am (zg : w.heap.size ≤ gb103); replace HB := am (below_step (zb) hb); have NB101_103 := am ((zn BK101.out : gb101 ≠ gb103)); have NB103_101 := am ((zm BK101.out : gb103 ≠ gb101)); replace BK101 := am (zw BK101.out hb); have NB102_103 := am ((zn BK102.out : gb102 ≠ gb103)); have NB103_102 := am ((zm BK102.out : gb103 ≠ gb102)); replace BK102 := am (zw BK102.out hb); clear hb hbox hg; have hnb110 := NB101_102.out; have hnc110 := NB102_101.out; have hnb111 := NB101_103.out; have hnc111 := NB103_101.out; obtain ⟨hcz112_0, hcz112_1, hfz112_0, hfz112_1⟩ := cf2 BK101.out; have hnb113 := NB102_103.out; have hnc113 := NB103_102.out; obtain ⟨hcz114_0, hcz114_1, hfz114_0, hfz114_1⟩ := cf2 BK102.out; obtain ⟨hcz115_0, hcz115_1, hfz115_0, hfz115_1⟩ := cf2 BK103.out))
                  replace BK101 := am (blk_drew BK101.out)
                  replace BK102 := am (blk_drew BK102.out)
                  replace BK103 := am (blk_drew BK103.out)
                  replace HB := am (below_drew1 HB.out)
                  refine start_ (n := 12) (S := fun w' => w'.cell? ⟨gb101, 0, none⟩ = some (.slice A0_0 l0_0.length c0_0) ∧ w'.cell? ⟨gb101, 1, none⟩ = some (.slice A0_1 l0_1.length c0_1) ∧ w'.cell? ⟨gb102, 0, none⟩ = some (.slice A1_0 l1_0.length c1_0) ∧ w'.cell? ⟨gb102, 1, none⟩ = some (.slice A1_1 l1_1.length c1_1) ∧ w'.cell? ⟨gb103, 0, none⟩ = some (.slice A2_0 l2_0.length c2_0) ∧ w'.cell? ⟨gb103, 1, none⟩ = some (.slice A2_1 l2_1.length c2_1)) (ds := []) #[false, false, false, false, false, false, false, false, false, false, false, false] (by kernel_rfl) rfl rfl ⟨(blk_cell BK101.out 0).trans rfl, (blk_cell BK101.out 1).trans rfl, (blk_cell BK102.out 0).trans rfl, (blk_cell BK102.out 1).trans rfl, (blk_cell BK103.out 0).trans rfl, (blk_cell BK103.out 1).trans rfl⟩ (fun hHeld => ?_); refine with_tabW sentrylaw7_NormOrders.tab3 sentrylaw7_NormOrders.bits3 (fun HT_ HW_ => ?_)
                  generalize w109.drew = w116 at BK101 BK102 BK103 HB hHeld ⊢
                  refine tz_ 0 34 12 1 ?_
                  refine tz_ 1 35 12 3 ?_
                  refine tz_ 3 37 12 11 ?_
                  refine tz_ 4 38 12 27 ?_
                  refine tz_ 6 40 12 91 ?_
                  refine tz_ 7 41 12 219 ?_
                  refine one_ (i := 2) (N := some 36) #[true, true, true, true, true, false, true, true, false, false, false, false] rfl rfl (one_of HT_.out (by kernel_rfl)) (by decide) (fun K hK => ?_)
                  refine goes_ Tryz.func32 (by kernel_rfl) rfl #[.agg #[.slice A0_0 l0_0.length c0_0, .slice A0_1 l0_1.length c0_1], .agg #[.slice A1_0 l1_0.length c1_0, .slice A1_1 l1_1.length c1_1]] (by rfl) rfl rfl (za) ?_
                  with_reducible refine (norm_CmpSentry.calls k _ _ l0_0 _ _ l0_1 _ _ l1_0 _ _ l1_1 t104 _ ?side1 ?side2 ?side3 ?side4 ?side5 ?side6 ?side7 ?side8 A14.out).mono ?_
                  (case side1 => exact zc (Kd.C_below HR0_0.out HB.out))
                  (case side2 => exact HC0_0.out)
                  (case side3 => exact zc (Kd.C_below HR0_1.out HB.out))
                  (case side4 => exact HC0_1.out)
                  (case side5 => exact zc (Kd.C_below HR1_0.out HB.out))
                  (case side6 => exact HC1_0.out)
                  (case side7 => exact zc (Kd.C_below HR1_1.out HB.out))
                  (case side8 => exact HC1_1.out)
                  rintro e w117 ⟨rfl, hb⟩
                  refine ⟨_, rfl, ?_⟩
                  replace BK101 := am (zw BK101.out hb)
                  replace BK102 := am (zw BK102.out hb)
                  replace BK103 := am (zw BK103.out hb)
                  replace HB := am (below_step (zb) hb)
                  (try clear hb)
                  (try clear hb2)
                  (try clear hk)
                  (try clear hi)
                  refine hK.out _ _ ⟨(blk_cell BK101.out 0).trans rfl, (blk_cell BK101.out 1).trans rfl, (blk_cell BK102.out 0).trans rfl, (blk_cell BK102.out 1).trans rfl, (blk_cell BK103.out 0).trans rfl, (blk_cell BK103.out 1).trans rfl⟩ (fun hHeld => ?_)
                  clear hK K
                  refine nz_ 36 ?_
                  refine one_ (i := 5) (N := some 39) #[true, true, true, true, true, true, true, true, false, false, false, false] rfl rfl (one_of HT_.out (by kernel_rfl)) (by decide) (fun K hK => ?_)
                  refine goes_ Tryz.func32 (by kernel_rfl) rfl #[.agg #[.slice A1_0 l1_0.length c1_0, .slice A1_1 l1_1.length c1_1], .agg #[.slice A2_0 l2_0.length c2_0, .slice A2_1 l2_1.length c2_1]] (by rfl) rfl rfl (za) ?_
                  with_reducible refine (norm_CmpSentry.calls k _ _ l1_0 _ _ l1_1 _ _ l2_0 _ _ l2_1 t105 _ ?side1 ?side2 ?side3 ?side4 ?side5 ?side6 ?side7 ?side8 A15.out).mono ?_
                  (case side1 => exact zc (Kd.C_below HR1_0.out HB.out))
                  (case side2 => exact HC1_0.out)
                  (case side3 => exact zc (Kd.C_below HR1_1.out HB.out))
                  (case side4 => exact HC1_1.out)
                  (case side5 => exact zc (Kd.C_below HR2_0.out HB.out))
                  (case side6 => exact HC2_0.out)
                  (case side7 => exact zc (Kd.C_below HR2_1.out HB.out))
                  (case side8 => exact HC2_1.out)
                  rintro e w118 ⟨rfl, hb⟩
                  refine ⟨_, rfl, ?_⟩
                  replace BK101 := am (zw BK101.out hb)
                  replace BK102 := am (zw BK102.out hb)
                  replace BK103 := am (zw BK103.out hb)
                  replace HB := am (below_step (zb) hb)
                  (try clear hb)
                  (try clear hb2)
                  (try clear hk)
                  (try clear hi)
                  refine hK.out _ _ ⟨(blk_cell BK101.out 0).trans rfl, (blk_cell BK101.out 1).trans rfl, (blk_cell BK102.out 0).trans rfl, (blk_cell BK102.out 1).trans rfl, (blk_cell BK103.out 0).trans rfl, (blk_cell BK103.out 1).trans rfl⟩ (fun hHeld => ?_)
                  clear hK K
                  refine nz_ 39 ?_
                  refine one_ (i := 8) (N := some 42) #[true, true, true, true, true, true, true, true, true, false, false, false] rfl rfl (one_of HT_.out (by kernel_rfl)) (by decide) (fun K hK => ?_)
                  refine goes_ Tryz.func32 (by kernel_rfl) rfl #[.agg #[.slice A0_0 l0_0.length c0_0, .slice A0_1 l0_1.length c0_1], .agg #[.slice A2_0 l2_0.length c2_0, .slice A2_1 l2_1.length c2_1]] (by rfl) rfl rfl (za) ?_
                  with_reducible refine (norm_CmpSentry.calls k _ _ l0_0 _ _ l0_1 _ _ l2_0 _ _ l2_1 t106 _ ?side1 ?side2 ?side3 ?side4 ?side5 ?side6 ?side7 ?side8 A16.out).mono ?_
                  (case side1 => exact zc (Kd.C_below HR0_0.out HB.out))
                  (case side2 => exact HC0_0.out)
                  (case side3 => exact zc (Kd.C_below HR0_1.out HB.out))
                  (case side4 => exact HC0_1.out)
                  (case side5 => exact zc (Kd.C_below HR2_0.out HB.out))
                  (case side6 => exact HC2_0.out)
                  (case side7 => exact zc (Kd.C_below HR2_1.out HB.out))
                  (case side8 => exact HC2_1.out)
                  rintro e w119 ⟨rfl, hb⟩
                  refine ⟨_, rfl, ?_⟩
                  replace BK101 := am (zw BK101.out hb)
                  replace BK102 := am (zw BK102.out hb)
                  replace BK103 := am (zw BK103.out hb)
                  replace HB := am (below_step (zb) hb)
                  (try clear hb)
                  (try clear hb2)
                  (try clear hk)
                  (try clear hi)
                  refine hK.out _ _ ⟨(blk_cell BK101.out 0).trans rfl, (blk_cell BK101.out 1).trans rfl, (blk_cell BK102.out 0).trans rfl, (blk_cell BK102.out 1).trans rfl, (blk_cell BK103.out 0).trans rfl, (blk_cell BK103.out 1).trans rfl⟩ (fun hHeld => ?_)
                  clear hK K
                  refine nz_ 42 ?_
                  refine pz_ 9 7 12 1023 ?_
                  refine pz_ 10 8 12 2047 ?_
                  refine pz_ 11 9 12 4095 ?_
                  refine done_ (done_of HT_.out (by kernel_rfl)) ?_
                  obtain ⟨hcz120_0, hcz120_1, hfz120_0, hfz120_1⟩ := cf2 BK102.out
                  obtain ⟨hcz121_0, hcz121_1, hfz121_0, hfz121_1⟩ := cf2 BK101.out
                  try go_wp2_with (first | ((with_reducible refine gc_ 32 ?_); refine goesL_ (some 46) rfl rfl Tryz.func32 (by kernel_rfl) rfl #[.agg #[.slice A1_0 l1_0.length c1_0, .slice A1_1 l1_1.length c1_1], .agg #[.slice A0_0 l0_0.length c0_0, .slice A0_1 l0_1.length c0_1]] rfl (za) ?_; (with_reducible refine (norm_CmpSentry.calls k _ _ l1_0 _ _ l1_1 _ _ l0_0 _ _ l0_1 t107 _ ?side1 ?side2 ?side3 ?side4 ?side5 ?side6 ?side7 ?side8 A17.out).mono ?_); (case side1 => exact zc (Kd.C_below HR1_0.out HB.out)); (case side2 => exact HC1_0.out); (case side3 => exact zc (Kd.C_below HR1_1.out HB.out)); (case side4 => exact HC1_1.out); (case side5 => exact zc (Kd.C_below HR0_0.out HB.out)); (case side6 => exact HC0_0.out); (case side7 => exact zc (Kd.C_below HR0_1.out HB.out)); (case side8 => exact HC0_1.out); rintro e w122 ⟨rfl, hb⟩; refine ⟨_, rfl, ?_⟩; replace BK101 := am (zw BK101.out hb); replace BK102 := am (zw BK102.out hb); replace BK103 := am (zw BK103.out hb); replace HB := am (below_step (zb) hb); (try clear hb); (try clear hb2); (try clear hk); (try clear hi); obtain ⟨hcz123_0, hcz123_1, hfz123_0, hfz123_1⟩ := cf2 BK101.out) | (go_at_call 32; (with_reducible refine (norm_CmpSentry.calls k _ _ l0_0 _ _ l0_1 _ _ l0_0 _ _ l0_1 t112 _ ?side1 ?side2 ?side3 ?side4 ?side5 ?side6 ?side7 ?side8 A104.out).mono ?_); (case side1 => exact zc (Kd.C_below HR0_0.out HB.out)); (case side2 => exact HC0_0.out); (case side3 => exact zc (Kd.C_below HR0_1.out HB.out)); (case side4 => exact HC0_1.out); (case side5 => exact zc (Kd.C_below HR0_0.out HB.out)); (case side6 => exact HC0_0.out); (case side7 => exact zc (Kd.C_below HR0_1.out HB.out)); (case side8 => exact HC0_1.out); rintro e w124 ⟨rfl, hb⟩; replace BK101 := am (zw BK101.out hb); replace BK102 := am (zw BK102.out hb); replace BK103 := am (zw BK103.out hb); replace HB := am (below_step (zb) hb); (try clear hb); (try clear hb2); (try clear hk); (try clear hi)) | (go_at_call 38; (with_reducible refine (sentrylaw7_known.calls k  t113 _ A106.out).mono ?_); rintro e w125 ⟨rfl, hb⟩; replace BK101 := am (zw BK101.out hb); replace BK102 := am (zw BK102.out hb); replace BK103 := am (zw BK103.out hb); replace HB := am (below_step (zb) hb); (try clear hb); (try clear hb2); (try clear hk); (try clear hi)))
                  go_ret
                  exact ⟨zf, zb⟩
                · rw [if_neg c105] at H
                  have c105b0 : (t112 == 0) = false := beq_eq_false_iff_ne.mpr c105
                  have c105b1 : (t112 != 0) = true := bne_iff_ne.mpr c105
                  obtain rfl := Option.some.inj H
                  go_enter Tryz.func5, Tryz.ntmps5
                  try go_wp2_with (first | ((with_reducible refine gd_ 3 ?_); refine bx_ 3 #[.slice A0_0 l0_0.length c0_0, .slice A0_1 l0_1.length c0_1] 29 ?_; intro gb101 hg w126 hbox hb; have BK101 := am (hbox); have GW101 := am (zg : w.heap.size ≤ gb101); have GE101 := am (zg : w.heap.size ≤ gb101); replace HB := am (below_step (zb) hb); clear hb hbox hg) | ((with_reducible refine gd_ 4 ?_); refine bx_ 4 #[.slice A1_0 l1_0.length c1_0, .slice A1_1 l1_1.length c1_1] 29 ?_; intro gb102 hg w127 hbox hb; have BK102 := am (hbox); have GW102 := am (zg : w.heap.size ≤ gb102); have GE102 := am (zg : w.heap.size ≤ gb102); replace HB := am (below_step (zb) hb); have NB101_102 := am ((zn BK101.out : gb101 ≠ gb102)); have NB102_101 := am ((zm BK101.out : gb102 ≠ gb101)); replace BK101 := am (zw BK101.out hb); clear hb hbox hg) | ((with_reducible refine gd_ 5 ?_); refine bx_ 5 #[.slice A2_0 l2_0.length c2_0, .slice A2_1 l2_1.length c2_1] 29 ?_; intro gb103 hg w128 hbox hb; have BK103 := am (hbox); have GW103 := am (zg : w.heap.size ≤ gb103); have GE103 := am (zg : w.heap.size ≤ gb103); replace HB := am (below_step (zb) hb); have NB101_103 := am ((zn BK101.out : gb101 ≠ gb103)); have NB103_101 := am ((zm BK101.out : gb103 ≠ gb101)); replace BK101 := am (zw BK101.out hb); have NB102_103 := am ((zn BK102.out : gb102 ≠ gb103)); have NB103_102 := am ((zm BK102.out : gb103 ≠ gb102)); replace BK102 := am (zw BK102.out hb); clear hb hbox hg; have hnb129 := NB101_102.out; have hnc129 := NB102_101.out; have hnb130 := NB101_103.out; have hnc130 := NB103_101.out; obtain ⟨hcz131_0, hcz131_1, hfz131_0, hfz131_1⟩ := cf2 BK101.out; have hnb132 := NB102_103.out; have hnc132 := NB103_102.out; obtain ⟨hcz133_0, hcz133_1, hfz133_0, hfz133_1⟩ := cf2 BK102.out; obtain ⟨hcz134_0, hcz134_1, hfz134_0, hfz134_1⟩ := cf2 BK103.out))
                  replace BK101 := am (blk_drew BK101.out)
                  replace BK102 := am (blk_drew BK102.out)
                  replace BK103 := am (blk_drew BK103.out)
                  replace HB := am (below_drew1 HB.out)
                  refine start_ (n := 12) (S := fun w' => w'.cell? ⟨gb101, 0, none⟩ = some (.slice A0_0 l0_0.length c0_0) ∧ w'.cell? ⟨gb101, 1, none⟩ = some (.slice A0_1 l0_1.length c0_1) ∧ w'.cell? ⟨gb102, 0, none⟩ = some (.slice A1_0 l1_0.length c1_0) ∧ w'.cell? ⟨gb102, 1, none⟩ = some (.slice A1_1 l1_1.length c1_1) ∧ w'.cell? ⟨gb103, 0, none⟩ = some (.slice A2_0 l2_0.length c2_0) ∧ w'.cell? ⟨gb103, 1, none⟩ = some (.slice A2_1 l2_1.length c2_1)) (ds := []) #[false, false, false, false, false, false, false, false, false, false, false, false] (by kernel_rfl) rfl rfl ⟨(blk_cell BK101.out 0).trans rfl, (blk_cell BK101.out 1).trans rfl, (blk_cell BK102.out 0).trans rfl, (blk_cell BK102.out 1).trans rfl, (blk_cell BK103.out 0).trans rfl, (blk_cell BK103.out 1).trans rfl⟩ (fun hHeld => ?_); refine with_tabW sentrylaw7_NormOrders.tab3 sentrylaw7_NormOrders.bits3 (fun HT_ HW_ => ?_)
                  generalize w128.drew = w135 at BK101 BK102 BK103 HB hHeld ⊢
                  refine tz_ 0 34 12 1 ?_
                  refine tz_ 1 35 12 3 ?_
                  refine tz_ 3 37 12 11 ?_
                  refine tz_ 4 38 12 27 ?_
                  refine tz_ 6 40 12 91 ?_
                  refine tz_ 7 41 12 219 ?_
                  refine one_ (i := 2) (N := some 36) #[true, true, true, true, true, false, true, true, false, false, false, false] rfl rfl (one_of HT_.out (by kernel_rfl)) (by decide) (fun K hK => ?_)
                  refine goes_ Tryz.func32 (by kernel_rfl) rfl #[.agg #[.slice A0_0 l0_0.length c0_0, .slice A0_1 l0_1.length c0_1], .agg #[.slice A1_0 l1_0.length c1_0, .slice A1_1 l1_1.length c1_1]] (by rfl) rfl rfl (za) ?_
                  with_reducible refine (norm_CmpSentry.calls k _ _ l0_0 _ _ l0_1 _ _ l1_0 _ _ l1_1 t104 _ ?side1 ?side2 ?side3 ?side4 ?side5 ?side6 ?side7 ?side8 A14.out).mono ?_
                  (case side1 => exact zc (Kd.C_below HR0_0.out HB.out))
                  (case side2 => exact HC0_0.out)
                  (case side3 => exact zc (Kd.C_below HR0_1.out HB.out))
                  (case side4 => exact HC0_1.out)
                  (case side5 => exact zc (Kd.C_below HR1_0.out HB.out))
                  (case side6 => exact HC1_0.out)
                  (case side7 => exact zc (Kd.C_below HR1_1.out HB.out))
                  (case side8 => exact HC1_1.out)
                  rintro e w136 ⟨rfl, hb⟩
                  refine ⟨_, rfl, ?_⟩
                  replace BK101 := am (zw BK101.out hb)
                  replace BK102 := am (zw BK102.out hb)
                  replace BK103 := am (zw BK103.out hb)
                  replace HB := am (below_step (zb) hb)
                  (try clear hb)
                  (try clear hb2)
                  (try clear hk)
                  (try clear hi)
                  refine hK.out _ _ ⟨(blk_cell BK101.out 0).trans rfl, (blk_cell BK101.out 1).trans rfl, (blk_cell BK102.out 0).trans rfl, (blk_cell BK102.out 1).trans rfl, (blk_cell BK103.out 0).trans rfl, (blk_cell BK103.out 1).trans rfl⟩ (fun hHeld => ?_)
                  clear hK K
                  refine nz_ 36 ?_
                  refine one_ (i := 5) (N := some 39) #[true, true, true, true, true, true, true, true, false, false, false, false] rfl rfl (one_of HT_.out (by kernel_rfl)) (by decide) (fun K hK => ?_)
                  refine goes_ Tryz.func32 (by kernel_rfl) rfl #[.agg #[.slice A1_0 l1_0.length c1_0, .slice A1_1 l1_1.length c1_1], .agg #[.slice A2_0 l2_0.length c2_0, .slice A2_1 l2_1.length c2_1]] (by rfl) rfl rfl (za) ?_
                  with_reducible refine (norm_CmpSentry.calls k _ _ l1_0 _ _ l1_1 _ _ l2_0 _ _ l2_1 t105 _ ?side1 ?side2 ?side3 ?side4 ?side5 ?side6 ?side7 ?side8 A15.out).mono ?_
                  (case side1 => exact zc (Kd.C_below HR1_0.out HB.out))
                  (case side2 => exact HC1_0.out)
                  (case side3 => exact zc (Kd.C_below HR1_1.out HB.out))
                  (case side4 => exact HC1_1.out)
                  (case side5 => exact zc (Kd.C_below HR2_0.out HB.out))
                  (case side6 => exact HC2_0.out)
                  (case side7 => exact zc (Kd.C_below HR2_1.out HB.out))
                  (case side8 => exact HC2_1.out)
                  rintro e w137 ⟨rfl, hb⟩
                  refine ⟨_, rfl, ?_⟩
                  replace BK101 := am (zw BK101.out hb)
                  replace BK102 := am (zw BK102.out hb)
                  replace BK103 := am (zw BK103.out hb)
                  replace HB := am (below_step (zb) hb)
                  (try clear hb)
                  (try clear hb2)
                  (try clear hk)
                  (try clear hi)
                  refine hK.out _ _ ⟨(blk_cell BK101.out 0).trans rfl, (blk_cell BK101.out 1).trans rfl, (blk_cell BK102.out 0).trans rfl, (blk_cell BK102.out 1).trans rfl, (blk_cell BK103.out 0).trans rfl, (blk_cell BK103.out 1).trans rfl⟩ (fun hHeld => ?_)
                  clear hK K
                  refine nz_ 39 ?_
                  refine one_ (i := 8) (N := some 42) #[true, true, true, true, true, true, true, true, true, false, false, false] rfl rfl (one_of HT_.out (by kernel_rfl)) (by decide) (fun K hK => ?_)
                  refine goes_ Tryz.func32 (by kernel_rfl) rfl #[.agg #[.slice A0_0 l0_0.length c0_0, .slice A0_1 l0_1.length c0_1], .agg #[.slice A2_0 l2_0.length c2_0, .slice A2_1 l2_1.length c2_1]] (by rfl) rfl rfl (za) ?_
                  with_reducible refine (norm_CmpSentry.calls k _ _ l0_0 _ _ l0_1 _ _ l2_0 _ _ l2_1 t106 _ ?side1 ?side2 ?side3 ?side4 ?side5 ?side6 ?side7 ?side8 A16.out).mono ?_
                  (case side1 => exact zc (Kd.C_below HR0_0.out HB.out))
                  (case side2 => exact HC0_0.out)
                  (case side3 => exact zc (Kd.C_below HR0_1.out HB.out))
                  (case side4 => exact HC0_1.out)
                  (case side5 => exact zc (Kd.C_below HR2_0.out HB.out))
                  (case side6 => exact HC2_0.out)
                  (case side7 => exact zc (Kd.C_below HR2_1.out HB.out))
                  (case side8 => exact HC2_1.out)
                  rintro e w138 ⟨rfl, hb⟩
                  refine ⟨_, rfl, ?_⟩
                  replace BK101 := am (zw BK101.out hb)
                  replace BK102 := am (zw BK102.out hb)
                  replace BK103 := am (zw BK103.out hb)
                  replace HB := am (below_step (zb) hb)
                  (try clear hb)
                  (try clear hb2)
                  (try clear hk)
                  (try clear hi)
                  refine hK.out _ _ ⟨(blk_cell BK101.out 0).trans rfl, (blk_cell BK101.out 1).trans rfl, (blk_cell BK102.out 0).trans rfl, (blk_cell BK102.out 1).trans rfl, (blk_cell BK103.out 0).trans rfl, (blk_cell BK103.out 1).trans rfl⟩ (fun hHeld => ?_)
                  clear hK K
                  refine nz_ 42 ?_
                  refine pz_ 9 7 12 1023 ?_
                  refine pz_ 10 8 12 2047 ?_
                  refine pz_ 11 9 12 4095 ?_
                  refine done_ (done_of HT_.out (by kernel_rfl)) ?_
                  obtain ⟨hcz139_0, hcz139_1, hfz139_0, hfz139_1⟩ := cf2 BK102.out
                  obtain ⟨hcz140_0, hcz140_1, hfz140_0, hfz140_1⟩ := cf2 BK101.out
                  try go_wp2_with (first | ((with_reducible refine gc_ 32 ?_); refine goesL_ (some 46) rfl rfl Tryz.func32 (by kernel_rfl) rfl #[.agg #[.slice A1_0 l1_0.length c1_0, .slice A1_1 l1_1.length c1_1], .agg #[.slice A0_0 l0_0.length c0_0, .slice A0_1 l0_1.length c0_1]] rfl (za) ?_; (with_reducible refine (norm_CmpSentry.calls k _ _ l1_0 _ _ l1_1 _ _ l0_0 _ _ l0_1 t107 _ ?side1 ?side2 ?side3 ?side4 ?side5 ?side6 ?side7 ?side8 A17.out).mono ?_); (case side1 => exact zc (Kd.C_below HR1_0.out HB.out)); (case side2 => exact HC1_0.out); (case side3 => exact zc (Kd.C_below HR1_1.out HB.out)); (case side4 => exact HC1_1.out); (case side5 => exact zc (Kd.C_below HR0_0.out HB.out)); (case side6 => exact HC0_0.out); (case side7 => exact zc (Kd.C_below HR0_1.out HB.out)); (case side8 => exact HC0_1.out); rintro e w141 ⟨rfl, hb⟩; refine ⟨_, rfl, ?_⟩; replace BK101 := am (zw BK101.out hb); replace BK102 := am (zw BK102.out hb); replace BK103 := am (zw BK103.out hb); replace HB := am (below_step (zb) hb); (try clear hb); (try clear hb2); (try clear hk); (try clear hi); obtain ⟨hcz142_0, hcz142_1, hfz142_0, hfz142_1⟩ := cf2 BK101.out) | (go_at_call 32; (with_reducible refine (norm_CmpSentry.calls k _ _ l0_0 _ _ l0_1 _ _ l0_0 _ _ l0_1 t112 _ ?side1 ?side2 ?side3 ?side4 ?side5 ?side6 ?side7 ?side8 A104.out).mono ?_); (case side1 => exact zc (Kd.C_below HR0_0.out HB.out)); (case side2 => exact HC0_0.out); (case side3 => exact zc (Kd.C_below HR0_1.out HB.out)); (case side4 => exact HC0_1.out); (case side5 => exact zc (Kd.C_below HR0_0.out HB.out)); (case side6 => exact HC0_0.out); (case side7 => exact zc (Kd.C_below HR0_1.out HB.out)); (case side8 => exact HC0_1.out); rintro e w143 ⟨rfl, hb⟩; replace BK101 := am (zw BK101.out hb); replace BK102 := am (zw BK102.out hb); replace BK103 := am (zw BK103.out hb); replace HB := am (below_step (zb) hb); (try clear hb); (try clear hb2); (try clear hk); (try clear hi)))
                  go_ret
                  exact ⟨zf, zb⟩
              · rw [if_neg c103] at H
                have c103b0 : decide (t106 ≤ 0) = false := decide_eq_false c103
                clear c103
                obtain rfl := Option.some.inj H
                go_enter Tryz.func5, Tryz.ntmps5
                try go_wp2_with (first | ((with_reducible refine gd_ 3 ?_); refine bx_ 3 #[.slice A0_0 l0_0.length c0_0, .slice A0_1 l0_1.length c0_1] 29 ?_; intro gb101 hg w144 hbox hb; have BK101 := am (hbox); have GW101 := am (zg : w.heap.size ≤ gb101); have GE101 := am (zg : w.heap.size ≤ gb101); replace HB := am (below_step (zb) hb); clear hb hbox hg) | ((with_reducible refine gd_ 4 ?_); refine bx_ 4 #[.slice A1_0 l1_0.length c1_0, .slice A1_1 l1_1.length c1_1] 29 ?_; intro gb102 hg w145 hbox hb; have BK102 := am (hbox); have GW102 := am (zg : w.heap.size ≤ gb102); have GE102 := am (zg : w.heap.size ≤ gb102); replace HB := am (below_step (zb) hb); have NB101_102 := am ((zn BK101.out : gb101 ≠ gb102)); have NB102_101 := am ((zm BK101.out : gb102 ≠ gb101)); replace BK101 := am (zw BK101.out hb); clear hb hbox hg) | ((with_reducible refine gd_ 5 ?_); refine bx_ 5 #[.slice A2_0 l2_0.length c2_0, .slice A2_1 l2_1.length c2_1] 29 ?_; intro gb103 hg w146 hbox hb; have BK103 := am (hbox); have GW103 := am (zg : w.heap.size ≤ gb103); have GE103 := am (zg : w.heap.size ≤ gb103); replace HB := am (below_step (zb) hb); have NB101_103 := am ((zn BK101.out : gb101 ≠ gb103)); have NB103_101 := am ((zm BK101.out : gb103 ≠ gb101)); replace BK101 := am (zw BK101.out hb); have NB102_103 := am ((zn BK102.out : gb102 ≠ gb103)); have NB103_102 := am ((zm BK102.out : gb103 ≠ gb102)); replace BK102 := am (zw BK102.out hb); clear hb hbox hg; have hnb147 := NB101_102.out; have hnc147 := NB102_101.out; have hnb148 := NB101_103.out; have hnc148 := NB103_101.out; obtain ⟨hcz149_0, hcz149_1, hfz149_0, hfz149_1⟩ := cf2 BK101.out; have hnb150 := NB102_103.out; have hnc150 := NB103_102.out; obtain ⟨hcz151_0, hcz151_1, hfz151_0, hfz151_1⟩ := cf2 BK102.out; obtain ⟨hcz152_0, hcz152_1, hfz152_0, hfz152_1⟩ := cf2 BK103.out))
                replace BK101 := am (blk_drew BK101.out)
                replace BK102 := am (blk_drew BK102.out)
                replace BK103 := am (blk_drew BK103.out)
                replace HB := am (below_drew1 HB.out)
                refine start_ (n := 12) (S := fun w' => w'.cell? ⟨gb101, 0, none⟩ = some (.slice A0_0 l0_0.length c0_0) ∧ w'.cell? ⟨gb101, 1, none⟩ = some (.slice A0_1 l0_1.length c0_1) ∧ w'.cell? ⟨gb102, 0, none⟩ = some (.slice A1_0 l1_0.length c1_0) ∧ w'.cell? ⟨gb102, 1, none⟩ = some (.slice A1_1 l1_1.length c1_1) ∧ w'.cell? ⟨gb103, 0, none⟩ = some (.slice A2_0 l2_0.length c2_0) ∧ w'.cell? ⟨gb103, 1, none⟩ = some (.slice A2_1 l2_1.length c2_1)) (ds := []) #[false, false, false, false, false, false, false, false, false, false, false, false] (by kernel_rfl) rfl rfl ⟨(blk_cell BK101.out 0).trans rfl, (blk_cell BK101.out 1).trans rfl, (blk_cell BK102.out 0).trans rfl, (blk_cell BK102.out 1).trans rfl, (blk_cell BK103.out 0).trans rfl, (blk_cell BK103.out 1).trans rfl⟩ (fun hHeld => ?_); refine with_tabW sentrylaw7_NormOrders.tab3 sentrylaw7_NormOrders.bits3 (fun HT_ HW_ => ?_)
                generalize w146.drew = w153 at BK101 BK102 BK103 HB hHeld ⊢
                refine tz_ 0 34 12 1 ?_
                refine tz_ 1 35 12 3 ?_
                refine tz_ 3 37 12 11 ?_
                refine tz_ 4 38 12 27 ?_
                refine tz_ 6 40 12 91 ?_
                refine tz_ 7 41 12 219 ?_
                refine one_ (i := 2) (N := some 36) #[true, true, true, true, true, false, true, true, false, false, false, false] rfl rfl (one_of HT_.out (by kernel_rfl)) (by decide) (fun K hK => ?_)
                refine goes_ Tryz.func32 (by kernel_rfl) rfl #[.agg #[.slice A0_0 l0_0.length c0_0, .slice A0_1 l0_1.length c0_1], .agg #[.slice A1_0 l1_0.length c1_0, .slice A1_1 l1_1.length c1_1]] (by rfl) rfl rfl (za) ?_
                with_reducible refine (norm_CmpSentry.calls k _ _ l0_0 _ _ l0_1 _ _ l1_0 _ _ l1_1 t104 _ ?side1 ?side2 ?side3 ?side4 ?side5 ?side6 ?side7 ?side8 A14.out).mono ?_
                (case side1 => exact zc (Kd.C_below HR0_0.out HB.out))
                (case side2 => exact HC0_0.out)
                (case side3 => exact zc (Kd.C_below HR0_1.out HB.out))
                (case side4 => exact HC0_1.out)
                (case side5 => exact zc (Kd.C_below HR1_0.out HB.out))
                (case side6 => exact HC1_0.out)
                (case side7 => exact zc (Kd.C_below HR1_1.out HB.out))
                (case side8 => exact HC1_1.out)
                rintro e w154 ⟨rfl, hb⟩
                refine ⟨_, rfl, ?_⟩
                replace BK101 := am (zw BK101.out hb)
                replace BK102 := am (zw BK102.out hb)
                replace BK103 := am (zw BK103.out hb)
                replace HB := am (below_step (zb) hb)
                (try clear hb)
                (try clear hb2)
                (try clear hk)
                (try clear hi)
                refine hK.out _ _ ⟨(blk_cell BK101.out 0).trans rfl, (blk_cell BK101.out 1).trans rfl, (blk_cell BK102.out 0).trans rfl, (blk_cell BK102.out 1).trans rfl, (blk_cell BK103.out 0).trans rfl, (blk_cell BK103.out 1).trans rfl⟩ (fun hHeld => ?_)
                clear hK K
                refine nz_ 36 ?_
                refine one_ (i := 5) (N := some 39) #[true, true, true, true, true, true, true, true, false, false, false, false] rfl rfl (one_of HT_.out (by kernel_rfl)) (by decide) (fun K hK => ?_)
                refine goes_ Tryz.func32 (by kernel_rfl) rfl #[.agg #[.slice A1_0 l1_0.length c1_0, .slice A1_1 l1_1.length c1_1], .agg #[.slice A2_0 l2_0.length c2_0, .slice A2_1 l2_1.length c2_1]] (by rfl) rfl rfl (za) ?_
                with_reducible refine (norm_CmpSentry.calls k _ _ l1_0 _ _ l1_1 _ _ l2_0 _ _ l2_1 t105 _ ?side1 ?side2 ?side3 ?side4 ?side5 ?side6 ?side7 ?side8 A15.out).mono ?_
                (case side1 => exact zc (Kd.C_below HR1_0.out HB.out))
                (case side2 => exact HC1_0.out)
                (case side3 => exact zc (Kd.C_below HR1_1.out HB.out))
                (case side4 => exact HC1_1.out)
                (case side5 => exact zc (Kd.C_below HR2_0.out HB.out))
                (case side6 => exact HC2_0.out)
                (case side7 => exact zc (Kd.C_below HR2_1.out HB.out))
                (case side8 => exact HC2_1.out)
                rintro e w155 ⟨rfl, hb⟩
                refine ⟨_, rfl, ?_⟩
                replace BK101 := am (zw BK101.out hb)
                replace BK102 := am (zw BK102.out hb)
                replace BK103 := am (zw BK103.out hb)
                replace HB := am (below_step (zb) hb)
                (try clear hb)
                (try clear hb2)
                (try clear hk)
                (try clear hi)
                refine hK.out _ _ ⟨(blk_cell BK101.out 0).trans rfl, (blk_cell BK101.out 1).trans rfl, (blk_cell BK102.out 0).trans rfl, (blk_cell BK102.out 1).trans rfl, (blk_cell BK103.out 0).trans rfl, (blk_cell BK103.out 1).trans rfl⟩ (fun hHeld => ?_)
                clear hK K
                refine nz_ 39 ?_
                refine one_ (i := 8) (N := some 42) #[true, true, true, true, true, true, true, true, true, false, false, false] rfl rfl (one_of HT_.out (by kernel_rfl)) (by decide) (fun K hK => ?_)
                refine goes_ Tryz.func32 (by kernel_rfl) rfl #[.agg #[.slice A0_0 l0_0.length c0_0, .slice A0_1 l0_1.length c0_1], .agg #[.slice A2_0 l2_0.length c2_0, .slice A2_1 l2_1.length c2_1]] (by rfl) rfl rfl (za) ?_
                with_reducible refine (norm_CmpSentry.calls k _ _ l0_0 _ _ l0_1 _ _ l2_0 _ _ l2_1 t106 _ ?side1 ?side2 ?side3 ?side4 ?side5 ?side6 ?side7 ?side8 A16.out).mono ?_
                (case side1 => exact zc (Kd.C_below HR0_0.out HB.out))
                (case side2 => exact HC0_0.out)
                (case side3 => exact zc (Kd.C_below HR0_1.out HB.out))
                (case side4 => exact HC0_1.out)
                (case side5 => exact zc (Kd.C_below HR2_0.out HB.out))
                (case side6 => exact HC2_0.out)
                (case side7 => exact zc (Kd.C_below HR2_1.out HB.out))
                (case side8 => exact HC2_1.out)
                rintro e w156 ⟨rfl, hb⟩
                refine ⟨_, rfl, ?_⟩
                replace BK101 := am (zw BK101.out hb)
                replace BK102 := am (zw BK102.out hb)
                replace BK103 := am (zw BK103.out hb)
                replace HB := am (below_step (zb) hb)
                (try clear hb)
                (try clear hb2)
                (try clear hk)
                (try clear hi)
                refine hK.out _ _ ⟨(blk_cell BK101.out 0).trans rfl, (blk_cell BK101.out 1).trans rfl, (blk_cell BK102.out 0).trans rfl, (blk_cell BK102.out 1).trans rfl, (blk_cell BK103.out 0).trans rfl, (blk_cell BK103.out 1).trans rfl⟩ (fun hHeld => ?_)
                clear hK K
                refine nz_ 42 ?_
                refine pz_ 9 7 12 1023 ?_
                refine pz_ 10 8 12 2047 ?_
                refine pz_ 11 9 12 4095 ?_
                refine done_ (done_of HT_.out (by kernel_rfl)) ?_
                obtain ⟨hcz157_0, hcz157_1, hfz157_0, hfz157_1⟩ := cf2 BK102.out
                obtain ⟨hcz158_0, hcz158_1, hfz158_0, hfz158_1⟩ := cf2 BK101.out
                try go_wp2_with (first | ((with_reducible refine gc_ 32 ?_); refine goesL_ (some 46) rfl rfl Tryz.func32 (by kernel_rfl) rfl #[.agg #[.slice A1_0 l1_0.length c1_0, .slice A1_1 l1_1.length c1_1], .agg #[.slice A0_0 l0_0.length c0_0, .slice A0_1 l0_1.length c0_1]] rfl (za) ?_; (with_reducible refine (norm_CmpSentry.calls k _ _ l1_0 _ _ l1_1 _ _ l0_0 _ _ l0_1 t107 _ ?side1 ?side2 ?side3 ?side4 ?side5 ?side6 ?side7 ?side8 A17.out).mono ?_); (case side1 => exact zc (Kd.C_below HR1_0.out HB.out)); (case side2 => exact HC1_0.out); (case side3 => exact zc (Kd.C_below HR1_1.out HB.out)); (case side4 => exact HC1_1.out); (case side5 => exact zc (Kd.C_below HR0_0.out HB.out)); (case side6 => exact HC0_0.out); (case side7 => exact zc (Kd.C_below HR0_1.out HB.out)); (case side8 => exact HC0_1.out); rintro e w159 ⟨rfl, hb⟩; refine ⟨_, rfl, ?_⟩; replace BK101 := am (zw BK101.out hb); replace BK102 := am (zw BK102.out hb); replace BK103 := am (zw BK103.out hb); replace HB := am (below_step (zb) hb); (try clear hb); (try clear hb2); (try clear hk); (try clear hi)))
                go_ret
                exact ⟨zf, zb⟩
        · rw [if_neg c20] at H
          have c20b0 : decide (t104 ≤ 1) = false := decide_eq_false c20
          clear c20
          obtain rfl := Option.some.inj H
          go_enter Tryz.func5, Tryz.ntmps5
          try go_wp2_with (first | ((with_reducible refine gd_ 3 ?_); refine bx_ 3 #[.slice A0_0 l0_0.length c0_0, .slice A0_1 l0_1.length c0_1] 29 ?_; intro gb101 hg w160 hbox hb; have BK101 := am (hbox); have GW101 := am (zg : w.heap.size ≤ gb101); have GE101 := am (zg : w.heap.size ≤ gb101); replace HB := am (below_step (zb) hb); clear hb hbox hg) | ((with_reducible refine gd_ 4 ?_); refine bx_ 4 #[.slice A1_0 l1_0.length c1_0, .slice A1_1 l1_1.length c1_1] 29 ?_; intro gb102 hg w161 hbox hb; have BK102 := am (hbox); have GW102 := am (zg : w.heap.size ≤ gb102); have GE102 := am (zg : w.heap.size ≤ gb102); replace HB := am (below_step (zb) hb); have NB101_102 := am ((zn BK101.out : gb101 ≠ gb102)); have NB102_101 := am ((zm BK101.out : gb102 ≠ gb101)); replace BK101 := am (zw BK101.out hb); clear hb hbox hg) | ((with_reducible refine gd_ 5 ?_); refine bx_ 5 #[.slice A2_0 l2_0.length c2_0, .slice A2_1 l2_1.length c2_1] 29 ?_; intro gb103 hg w162 hbox hb; have BK103 := am (hbox); have GW103 := am (zg : w.heap.size ≤ gb103); have GE103 := am (zg : w.heap.size ≤ gb103); replace HB := am (below_step (zb) hb); have NB101_103 := am ((zn BK101.out : gb101 ≠ gb103)); have NB103_101 := am ((zm BK101.out : gb103 ≠ gb101)); replace BK101 := am (zw BK101.out hb); have NB102_103 := am ((zn BK102.out : gb102 ≠ gb103)); have NB103_102 := am ((zm BK102.out : gb103 ≠ gb102)); replace BK102 := am (zw BK102.out hb); clear hb hbox hg; have hnb163 := NB101_102.out; have hnc163 := NB102_101.out; have hnb164 := NB101_103.out; have hnc164 := NB103_101.out; obtain ⟨hcz165_0, hcz165_1, hfz165_0, hfz165_1⟩ := cf2 BK101.out; have hnb166 := NB102_103.out; have hnc166 := NB103_102.out; obtain ⟨hcz167_0, hcz167_1, hfz167_0, hfz167_1⟩ := cf2 BK102.out; obtain ⟨hcz168_0, hcz168_1, hfz168_0, hfz168_1⟩ := cf2 BK103.out))
          replace BK101 := am (blk_drew BK101.out)
          replace BK102 := am (blk_drew BK102.out)
          replace BK103 := am (blk_drew BK103.out)
          replace HB := am (below_drew1 HB.out)
          refine start_ (n := 12) (S := fun w' => w'.cell? ⟨gb101, 0, none⟩ = some (.slice A0_0 l0_0.length c0_0) ∧ w'.cell? ⟨gb101, 1, none⟩ = some (.slice A0_1 l0_1.length c0_1) ∧ w'.cell? ⟨gb102, 0, none⟩ = some (.slice A1_0 l1_0.length c1_0) ∧ w'.cell? ⟨gb102, 1, none⟩ = some (.slice A1_1 l1_1.length c1_1) ∧ w'.cell? ⟨gb103, 0, none⟩ = some (.slice A2_0 l2_0.length c2_0) ∧ w'.cell? ⟨gb103, 1, none⟩ = some (.slice A2_1 l2_1.length c2_1)) (ds := []) #[false, false, false, false, false, false, false, false, false, false, false, false] (by kernel_rfl) rfl rfl ⟨(blk_cell BK101.out 0).trans rfl, (blk_cell BK101.out 1).trans rfl, (blk_cell BK102.out 0).trans rfl, (blk_cell BK102.out 1).trans rfl, (blk_cell BK103.out 0).trans rfl, (blk_cell BK103.out 1).trans rfl⟩ (fun hHeld => ?_); refine with_tabW sentrylaw7_NormOrders.tab3 sentrylaw7_NormOrders.bits3 (fun HT_ HW_ => ?_)
          generalize w162.drew = w169 at BK101 BK102 BK103 HB hHeld ⊢
          refine tz_ 0 34 12 1 ?_
          refine tz_ 1 35 12 3 ?_
          refine tz_ 3 37 12 11 ?_
          refine tz_ 4 38 12 27 ?_
          refine tz_ 6 40 12 91 ?_
          refine tz_ 7 41 12 219 ?_
          refine one_ (i := 2) (N := some 36) #[true, true, true, true, true, false, true, true, false, false, false, false] rfl rfl (one_of HT_.out (by kernel_rfl)) (by decide) (fun K hK => ?_)
          refine goes_ Tryz.func32 (by kernel_rfl) rfl #[.agg #[.slice A0_0 l0_0.length c0_0, .slice A0_1 l0_1.length c0_1], .agg #[.slice A1_0 l1_0.length c1_0, .slice A1_1 l1_1.length c1_1]] (by rfl) rfl rfl (za) ?_
          with_reducible refine (norm_CmpSentry.calls k _ _ l0_0 _ _ l0_1 _ _ l1_0 _ _ l1_1 t104 _ ?side1 ?side2 ?side3 ?side4 ?side5 ?side6 ?side7 ?side8 A14.out).mono ?_
          (case side1 => exact zc (Kd.C_below HR0_0.out HB.out))
          (case side2 => exact HC0_0.out)
          (case side3 => exact zc (Kd.C_below HR0_1.out HB.out))
          (case side4 => exact HC0_1.out)
          (case side5 => exact zc (Kd.C_below HR1_0.out HB.out))
          (case side6 => exact HC1_0.out)
          (case side7 => exact zc (Kd.C_below HR1_1.out HB.out))
          (case side8 => exact HC1_1.out)
          rintro e w170 ⟨rfl, hb⟩
          refine ⟨_, rfl, ?_⟩
          replace BK101 := am (zw BK101.out hb)
          replace BK102 := am (zw BK102.out hb)
          replace BK103 := am (zw BK103.out hb)
          replace HB := am (below_step (zb) hb)
          (try clear hb)
          (try clear hb2)
          (try clear hk)
          (try clear hi)
          refine hK.out _ _ ⟨(blk_cell BK101.out 0).trans rfl, (blk_cell BK101.out 1).trans rfl, (blk_cell BK102.out 0).trans rfl, (blk_cell BK102.out 1).trans rfl, (blk_cell BK103.out 0).trans rfl, (blk_cell BK103.out 1).trans rfl⟩ (fun hHeld => ?_)
          clear hK K
          refine nz_ 36 ?_
          refine one_ (i := 5) (N := some 39) #[true, true, true, true, true, true, true, true, false, false, false, false] rfl rfl (one_of HT_.out (by kernel_rfl)) (by decide) (fun K hK => ?_)
          refine goes_ Tryz.func32 (by kernel_rfl) rfl #[.agg #[.slice A1_0 l1_0.length c1_0, .slice A1_1 l1_1.length c1_1], .agg #[.slice A2_0 l2_0.length c2_0, .slice A2_1 l2_1.length c2_1]] (by rfl) rfl rfl (za) ?_
          with_reducible refine (norm_CmpSentry.calls k _ _ l1_0 _ _ l1_1 _ _ l2_0 _ _ l2_1 t105 _ ?side1 ?side2 ?side3 ?side4 ?side5 ?side6 ?side7 ?side8 A15.out).mono ?_
          (case side1 => exact zc (Kd.C_below HR1_0.out HB.out))
          (case side2 => exact HC1_0.out)
          (case side3 => exact zc (Kd.C_below HR1_1.out HB.out))
          (case side4 => exact HC1_1.out)
          (case side5 => exact zc (Kd.C_below HR2_0.out HB.out))
          (case side6 => exact HC2_0.out)
          (case side7 => exact zc (Kd.C_below HR2_1.out HB.out))
          (case side8 => exact HC2_1.out)
          rintro e w171 ⟨rfl, hb⟩
          refine ⟨_, rfl, ?_⟩
          replace BK101 := am (zw BK101.out hb)
          replace BK102 := am (zw BK102.out hb)
          replace BK103 := am (zw BK103.out hb)
          replace HB := am (below_step (zb) hb)
          (try clear hb)
          (try clear hb2)
          (try clear hk)
          (try clear hi)
          refine hK.out _ _ ⟨(blk_cell BK101.out 0).trans rfl, (blk_cell BK101.out 1).trans rfl, (blk_cell BK102.out 0).trans rfl, (blk_cell BK102.out 1).trans rfl, (blk_cell BK103.out 0).trans rfl, (blk_cell BK103.out 1).trans rfl⟩ (fun hHeld => ?_)
          clear hK K
          refine nz_ 39 ?_
          refine one_ (i := 8) (N := some 42) #[true, true, true, true, true, true, true, true, true, false, false, false] rfl rfl (one_of HT_.out (by kernel_rfl)) (by decide) (fun K hK => ?_)
          refine goes_ Tryz.func32 (by kernel_rfl) rfl #[.agg #[.slice A0_0 l0_0.length c0_0, .slice A0_1 l0_1.length c0_1], .agg #[.slice A2_0 l2_0.length c2_0, .slice A2_1 l2_1.length c2_1]] (by rfl) rfl rfl (za) ?_
          with_reducible refine (norm_CmpSentry.calls k _ _ l0_0 _ _ l0_1 _ _ l2_0 _ _ l2_1 t106 _ ?side1 ?side2 ?side3 ?side4 ?side5 ?side6 ?side7 ?side8 A16.out).mono ?_
          (case side1 => exact zc (Kd.C_below HR0_0.out HB.out))
          (case side2 => exact HC0_0.out)
          (case side3 => exact zc (Kd.C_below HR0_1.out HB.out))
          (case side4 => exact HC0_1.out)
          (case side5 => exact zc (Kd.C_below HR2_0.out HB.out))
          (case side6 => exact HC2_0.out)
          (case side7 => exact zc (Kd.C_below HR2_1.out HB.out))
          (case side8 => exact HC2_1.out)
          rintro e w172 ⟨rfl, hb⟩
          refine ⟨_, rfl, ?_⟩
          replace BK101 := am (zw BK101.out hb)
          replace BK102 := am (zw BK102.out hb)
          replace BK103 := am (zw BK103.out hb)
          replace HB := am (below_step (zb) hb)
          (try clear hb)
          (try clear hb2)
          (try clear hk)
          (try clear hi)
          refine hK.out _ _ ⟨(blk_cell BK101.out 0).trans rfl, (blk_cell BK101.out 1).trans rfl, (blk_cell BK102.out 0).trans rfl, (blk_cell BK102.out 1).trans rfl, (blk_cell BK103.out 0).trans rfl, (blk_cell BK103.out 1).trans rfl⟩ (fun hHeld => ?_)
          clear hK K
          refine nz_ 42 ?_
          refine pz_ 9 7 12 1023 ?_
          refine pz_ 10 8 12 2047 ?_
          refine pz_ 11 9 12 4095 ?_
          refine done_ (done_of HT_.out (by kernel_rfl)) ?_
          obtain ⟨hcz173_0, hcz173_1, hfz173_0, hfz173_1⟩ := cf2 BK102.out
          obtain ⟨hcz174_0, hcz174_1, hfz174_0, hfz174_1⟩ := cf2 BK101.out
          try go_wp2_with (first | ((with_reducible refine gc_ 32 ?_); refine goesL_ (some 46) rfl rfl Tryz.func32 (by kernel_rfl) rfl #[.agg #[.slice A1_0 l1_0.length c1_0, .slice A1_1 l1_1.length c1_1], .agg #[.slice A0_0 l0_0.length c0_0, .slice A0_1 l0_1.length c0_1]] rfl (za) ?_; (with_reducible refine (norm_CmpSentry.calls k _ _ l1_0 _ _ l1_1 _ _ l0_0 _ _ l0_1 t107 _ ?side1 ?side2 ?side3 ?side4 ?side5 ?side6 ?side7 ?side8 A17.out).mono ?_); (case side1 => exact zc (Kd.C_below HR1_0.out HB.out)); (case side2 => exact HC1_0.out); (case side3 => exact zc (Kd.C_below HR1_1.out HB.out)); (case side4 => exact HC1_1.out); (case side5 => exact zc (Kd.C_below HR0_0.out HB.out)); (case side6 => exact HC0_0.out); (case side7 => exact zc (Kd.C_below HR0_1.out HB.out)); (case side8 => exact HC0_1.out); rintro e w175 ⟨rfl, hb⟩; refine ⟨_, rfl, ?_⟩; replace BK101 := am (zw BK101.out hb); replace BK102 := am (zw BK102.out hb); replace BK103 := am (zw BK103.out hb); replace HB := am (below_step (zb) hb); (try clear hb); (try clear hb2); (try clear hk); (try clear hi)))
          go_ret
          exact ⟨zf, zb⟩
      · rw [if_neg c19] at H
        have c19b0 : decide ((-1) ≤ t104) = false := decide_eq_false c19
        clear c19
        obtain rfl := Option.some.inj H
        go_enter Tryz.func5, Tryz.ntmps5
        try go_wp2_with (first | ((with_reducible refine gd_ 3 ?_); refine bx_ 3 #[.slice A0_0 l0_0.length c0_0, .slice A0_1 l0_1.length c0_1] 29 ?_; intro gb101 hg w176 hbox hb; have BK101 := am (hbox); have GW101 := am (zg : w.heap.size ≤ gb101); have GE101 := am (zg : w.heap.size ≤ gb101); replace HB := am (below_step (zb) hb); clear hb hbox hg) | ((with_reducible refine gd_ 4 ?_); refine bx_ 4 #[.slice A1_0 l1_0.length c1_0, .slice A1_1 l1_1.length c1_1] 29 ?_; intro gb102 hg w177 hbox hb; have BK102 := am (hbox); have GW102 := am (zg : w.heap.size ≤ gb102); have GE102 := am (zg : w.heap.size ≤ gb102); replace HB := am (below_step (zb) hb); have NB101_102 := am ((zn BK101.out : gb101 ≠ gb102)); have NB102_101 := am ((zm BK101.out : gb102 ≠ gb101)); replace BK101 := am (zw BK101.out hb); clear hb hbox hg) | ((with_reducible refine gd_ 5 ?_); refine bx_ 5 #[.slice A2_0 l2_0.length c2_0, .slice A2_1 l2_1.length c2_1] 29 ?_; intro gb103 hg w178 hbox hb; have BK103 := am (hbox); have GW103 := am (zg : w.heap.size ≤ gb103); have GE103 := am (zg : w.heap.size ≤ gb103); replace HB := am (below_step (zb) hb); have NB101_103 := am ((zn BK101.out : gb101 ≠ gb103)); have NB103_101 := am ((zm BK101.out : gb103 ≠ gb101)); replace BK101 := am (zw BK101.out hb); have NB102_103 := am ((zn BK102.out : gb102 ≠ gb103)); have NB103_102 := am ((zm BK102.out : gb103 ≠ gb102)); replace BK102 := am (zw BK102.out hb); clear hb hbox hg; have hnb179 := NB101_102.out; have hnc179 := NB102_101.out; have hnb180 := NB101_103.out; have hnc180 := NB103_101.out; obtain ⟨hcz181_0, hcz181_1, hfz181_0, hfz181_1⟩ := cf2 BK101.out; have hnb182 := NB102_103.out; have hnc182 := NB103_102.out; obtain ⟨hcz183_0, hcz183_1, hfz183_0, hfz183_1⟩ := cf2 BK102.out; obtain ⟨hcz184_0, hcz184_1, hfz184_0, hfz184_1⟩ := cf2 BK103.out))
        replace BK101 := am (blk_drew BK101.out)
        replace BK102 := am (blk_drew BK102.out)
        replace BK103 := am (blk_drew BK103.out)
        replace HB := am (below_drew1 HB.out)
        refine start_ (n := 12) (S := fun w' => w'.cell? ⟨gb101, 0, none⟩ = some (.slice A0_0 l0_0.length c0_0) ∧ w'.cell? ⟨gb101, 1, none⟩ = some (.slice A0_1 l0_1.length c0_1) ∧ w'.cell? ⟨gb102, 0, none⟩ = some (.slice A1_0 l1_0.length c1_0) ∧ w'.cell? ⟨gb102, 1, none⟩ = some (.slice A1_1 l1_1.length c1_1) ∧ w'.cell? ⟨gb103, 0, none⟩ = some (.slice A2_0 l2_0.length c2_0) ∧ w'.cell? ⟨gb103, 1, none⟩ = some (.slice A2_1 l2_1.length c2_1)) (ds := []) #[false, false, false, false, false, false, false, false, false, false, false, false] (by kernel_rfl) rfl rfl ⟨(blk_cell BK101.out 0).trans rfl, (blk_cell BK101.out 1).trans rfl, (blk_cell BK102.out 0).trans rfl, (blk_cell BK102.out 1).trans rfl, (blk_cell BK103.out 0).trans rfl, (blk_cell BK103.out 1).trans rfl⟩ (fun hHeld => ?_); refine with_tabW sentrylaw7_NormOrders.tab3 sentrylaw7_NormOrders.bits3 (fun HT_ HW_ => ?_)
        generalize w178.drew = w185 at BK101 BK102 BK103 HB hHeld ⊢
        refine tz_ 0 34 12 1 ?_
        refine tz_ 1 35 12 3 ?_
        refine tz_ 3 37 12 11 ?_
        refine tz_ 4 38 12 27 ?_
        refine tz_ 6 40 12 91 ?_
        refine tz_ 7 41 12 219 ?_
        refine one_ (i := 2) (N := some 36) #[true, true, true, true, true, false, true, true, false, false, false, false] rfl rfl (one_of HT_.out (by kernel_rfl)) (by decide) (fun K hK => ?_)
        refine goes_ Tryz.func32 (by kernel_rfl) rfl #[.agg #[.slice A0_0 l0_0.length c0_0, .slice A0_1 l0_1.length c0_1], .agg #[.slice A1_0 l1_0.length c1_0, .slice A1_1 l1_1.length c1_1]] (by rfl) rfl rfl (za) ?_
        with_reducible refine (norm_CmpSentry.calls k _ _ l0_0 _ _ l0_1 _ _ l1_0 _ _ l1_1 t104 _ ?side1 ?side2 ?side3 ?side4 ?side5 ?side6 ?side7 ?side8 A14.out).mono ?_
        (case side1 => exact zc (Kd.C_below HR0_0.out HB.out))
        (case side2 => exact HC0_0.out)
        (case side3 => exact zc (Kd.C_below HR0_1.out HB.out))
        (case side4 => exact HC0_1.out)
        (case side5 => exact zc (Kd.C_below HR1_0.out HB.out))
        (case side6 => exact HC1_0.out)
        (case side7 => exact zc (Kd.C_below HR1_1.out HB.out))
        (case side8 => exact HC1_1.out)
        rintro e w186 ⟨rfl, hb⟩
        refine ⟨_, rfl, ?_⟩
        replace BK101 := am (zw BK101.out hb)
        replace BK102 := am (zw BK102.out hb)
        replace BK103 := am (zw BK103.out hb)
        replace HB := am (below_step (zb) hb)
        (try clear hb)
        (try clear hb2)
        (try clear hk)
        (try clear hi)
        refine hK.out _ _ ⟨(blk_cell BK101.out 0).trans rfl, (blk_cell BK101.out 1).trans rfl, (blk_cell BK102.out 0).trans rfl, (blk_cell BK102.out 1).trans rfl, (blk_cell BK103.out 0).trans rfl, (blk_cell BK103.out 1).trans rfl⟩ (fun hHeld => ?_)
        clear hK K
        refine nz_ 36 ?_
        refine one_ (i := 5) (N := some 39) #[true, true, true, true, true, true, true, true, false, false, false, false] rfl rfl (one_of HT_.out (by kernel_rfl)) (by decide) (fun K hK => ?_)
        refine goes_ Tryz.func32 (by kernel_rfl) rfl #[.agg #[.slice A1_0 l1_0.length c1_0, .slice A1_1 l1_1.length c1_1], .agg #[.slice A2_0 l2_0.length c2_0, .slice A2_1 l2_1.length c2_1]] (by rfl) rfl rfl (za) ?_
        with_reducible refine (norm_CmpSentry.calls k _ _ l1_0 _ _ l1_1 _ _ l2_0 _ _ l2_1 t105 _ ?side1 ?side2 ?side3 ?side4 ?side5 ?side6 ?side7 ?side8 A15.out).mono ?_
        (case side1 => exact zc (Kd.C_below HR1_0.out HB.out))
        (case side2 => exact HC1_0.out)
        (case side3 => exact zc (Kd.C_below HR1_1.out HB.out))
        (case side4 => exact HC1_1.out)
        (case side5 => exact zc (Kd.C_below HR2_0.out HB.out))
        (case side6 => exact HC2_0.out)
        (case side7 => exact zc (Kd.C_below HR2_1.out HB.out))
        (case side8 => exact HC2_1.out)
        rintro e w187 ⟨rfl, hb⟩
        refine ⟨_, rfl, ?_⟩
        replace BK101 := am (zw BK101.out hb)
        replace BK102 := am (zw BK102.out hb)
        replace BK103 := am (zw BK103.out hb)
        replace HB := am (below_step (zb) hb)
        (try clear hb)
        (try clear hb2)
        (try clear hk)
        (try clear hi)
        refine hK.out _ _ ⟨(blk_cell BK101.out 0).trans rfl, (blk_cell BK101.out 1).trans rfl, (blk_cell BK102.out 0).trans rfl, (blk_cell BK102.out 1).trans rfl, (blk_cell BK103.out 0).trans rfl, (blk_cell BK103.out 1).trans rfl⟩ (fun hHeld => ?_)
        clear hK K
        refine nz_ 39 ?_
        refine one_ (i := 8) (N := some 42) #[true, true, true, true, true, true, true, true, true, false, false, false] rfl rfl (one_of HT_.out (by kernel_rfl)) (by decide) (fun K hK => ?_)
        refine goes_ Tryz.func32 (by kernel_rfl) rfl #[.agg #[.slice A0_0 l0_0.length c0_0, .slice A0_1 l0_1.length c0_1], .agg #[.slice A2_0 l2_0.length c2_0, .slice A2_1 l2_1.length c2_1]] (by rfl) rfl rfl (za) ?_
        with_reducible refine (norm_CmpSentry.calls k _ _ l0_0 _ _ l0_1 _ _ l2_0 _ _ l2_1 t106 _ ?side1 ?side2 ?side3 ?side4 ?side5 ?side6 ?side7 ?side8 A16.out).mono ?_
        (case side1 => exact zc (Kd.C_below HR0_0.out HB.out))
        (case side2 => exact HC0_0.out)
        (case side3 => exact zc (Kd.C_below HR0_1.out HB.out))
        (case side4 => exact HC0_1.out)
        (case side5 => exact zc (Kd.C_below HR2_0.out HB.out))
        (case side6 => exact HC2_0.out)
        (case side7 => exact zc (Kd.C_below HR2_1.out HB.out))
        (case side8 => exact HC2_1.out)
        rintro e w188 ⟨rfl, hb⟩
        refine ⟨_, rfl, ?_⟩
        replace BK101 := am (zw BK101.out hb)
        replace BK102 := am (zw BK102.out hb)
        replace BK103 := am (zw BK103.out hb)
        replace HB := am (below_step (zb) hb)
        (try clear hb)
        (try clear hb2)
        (try clear hk)
        (try clear hi)
        refine hK.out _ _ ⟨(blk_cell BK101.out 0).trans rfl, (blk_cell BK101.out 1).trans rfl, (blk_cell BK102.out 0).trans rfl, (blk_cell BK102.out 1).trans rfl, (blk_cell BK103.out 0).trans rfl, (blk_cell BK103.out 1).trans rfl⟩ (fun hHeld => ?_)
        clear hK K
        refine nz_ 42 ?_
        refine pz_ 9 7 12 1023 ?_
        refine pz_ 10 8 12 2047 ?_
        refine pz_ 11 9 12 4095 ?_
        refine done_ (done_of HT_.out (by kernel_rfl)) ?_
        obtain ⟨hcz189_0, hcz189_1, hfz189_0, hfz189_1⟩ := cf2 BK102.out
        obtain ⟨hcz190_0, hcz190_1, hfz190_0, hfz190_1⟩ := cf2 BK101.out
        try go_wp2_with (first | ((with_reducible refine gc_ 32 ?_); refine goesL_ (some 46) rfl rfl Tryz.func32 (by kernel_rfl) rfl #[.agg #[.slice A1_0 l1_0.length c1_0, .slice A1_1 l1_1.length c1_1], .agg #[.slice A0_0 l0_0.length c0_0, .slice A0_1 l0_1.length c0_1]] rfl (za) ?_; (with_reducible refine (norm_CmpSentry.calls k _ _ l1_0 _ _ l1_1 _ _ l0_0 _ _ l0_1 t107 _ ?side1 ?side2 ?side3 ?side4 ?side5 ?side6 ?side7 ?side8 A17.out).mono ?_); (case side1 => exact zc (Kd.C_below HR1_0.out HB.out)); (case side2 => exact HC1_0.out); (case side3 => exact zc (Kd.C_below HR1_1.out HB.out)); (case side4 => exact HC1_1.out); (case side5 => exact zc (Kd.C_below HR0_0.out HB.out)); (case side6 => exact HC0_0.out); (case side7 => exact zc (Kd.C_below HR0_1.out HB.out)); (case side8 => exact HC0_1.out); rintro e w191 ⟨rfl, hb⟩; refine ⟨_, rfl, ?_⟩; replace BK101 := am (zw BK101.out hb); replace BK102 := am (zw BK102.out hb); replace BK103 := am (zw BK103.out hb); replace HB := am (below_step (zb) hb); (try clear hb); (try clear hb2); (try clear hk); (try clear hi)))
        go_ret
        exact ⟨zf, zb⟩
    · rw [if_neg c18] at H
      have c18b0 : (t104 == (wrap64 (-t107))) = false := beq_eq_false_iff_ne.mpr c18
      have c18b1 : (t104 != (wrap64 (-t107))) = true := bne_iff_ne.mpr c18
      obtain rfl := Option.some.inj H
      go_enter Tryz.func5, Tryz.ntmps5
      try go_wp2_with (first | ((with_reducible refine gd_ 3 ?_); refine bx_ 3 #[.slice A0_0 l0_0.length c0_0, .slice A0_1 l0_1.length c0_1] 29 ?_; intro gb101 hg w192 hbox hb; have BK101 := am (hbox); have GW101 := am (zg : w.heap.size ≤ gb101); have GE101 := am (zg : w.heap.size ≤ gb101); replace HB := am (below_step (zb) hb); clear hb hbox hg) | ((with_reducible refine gd_ 4 ?_); refine bx_ 4 #[.slice A1_0 l1_0.length c1_0, .slice A1_1 l1_1.length c1_1] 29 ?_; intro gb102 hg w193 hbox hb; have BK102 := am (hbox); have GW102 := am (zg : w.heap.size ≤ gb102); have GE102 := am (zg : w.heap.size ≤ gb102); replace HB := am (below_step (zb) hb); have NB101_102 := am ((zn BK101.out : gb101 ≠ gb102)); have NB102_101 := am ((zm BK101.out : gb102 ≠ gb101)); replace BK101 := am (zw BK101.out hb); clear hb hbox hg) | ((with_reducible refine gd_ 5 ?_); refine bx_ 5 #[.slice A2_0 l2_0.length c2_0, .slice A2_1 l2_1.length c2_1] 29 ?_; intro gb103 hg w194 hbox hb; have BK103 := am (hbox); have GW103 := am (zg : w.heap.size ≤ gb103); have GE103 := am (zg : w.heap.size ≤ gb103); replace HB := am (below_step (zb) hb); have NB101_103 := am ((zn BK101.out : gb101 ≠ gb103)); have NB103_101 := am ((zm BK101.out : gb103 ≠ gb101)); replace BK101 := am (zw BK101.out hb); have NB102_103 := am ((zn BK102.out : gb102 ≠ gb103)); have NB103_102 := am ((zm BK102.out : gb103 ≠ gb102)); replace BK102 := am (zw BK102.out hb); clear hb hbox hg; have hnb195 := NB101_102.out; have hnc195 := NB102_101.out; have hnb196 := NB101_103.out; have hnc196 := NB103_101.out; obtain ⟨hcz197_0, hcz197_1, hfz197_0, hfz197_1⟩ := cf2 BK101.out; have hnb198 := NB102_103.out; have hnc198 := NB103_102.out; obtain ⟨hcz199_0, hcz199_1, hfz199_0, hfz199_1⟩ := cf2 BK102.out; obtain ⟨hcz200_0, hcz200_1, hfz200_0, hfz200_1⟩ := cf2 BK103.out))
      replace BK101 := am (blk_drew BK101.out)
      replace BK102 := am (blk_drew BK102.out)
      replace BK103 := am (blk_drew BK103.out)
      replace HB := am (below_drew1 HB.out)
      refine start_ (n := 12) (S := fun w' => w'.cell? ⟨gb101, 0, none⟩ = some (.slice A0_0 l0_0.length c0_0) ∧ w'.cell? ⟨gb101, 1, none⟩ = some (.slice A0_1 l0_1.length c0_1) ∧ w'.cell? ⟨gb102, 0, none⟩ = some (.slice A1_0 l1_0.length c1_0) ∧ w'.cell? ⟨gb102, 1, none⟩ = some (.slice A1_1 l1_1.length c1_1) ∧ w'.cell? ⟨gb103, 0, none⟩ = some (.slice A2_0 l2_0.length c2_0) ∧ w'.cell? ⟨gb103, 1, none⟩ = some (.slice A2_1 l2_1.length c2_1)) (ds := []) #[false, false, false, false, false, false, false, false, false, false, false, false] (by kernel_rfl) rfl rfl ⟨(blk_cell BK101.out 0).trans rfl, (blk_cell BK101.out 1).trans rfl, (blk_cell BK102.out 0).trans rfl, (blk_cell BK102.out 1).trans rfl, (blk_cell BK103.out 0).trans rfl, (blk_cell BK103.out 1).trans rfl⟩ (fun hHeld => ?_); refine with_tabW sentrylaw7_NormOrders.tab3 sentrylaw7_NormOrders.bits3 (fun HT_ HW_ => ?_)
      generalize w194.drew = w201 at BK101 BK102 BK103 HB hHeld ⊢
      refine tz_ 0 34 12 1 ?_
      refine tz_ 1 35 12 3 ?_
      refine tz_ 3 37 12 11 ?_
      refine tz_ 4 38 12 27 ?_
      refine tz_ 6 40 12 91 ?_
      refine tz_ 7 41 12 219 ?_
      refine one_ (i := 2) (N := some 36) #[true, true, true, true, true, false, true, true, false, false, false, false] rfl rfl (one_of HT_.out (by kernel_rfl)) (by decide) (fun K hK => ?_)
      refine goes_ Tryz.func32 (by kernel_rfl) rfl #[.agg #[.slice A0_0 l0_0.length c0_0, .slice A0_1 l0_1.length c0_1], .agg #[.slice A1_0 l1_0.length c1_0, .slice A1_1 l1_1.length c1_1]] (by rfl) rfl rfl (za) ?_
      with_reducible refine (norm_CmpSentry.calls k _ _ l0_0 _ _ l0_1 _ _ l1_0 _ _ l1_1 t104 _ ?side1 ?side2 ?side3 ?side4 ?side5 ?side6 ?side7 ?side8 A14.out).mono ?_
      (case side1 => exact zc (Kd.C_below HR0_0.out HB.out))
      (case side2 => exact HC0_0.out)
      (case side3 => exact zc (Kd.C_below HR0_1.out HB.out))
      (case side4 => exact HC0_1.out)
      (case side5 => exact zc (Kd.C_below HR1_0.out HB.out))
      (case side6 => exact HC1_0.out)
      (case side7 => exact zc (Kd.C_below HR1_1.out HB.out))
      (case side8 => exact HC1_1.out)
      rintro e w202 ⟨rfl, hb⟩
      refine ⟨_, rfl, ?_⟩
      replace BK101 := am (zw BK101.out hb)
      replace BK102 := am (zw BK102.out hb)
      replace BK103 := am (zw BK103.out hb)
      replace HB := am (below_step (zb) hb)
      (try clear hb)
      (try clear hb2)
      (try clear hk)
      (try clear hi)
      refine hK.out _ _ ⟨(blk_cell BK101.out 0).trans rfl, (blk_cell BK101.out 1).trans rfl, (blk_cell BK102.out 0).trans rfl, (blk_cell BK102.out 1).trans rfl, (blk_cell BK103.out 0).trans rfl, (blk_cell BK103.out 1).trans rfl⟩ (fun hHeld => ?_)
      clear hK K
      refine nz_ 36 ?_
      refine one_ (i := 5) (N := some 39) #[true, true, true, true, true, true, true, true, false, false, false, false] rfl rfl (one_of HT_.out (by kernel_rfl)) (by decide) (fun K hK => ?_)
      refine goes_ Tryz.func32 (by kernel_rfl) rfl #[.agg #[.slice A1_0 l1_0.length c1_0, .slice A1_1 l1_1.length c1_1], .agg #[.slice A2_0 l2_0.length c2_0, .slice A2_1 l2_1.length c2_1]] (by rfl) rfl rfl (za) ?_
      with_reducible refine (norm_CmpSentry.calls k _ _ l1_0 _ _ l1_1 _ _ l2_0 _ _ l2_1 t105 _ ?side1 ?side2 ?side3 ?side4 ?side5 ?side6 ?side7 ?side8 A15.out).mono ?_
      (case side1 => exact zc (Kd.C_below HR1_0.out HB.out))
      (case side2 => exact HC1_0.out)
      (case side3 => exact zc (Kd.C_below HR1_1.out HB.out))
      (case side4 => exact HC1_1.out)
      (case side5 => exact zc (Kd.C_below HR2_0.out HB.out))
      (case side6 => exact HC2_0.out)
      (case side7 => exact zc (Kd.C_below HR2_1.out HB.out))
      (case side8 => exact HC2_1.out)
      rintro e w203 ⟨rfl, hb⟩
      refine ⟨_, rfl, ?_⟩
      replace BK101 := am (zw BK101.out hb)
      replace BK102 := am (zw BK102.out hb)
      replace BK103 := am (zw BK103.out hb)
      replace HB := am (below_step (zb) hb)
      (try clear hb)
      (try clear hb2)
      (try clear hk)
      (try clear hi)
      refine hK.out _ _ ⟨(blk_cell BK101.out 0).trans rfl, (blk_cell BK101.out 1).trans rfl, (blk_cell BK102.out 0).trans rfl, (blk_cell BK102.out 1).trans rfl, (blk_cell BK103.out 0).trans rfl, (blk_cell BK103.out 1).trans rfl⟩ (fun hHeld => ?_)
      clear hK K
      refine nz_ 39 ?_
      refine one_ (i := 8) (N := some 42) #[true, true, true, true, true, true, true, true, true, false, false, false] rfl rfl (one_of HT_.out (by kernel_rfl)) (by decide) (fun K hK => ?_)
      refine goes_ Tryz.func32 (by kernel_rfl) rfl #[.agg #[.slice A0_0 l0_0.length c0_0, .slice A0_1 l0_1.length c0_1], .agg #[.slice A2_0 l2_0.length c2_0, .slice A2_1 l2_1.length c2_1]] (by rfl) rfl rfl (za) ?_
      with_reducible refine (norm_CmpSentry.calls k _ _ l0_0 _ _ l0_1 _ _ l2_0 _ _ l2_1 t106 _ ?side1 ?side2 ?side3 ?side4 ?side5 ?side6 ?side7 ?side8 A16.out).mono ?_
      (case side1 => exact zc (Kd.C_below HR0_0.out HB.out))
      (case side2 => exact HC0_0.out)
      (case side3 => exact zc (Kd.C_below HR0_1.out HB.out))
      (case side4 => exact HC0_1.out)
      (case side5 => exact zc (Kd.C_below HR2_0.out HB.out))
      (case side6 => exact HC2_0.out)
      (case side7 => exact zc (Kd.C_below HR2_1.out HB.out))
      (case side8 => exact HC2_1.out)
      rintro e w204 ⟨rfl, hb⟩
      refine ⟨_, rfl, ?_⟩
      replace BK101 := am (zw BK101.out hb)
      replace BK102 := am (zw BK102.out hb)
      replace BK103 := am (zw BK103.out hb)
      replace HB := am (below_step (zb) hb)
      (try clear hb)
      (try clear hb2)
      (try clear hk)
      (try clear hi)
      refine hK.out _ _ ⟨(blk_cell BK101.out 0).trans rfl, (blk_cell BK101.out 1).trans rfl, (blk_cell BK102.out 0).trans rfl, (blk_cell BK102.out 1).trans rfl, (blk_cell BK103.out 0).trans rfl, (blk_cell BK103.out 1).trans rfl⟩ (fun hHeld => ?_)
      clear hK K
      refine nz_ 42 ?_
      refine pz_ 9 7 12 1023 ?_
      refine pz_ 10 8 12 2047 ?_
      refine pz_ 11 9 12 4095 ?_
      refine done_ (done_of HT_.out (by kernel_rfl)) ?_
      obtain ⟨hcz205_0, hcz205_1, hfz205_0, hfz205_1⟩ := cf2 BK102.out
      obtain ⟨hcz206_0, hcz206_1, hfz206_0, hfz206_1⟩ := cf2 BK101.out
      try go_wp2_with (first | ((with_reducible refine gc_ 32 ?_); refine goesL_ (some 46) rfl rfl Tryz.func32 (by kernel_rfl) rfl #[.agg #[.slice A1_0 l1_0.length c1_0, .slice A1_1 l1_1.length c1_1], .agg #[.slice A0_0 l0_0.length c0_0, .slice A0_1 l0_1.length c0_1]] rfl (za) ?_; (with_reducible refine (norm_CmpSentry.calls k _ _ l1_0 _ _ l1_1 _ _ l0_0 _ _ l0_1 t107 _ ?side1 ?side2 ?side3 ?side4 ?side5 ?side6 ?side7 ?side8 A17.out).mono ?_); (case side1 => exact zc (Kd.C_below HR1_0.out HB.out)); (case side2 => exact HC1_0.out); (case side3 => exact zc (Kd.C_below HR1_1.out HB.out)); (case side4 => exact HC1_1.out); (case side5 => exact zc (Kd.C_below HR0_0.out HB.out)); (case side6 => exact HC0_0.out); (case side7 => exact zc (Kd.C_below HR0_1.out HB.out)); (case side8 => exact HC0_1.out); rintro e w207 ⟨rfl, hb⟩; refine ⟨_, rfl, ?_⟩; replace BK101 := am (zw BK101.out hb); replace BK102 := am (zw BK102.out hb); replace BK103 := am (zw BK103.out hb); replace HB := am (below_step (zb) hb); (try clear hb); (try clear hb2); (try clear hk); (try clear hi)))
      go_ret
      exact ⟨zf, zb⟩
end Go.Proofs.YtpbembafpnknhaaGreat.Pr
namespace Go.Proofs.YtpbembafpnknhaaGreat.Pr
open Go.RowKit Sn Go.Proofs.YtpbembafpnknhaaGreatW.PrintWords Go.Proofs.YtpbembafpnknhaaGreatW.PrintLast Go.Proofs.YtpbembafpnknhaaGreatW.PrintMore
theorem known_more (j : Nat) : sentrylaw7_known.f (60 + j) = some true := by
  induction j with
  | zero => exact known_f
  | succ j ih => exact sentrylaw7_known.mono _ _ ih
theorem cmpSe_k (k : Nat) (x y : S29) (h0 : x.f0.length ≤ 9223372036854775807) (h1 : x.f1.length ≤ 9223372036854775807) (hk : x.f0.length + x.f1.length + 9 ≤ k) : norm_CmpSentry.f k x.f0 x.f1 y.f0 y.f1 = some (cmpSe x y) := by
  rw [cmpSe_same]
  exact PrD.cmpSe_f k x y h0 h1 hk
theorem orders_f (a b c : S29) (ha0 : a.f0.length ≤ 9223372036854775807) (ha1 : a.f1.length ≤ 9223372036854775807) (hb0 : b.f0.length ≤ 9223372036854775807) (hb1 : b.f1.length ≤ 9223372036854775807) :
    sentrylaw7_NormOrders.f (60 + (a.f0.length + a.f1.length + b.f0.length + b.f1.length)) a.f0 a.f1 b.f0 b.f1 c.f0 c.f1 = some true := by
  unfold sentrylaw7_NormOrders.f
  split
  · rfl
  · rw [cmpSe_k _ a b ha0 ha1 (by omega), cmpSe_k _ b c hb0 hb1 (by omega), cmpSe_k _ a c ha0 ha1 (by omega), cmpSe_k _ b a hb0 hb1 (by omega), cmpSe_k _ a a ha0 ha1 (by omega), known_more]
    simp only [Option.bind_some]
    have r1 := isCmp_se.rng a b; have r2 := isCmp_se.rng b c; have r3 := isCmp_se.rng a c; have an := isCmp_se.anti a b
    have hself : cmpSe a a = 0 := (isCmp_se.eq0 a a).2 rfl
    have ht := isCmp_se.tr a b c
    have e1 := isCmp_se.eq0 a b; have e2 := isCmp_se.eq0 b c
    have hw : cmpSe a b = wrap64 (-cmpSe b a) := by unfold wrap64; omega
    rw [if_pos hw, if_pos (by omega), if_pos (by omega), hself]
    by_cases h1 : cmpSe a b > 0
    · rw [if_pos h1, if_pos rfl]
    · rw [if_neg h1]
      by_cases h2 : cmpSe b c > 0
      · rw [if_pos h2, if_pos rfl]
      · rw [if_neg h2]
        have h3 : cmpSe a c ≤ 0 := by
          by_cases h4 : cmpSe a b = 0
          · have := e1.1 h4; subst this; omega
          · by_cases h5 : cmpSe b c = 0
            · have := e2.1 h5; subst this; omega
            · have := ht (by omega) (by omega); omega
        rw [if_pos h3, if_pos rfl]
theorem lawNormOrders {W : World} {v0 v1 v2 : Value} (y0 : S29) (w0 : Arg29 W v0 y0) (y1 : S29) (w1 : Arg29 W v1 y1) (y2 : S29) (w2 : Arg29 W v2 y2) : Calls Tryz.prog 5 #[v0, v1, v2] W fun e W' => e = .returned (.bool true) ∧ Below W.heap.size W W' := by
  obtain ⟨A0, c0, A1, c1, rfl, l0, g0, l1, g1⟩ := w0
  obtain ⟨B0, d0, B1, d1, rfl, m0, s0, m1, s1⟩ := w1
  obtain ⟨D0, e0, D1, e1, rfl, n0, t0, n1, t1⟩ := w2
  exact sentrylaw7_NormOrders.calls _ _ _ y0.f0 _ _ y0.f1 _ _ y1.f0 _ _ y1.f1 _ _ y2.f0 _ _ y2.f1 true W g0 l0 g1 l1 s0 m0 s1 m1 t0 n0 t1 n1 (orders_f y0 y1 y2 g0.2.1 g1.2.1 s0.2.1 s1.2.1)
end Go.Proofs.YtpbembafpnknhaaGreat.Pr
namespace Go.Proofs.YtpbembafpnknhaaGreat
def space : Char := Char.ofNat 32
def joinW : List (List Char) → List Char
  | [] => []
  | [w] => w
  | w :: v :: ws => w ++ space :: joinW (v :: ws)
theorem words_cons {c : Char} {r : List Char} (h : c ≠ space) : wordsSigns (c :: r) = (match wordsSigns r with | w :: ws => (c :: w) :: ws | [] => [[c]]) := by
  conv => lhs; unfold wordsSigns
  split
  · rename_i e; cases e
  · rename_i e; injection e with e _; exact absurd e h
  · rename_i e; injection e with e1 e2; subst e1; subst e2; rfl
theorem words_one : ∀ w : List Char, (w.all (· != space)) = true → wordsSigns w = [w]
  | [], _ => rfl
  | c :: r, h => by
    rw [List.all_cons, Bool.and_eq_true, bne_iff_ne] at h
    rw [words_cons h.1, words_one r h.2]
theorem words_app : ∀ (w r : List Char), (w.all (· != space)) = true → wordsSigns (w ++ space :: r) = w :: wordsSigns r
  | [], r, _ => rfl
  | c :: v, r, h => by
    rw [List.all_cons, Bool.and_eq_true, bne_iff_ne] at h
    rw [List.cons_append, words_cons h.1, words_app v r h.2]
theorem words_join : ∀ ws : List (List Char), ws ≠ [] → (ws.all fun w => w.all (· != space)) = true → wordsSigns (joinW ws) = ws
  | [], h, _ => absurd rfl h
  | [w], _, h => by
    rw [List.all_cons, Bool.and_eq_true] at h
    exact words_one w h.1
  | w :: v :: ws, _, h => by
    rw [List.all_cons, Bool.and_eq_true] at h
    show wordsSigns (w ++ space :: joinW (v :: ws)) = _
    rw [words_app _ _ h.1, words_join (v :: ws) (by simp) h.2]
def initW : List (List Nat) := [[104, 97, 114, 110, 101, 115, 115], [52, 49, 52, 57, 56, 98, 55, 101, 50, 54, 98, 53, 54, 55, 55, 51, 54, 51, 98, 49, 57, 51, 98, 50, 102, 54, 101, 97, 49, 54, 48, 53, 100, 50, 49, 97, 54, 97, 97, 100, 100, 55, 50, 57, 55, 52, 53, 48, 52, 97, 57, 55, 56, 101, 48, 57, 98, 98, 98, 97, 97, 101, 98, 101], [99, 117, 116], [97, 116], [115, 101, 110, 116, 114, 121, 47, 115, 101, 110, 116, 114, 121, 108, 97, 119, 55, 46, 78, 111, 114, 109, 84, 101, 108, 108, 115], [115, 101, 110, 116, 114, 121, 47, 115, 101, 110, 116, 114, 121, 108, 97, 119, 55, 46, 78, 111, 114, 109, 79, 110, 99, 101], [115, 101, 110, 116, 114, 121, 47, 115, 101, 110, 116, 114, 121, 108, 97, 119, 55, 46, 78, 111, 114, 109, 79, 114, 100, 101, 114, 115], [115, 101, 110, 116, 114, 121, 47, 115, 101, 110, 116, 114, 121, 108, 97, 119, 55, 46, 78, 111, 114, 109, 82, 117, 110, 115], [115, 101, 110, 116, 114, 121, 47, 115, 101, 110, 116, 114, 121, 108, 97, 119, 55, 46, 78, 111, 114, 109, 84, 117, 114, 110, 115], [115, 101, 110, 116, 114, 121, 47, 115, 101, 110, 116, 114, 121, 108, 97, 119, 55, 46, 78, 111, 114, 109, 79, 119, 110], [115, 101, 110, 116, 114, 121, 47, 115, 101, 110, 116, 114, 121, 108, 97, 119, 55, 46, 78, 111, 114, 109, 83, 97, 109, 101], [115, 101, 110, 116, 114, 121, 47, 115, 101, 110, 116, 114, 121, 108, 97, 119, 55, 46, 78, 111, 114, 109, 84, 119, 105, 99, 101], [115, 101, 110, 116, 114, 121, 47, 115, 101, 110, 116, 114, 121, 108, 97, 119, 55, 46, 78, 111, 114, 109, 73, 68, 115], [115, 101, 110, 116, 114, 121, 47, 115, 101, 110, 116, 114, 121, 108, 97, 119, 49, 51, 46, 68, 105, 102, 102, 84, 101, 108, 108, 115], [115, 101, 110, 116, 114, 121, 47, 115, 101, 110, 116, 114, 121, 108, 97, 119, 49, 51, 46, 68, 105, 102, 102, 79, 110, 101], [115, 101, 110, 116, 114, 121, 47, 115, 101, 110, 116, 114, 121, 108, 97, 119, 49, 52, 46, 77, 101, 114, 103, 101, 84, 101, 108, 108, 115], [115, 101, 110, 116, 114, 121, 47, 115, 101, 110, 116, 114, 121, 108, 97, 119, 49, 52, 46, 77, 101, 114, 103, 101, 65, 108, 111, 110, 101], [115, 101, 110, 116, 114, 121, 47, 115, 101, 110, 116, 114, 121, 108, 97, 119, 49, 52, 46, 77, 101, 114, 103, 101, 84, 117, 114, 110, 101, 100], [115, 101, 110, 116, 114, 121, 47, 115, 101, 110, 116, 114, 121, 108, 97, 119, 49, 52, 46, 77, 101, 114, 103, 101, 69, 105, 116, 104, 101, 114], [115, 101, 110, 116, 114, 121, 47, 115, 101, 110, 116, 114, 121, 108, 97, 119, 49, 52, 46, 77, 101, 114, 103, 101, 83, 105, 100, 101, 115], [115, 101, 110, 116, 114, 121, 47, 115, 101, 110, 116, 114, 121, 108, 97, 119, 49, 52, 46, 77, 101, 114, 103, 101, 67, 108, 97, 115, 104], [115, 101, 110, 116, 114, 121, 47, 115, 101, 110, 116, 114, 121, 108, 97, 119, 49, 52, 46, 77, 101, 114, 103, 101, 65, 112, 97, 114, 116], [115, 101, 110, 116, 114, 121, 47, 115, 101, 110, 116, 114, 121, 108, 97, 119, 49, 52, 46, 77, 101, 114, 103, 101, 66, 121], [115, 101, 110, 116, 114, 121, 47, 115, 101, 110, 116, 114, 121, 108, 97, 119, 49, 52, 46, 77, 101, 114, 103, 101, 79, 114, 100, 101, 114], [115, 101, 110, 116, 114, 121, 47, 115, 101, 110, 116, 114, 121, 108, 97, 119, 49, 51, 46, 68, 105, 102, 102, 66, 97, 99, 107], [115, 101, 110, 116, 114, 121, 47, 115, 101, 110, 116, 114, 121, 108, 97, 119, 49, 51, 46, 68, 105, 102, 102, 83, 101, 108, 102], [115, 101, 110, 116, 114, 121, 47, 115, 101, 110, 116, 114, 121, 108, 97, 119, 49, 51, 46, 68, 105, 102, 102, 76, 101, 97, 115, 116], [115, 101, 110, 116, 114, 121, 47, 115, 101, 110, 116, 114, 121, 108, 97, 119, 49, 51, 46, 68, 105, 102, 102, 79, 100, 100], [115, 101, 110, 116, 114, 121, 47, 115, 101, 110, 116, 114, 121, 108, 97, 119, 49, 51, 46, 68, 105, 102, 102, 67, 104, 97, 105, 110], [115, 101, 110, 116, 114, 121, 47, 115, 101, 110, 116, 114, 121, 108, 97, 119, 49, 51, 46, 68, 105, 102, 102, 79, 114, 100, 101, 114]]
def initC : List (List Char) := initW.map (·.map Char.ofNat)
theorem initS : Tryz.pinned.checked.prog.initOrder = String.ofList (joinW initC) := by kernel_rfl
theorem initL : wordsSigns Tryz.pinned.checked.prog.initOrder.toList = initC := by
  rw [initS, String.toList_ofList, words_join _ (by decide) (by kernel_rfl)]
theorem initB : behindMainWord (wordsSigns Tryz.pinned.checked.prog.initOrder.toList) = initC.drop 2 := by
  rw [initL]
  kernel_rfl
theorem strip : stripLifts liftWords (initC.drop 2) = ([], initC.drop 2) := by kernel_rfl
theorem initD : initC.drop 2 = (initC.drop 2).head (by decide) :: (initC.drop 2).tail := by kernel_rfl
theorem isGc : ((initC.drop 2).head (by decide) == "gc".toList) = false := by kernel_rfl
theorem isSpec : ((initC.drop 2).head (by decide) == "spec".toList) = false := by kernel_rfl
theorem isCarried : ((initC.drop 2).head (by decide) == "carried".toList) = false := by kernel_rfl
theorem isCut : ((initC.drop 2).head (by decide) == "cut".toList) = true := by kernel_rfl
theorem isCut2 : ((initC.drop 2).head? == some "cut".toList) = true := by kernel_rfl
theorem later_ : Tryz.pinned.checked.prog.laysLater = false := by kernel_rfl
theorem bears_ : Tryz.pinned.checked.prog.bearsReflect = false := by kernel_rfl
theorem door_ : Tryz.pinned.checked.prog.doorFits [] = true := by kernel_rfl
theorem mayEnter_gen (P : Program) (c : List Char) (rest : List (List Char)) (h : behindMainWord (wordsSigns P.initOrder.toList) = c :: rest) (h1 : (c == "gc".toList) = false) (h2 : (c == "spec".toList) = false) (h3 : (c == "carried".toList) = false)
    (h4 : stripLifts liftWords (c :: rest) = ([], c :: rest)) (h5 : ((c :: rest).head? == some "cut".toList) = true) (h6 : P.laysLater = false) (h7 : P.bearsReflect = false) (h8 : P.doorFits [] = true) : P.mayEnter = true := by
  unfold Program.mayEnter
  rw [h]
  simp only
  rw [h1, h2, h3, h4]
  simp only
  rw [h5, h6, h7, h8]
  rfl
theorem mayEnter_ : Tryz.pinned.checked.prog.mayEnter = true := mayEnter_gen _ _ _ (initB.trans initD) isGc isSpec isCarried (by rw [← initD]; exact strip) (by rw [← initD]; exact isCut2) later_ bears_ door_
theorem headLifts_ : Tryz.pinned.checked.prog.headLifts = [] := by
  unfold Program.headLifts
  rw [initB, strip]
  kernel_rfl
theorem lifts_ : Tryz.pinned.checked.prog.liftsFinal = false := by
  unfold Program.liftsFinal
  rw [initB, headLifts_]
  kernel_rfl
theorem make_gen (P : Program) (c : List Char) (rest : List (List Char)) (h : behindMainWord (wordsSigns P.initOrder.toList) = c :: rest) (h1 : (c == "gc".toList) = false) (h2 : (c == "spec".toList) = false) (h3 : (c == "cut".toList) = true) : P.make = some .cut := by
  unfold Program.make
  rw [h]
  simp only
  rw [h1, h2, h3]
  rfl
theorem make_ : Tryz.pinned.checked.prog.make = some .cut := make_gen _ _ _ (initB.trans initD) isGc isSpec isCut
theorem stops_ : (Tryz.pinned.checked.prog.stops == []) = true := by kernel_rfl
theorem stopKnobs_ : (Tryz.pinned.checked.prog.stopKnobs == []) = true := by kernel_rfl
theorem laid_ : laidOutB Tryz.pinned.checked.prog = true := by kernel_rfl
theorem rowed_ : mapsRowed Tryz.pinned.checked.prog = true := by kernel_rfl
theorem heard_ : Tryz.pinned.checked.prog.stopsHeard = true := by kernel_rfl
theorem plain_ : Tryz.pinned.checked.prog.plainKeys = true := by kernel_rfl
#print axioms mayEnter_
#print axioms plain_
end Go.Proofs.YtpbembafpnknhaaGreat
namespace Go.Proofs.YtpbembafpnknhaaGreat.normOrders
theorem q_inPlace : (Rows.normOrdersRow.inPlace == Tryz.pinned.checked.prog.inPlace 5) = true := by kernel_rfl
theorem q_unfollowed : (Rows.normOrdersRow.unfollowed == Tryz.pinned.checked.prog.unfollowed 5) = true := by kernel_rfl
theorem q_recurses : (Rows.normOrdersRow.recurses == Tryz.pinned.checked.prog.recurses 5) = true := by kernel_rfl
theorem q_named : (Rows.normOrdersRow.named == Tryz.pinned.checked.prog.varsNamed 5) = true := by kernel_rfl
theorem q_veiled : (Rows.normOrdersRow.veiled == (Tryz.f5.params.toList ++ Rows.normOrdersSpec.plain.varTypes Tryz.pinned.checked.prog ++ Tryz.f5.resultTypes.toList).any (Tryz.pinned.checked.prog.veiledRec ·)) = true := by kernel_rfl
theorem facts : joinedFacts Tryz.pinned.checked.prog 5 Tryz.f5 Rows.normOrdersSpec Rows.normOrdersRow = true := by
  unfold joinedFacts
  rw [q_inPlace, q_unfollowed, q_recurses, q_named, q_veiled, stops_, stopKnobs_, laid_, rowed_, plain_, heard_, mayEnter_, lifts_, make_]
  kernel_rfl
#print axioms facts
end Go.Proofs.YtpbembafpnknhaaGreat.normOrders
