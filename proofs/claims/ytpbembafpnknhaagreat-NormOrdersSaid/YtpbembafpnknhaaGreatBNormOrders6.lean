/- Proof texts of one seat, in one file: the walks of functions and the lemmas under them, printed by programs and typed by hand. Put together by wip/bundle.py. -/
import Derived.Test.YtpbembafpnknhaaGreatRows
import Derived.ArgAppend
import Derived.Below
import Derived.BigQuiet
import Derived.ChangeArms
import Derived.ChangeOld
import Derived.ChangeSlices
import Derived.Deep.AppendLies
import Derived.Deep.CutBlock
import Derived.Deep.DeepCutAuto
import Derived.Deep.Draws
import Derived.Deep.LoopGhost
import Derived.Deep.OwnRows
import Derived.Deep.QuietTactic
import Derived.Deep.RegionHeld3
import Derived.Deep.RegionLawGrows
import Derived.Deep.Upon
import Derived.Ground.Names2Prog
import Derived.Ground.SlgfProg
import Derived.Ground.SlgnProg
import Derived.Ground.SlsfProg
import Derived.JoinedOf
import Derived.KernelRfl
import Derived.Laws.BitsLemmas
import Derived.Laws.BytesArg
import Derived.Laws.IdiomCopy
import Derived.Laws.MakeOwn
import Derived.Laws.OwnMore
import Derived.Laws.Rows
import Derived.Laws.Slices
import Derived.Laws.StructEq
import Derived.Lib.AppendStr
import Derived.Lib.ConvBytes
import Derived.Lib.Hide
import Derived.Maps.AppendAt
import Derived.OpenShut
import Derived.OrdersHeld
import Derived.OwnWalk
import Derived.ProofKit
import Derived.RowKit
import Derived.RowKit3
import Derived.Shelf.GgSortFunc.InsertionK
import Derived.Shelf.SlGeneric
import Derived.Shelf.SlSortCmp.NoneTotal
import Derived.Shelf.Slices.In.SortNone
import Derived.Shelf.SlicesE.Clone
import Derived.Shelf.SlicesQ.IndexFunc
import Derived.Shelf.Sort.Plain
import Derived.ShutString
import Derived.SizedLaws
import Derived.Sort.Grow
import Derived.Sort.Walk0
import Derived.StillTailTactics
import Derived.Tactics
import Derived.WalkKit
import Derived.WalkSpells
import Derived.WideLaws
import Derived.Test.YtpbembafpnknhaaGreatBNormOrders0
import Derived.Test.YtpbembafpnknhaaGreatBNormOrders1
import Derived.Test.YtpbembafpnknhaaGreatBNormOrders2
import Derived.Test.YtpbembafpnknhaaGreatBNormOrders3
import Derived.Test.YtpbembafpnknhaaGreatBNormOrders4
import Derived.Test.YtpbembafpnknhaaGreatBNormOrders5
namespace Go.Proofs.YtpbembafpnknhaaGreat.Pr
open Sn
open Go.RowKit Go.Proofs.YtpbembafpnknhaaGreatW.PrintWords Go.Proofs.YtpbembafpnknhaaGreatW.PrintLast Go.Proofs.YtpbembafpnknhaaGreatW.PrintMore
attribute [local go_sem] max2_int min2_int max_two min_two max_three min_three max_four min_four   -- for this text's walks alone
set_option linter.unusedVariables false
set_option linter.unusedSimpArgs false
def slices_SortFunc_CmpSentry.f (_l : List S29) : Option Unit := some ()
def slices_CompactFunc_sentries_1.f (l : List S29) : Option (List S29) := if l.length ≤ 3 then some (compactL eqSe (sortL cmpSe l)) else none
def norm_sentries.l0 : Nat → List (S29) → List (S29) → Int → Int → Option ((List (S29)))
  | 0, _, _, _, _ => none
  | k + 1, x3, x7, x8, x9 => if x9 < x8 then (if 0 ≤ x9 then (if x9 < (x7.length : Int) then ((api_On_174.f ((rd_T29 x7 x9).f0)).bind fun t106 => ((api_Cond_175.f ((rd_T29 x7 x9).f1)).bind fun t109 => ((slices_SortFunc_cmpOn.f t106).bind fun t113 => ((slices_SortFunc_cmpIf.f t109).bind fun t114 => ((api_Cond_178.f t114).bind fun t115 => (if x3.length < 2932031007402 then (norm_sentries.l0 k (x3 ++ [(⟨t113, t115⟩ : S29)]) x7 x8 (wrap64 (x9 + 1))) else (none))))))) else (none)) else (none)) else ((slices_SortFunc_CmpSentry.f x3).bind fun _ => ((slices_CompactFunc_sentries_1.f x3).bind fun t101 => (some t101)))
def norm_sentries.f (k : Nat) (l0 : List (S29)) : Option ((List (S29))) := norm_sentries.l0 k ([] : List (S29)) l0 (l0.length : Int) 0
theorem norm_sentries.mono_l : ∀ k, (∀ y0 y1 y2 y3, LeO (norm_sentries.l0 k y0 y1 y2 y3) (norm_sentries.l0 (k + 1) y0 y1 y2 y3))
  | 0 => fun _ _ _ _ r h => by simp [norm_sentries.l0] at h
  | k + 1 => by
    have ih0 := norm_sentries.mono_l k
    · intro y0 y1 y2 y3
      unfold norm_sentries.l0
      repeat' first
      | (with_reducible exact ih0 _ _ _ _)
      | (with_reducible exact LeO.refl _)
      | (with_reducible exact LeO.none _)
      | (with_reducible refine LeO.ite ?_ ?_)
      | (with_reducible refine LeO.bind ?_ (fun _ => ?_))
      | exact ih0 _ _ _ _
      | exact LeO.none _
      | refine LeO.ite ?_ ?_
      | refine LeO.bind ?_ (fun _ => ?_)
theorem norm_sentries.mono : ∀ a0 k, LeO (norm_sentries.f k a0) (norm_sentries.f (k + 1) a0) := by
  intro a0 k
  have ih0 := norm_sentries.mono_l k
  unfold norm_sentries.f
  repeat' first
      | (with_reducible exact ih0 _ _ _ _)
      | (with_reducible exact LeO.refl _)
      | (with_reducible exact LeO.none _)
      | (with_reducible refine LeO.ite ?_ ?_)
      | (with_reducible refine LeO.bind ?_ (fun _ => ?_))
      | exact ih0 _ _ _ _
      | exact LeO.none _
      | refine LeO.ite ?_ ?_
      | refine LeO.bind ?_ (fun _ => ?_)
def norm_sentries.T5 : Bool × List (List Nat × List Nat) := (true, [([], []), ([0], [0]), ([1], [1]), ([], []), ([3], [3]), ([4, 2], [4]), ([2, 5], [2, 5]), ([], []), ([7, 6, 5, 0, 1, 2, 3, 4, 5, 6, 7], [6, 7])])
def norm_sentries.B5 : List Nat := [0, 1, 3, 0, 8, 31, 63, 0, 255]
theorem norm_sentries.tab5 : rtab .any (opsOf Tryz.f126 5) = norm_sentries.T5 := by kernel_rfl
theorem norm_sentries.bits5 : waitsOk norm_sentries.T5.2 norm_sentries.B5 = true := by kernel_rfl
set_option maxHeartbeats 8000000 in
set_option maxRecDepth 100000 in
theorem norm_sentries.calls (k : Nat) (A0 : Option Addr) (c0 : Nat) (l0 : List (S29)) (r : List (S29)) (w : World) (hr0 : Kd.C k29 w A0 l0.length l0) (hc0 : l0.length ≤ c0) (h : norm_sentries.f k l0 = some r) :
    Calls Tryz.prog 126 #[.slice A0 l0.length c0] w fun e w' => ∃ v0_ : Value, e = .returned (v0_) ∧ Kd.S k29 29 w' w.heap.size (fun _ => True) v0_ r ∧ Below w.heap.size w w' := by
  have hu29 := Tryz.underlying29
  have HR0 := am hr0
  have HC0 := am hc0
  clear hr0 hc0
  have HB := am (Below.refl w.heap.size w)
  have H : (norm_sentries.l0 k ([] : List (S29)) l0 (l0.length : Int) 0) = some r := h
  clear h
  have H' := am H
  clear H
  go_enter Tryz.func126, Tryz.ntmps126
  go_wp2
  go_loopg [3, 9] k (fun kq v3 v9 w' => ∃ (x3_1 : List (S29)) (x9_1 : Int), v9 = .int .i64 x9_1 ∧ Aside0 (norm_sentries.l0 kq x3_1 l0 (l0.length : Int) x9_1 = some r) ∧ Aside0 (kq ≤ k) ∧ Aside0 (Kd.S k29 29 w' w.heap.size (fun _ => True) v3 x3_1) ∧ Aside0 (Below w.heap.size w w'))
  case atStart => exact ⟨(([] : List (S29))), (0), (ze), H', ⟨Nat.le_refl _⟩, ⟨by first | exact Kd.S_nil _ _ _ _ _ | exact Kd.N_nil _ _ _ _ _ | exact Kd.V_nil _ _ _ _ _ | exact Kd.Q_nil _ _ _ _ _ | exact Kd.R_nil _ _ _ _ _⟩, ⟨zb⟩⟩
  case round =>
    clear H'
    try clear c1
    obtain ⟨x3_1, x9_1, rfl, HA, HK1, HO_3, HB⟩ := hrel
    cases gk with
    | zero => exact absurd HA.out (by simp [norm_sentries.l0])
    | succ k1 =>
      have H := HA.out
      clear HA
      simp only [norm_sentries.l0] at H
      by_cases c2 : x9_1 < (l0.length : Int)
      · rw [if_pos c2] at H
        have c2b0 : decide (x9_1 < (l0.length : Int)) = true := decide_eq_true c2
        clear c2
        by_cases c3 : 0 ≤ x9_1
        · rw [if_pos c3] at H
          have c3b0 : decide (0 ≤ x9_1) = true := decide_eq_true c3
          clear c3
          by_cases c4 : x9_1 < (l0.length : Int)
          · rw [if_pos c4] at H
            have c4b0 : decide (x9_1 < (l0.length : Int)) = true := decide_eq_true c4
            clear c4
            replace H := Option.bind_eq_some_iff.mp H
            obtain ⟨t106, A50, H⟩ := H
            replace H : ((api_Cond_175.f ((rd_T29 l0 x9_1).f1)).bind fun t109 => ((slices_SortFunc_cmpOn.f t106).bind fun t113 => ((slices_SortFunc_cmpIf.f t109).bind fun t114 => ((api_Cond_178.f t114).bind fun t115 => (if x3_1.length < 2932031007402 then (norm_sentries.l0 k1 (x3_1 ++ [(⟨t113, t115⟩ : S29)]) l0 (l0.length : Int) (wrap64 (x9_1 + 1))) else (none)))))) = some r := H
            have A5 := am A50
            clear A50
            replace H := Option.bind_eq_some_iff.mp H
            obtain ⟨t109, A60, H⟩ := H
            replace H : ((slices_SortFunc_cmpOn.f t106).bind fun t113 => ((slices_SortFunc_cmpIf.f t109).bind fun t114 => ((api_Cond_178.f t114).bind fun t115 => (if x3_1.length < 2932031007402 then (norm_sentries.l0 k1 (x3_1 ++ [(⟨t113, t115⟩ : S29)]) l0 (l0.length : Int) (wrap64 (x9_1 + 1))) else (none))))) = some r := H
            have A6 := am A60
            clear A60
            replace H := Option.bind_eq_some_iff.mp H
            obtain ⟨t113, A70, H⟩ := H
            replace H : ((slices_SortFunc_cmpIf.f t109).bind fun t114 => ((api_Cond_178.f t114).bind fun t115 => (if x3_1.length < 2932031007402 then (norm_sentries.l0 k1 (x3_1 ++ [(⟨t113, t115⟩ : S29)]) l0 (l0.length : Int) (wrap64 (x9_1 + 1))) else (none)))) = some r := H
            have A7 := am A70
            clear A70
            replace H := Option.bind_eq_some_iff.mp H
            obtain ⟨t114, A80, H⟩ := H
            replace H : ((api_Cond_178.f t114).bind fun t115 => (if x3_1.length < 2932031007402 then (norm_sentries.l0 k1 (x3_1 ++ [(⟨t113, t115⟩ : S29)]) l0 (l0.length : Int) (wrap64 (x9_1 + 1))) else (none))) = some r := H
            have A8 := am A80
            clear A80
            replace H := Option.bind_eq_some_iff.mp H
            obtain ⟨t115, A90, H⟩ := H
            replace H : (if x3_1.length < 2932031007402 then (norm_sentries.l0 k1 (x3_1 ++ [(⟨t113, t115⟩ : S29)]) l0 (l0.length : Int) (wrap64 (x9_1 + 1))) else (none)) = some r := H
            have A9 := am A90
            clear A90
            by_cases c10 : x3_1.length < 2932031007402
            · rw [if_pos c10] at H
              have LMc10 := am c10
              clear c10
              obtain ⟨y118, hy118⟩ : ∃ y_ : List (S29), y_ = (x3_1 ++ [(⟨t113, t115⟩ : S29)]) := ⟨_, rfl⟩
              replace H : (norm_sentries.l0 k1 y118 l0 (l0.length : Int) (wrap64 (x9_1 + 1))) = some r := by first | (rw [hy118]; with_reducible exact H) | (have H2_ := (Option.bind_some _ _).symm.trans H; rw [hy118]; with_reducible exact H2_) | (have H2_ := (Option.bind_some _ _).symm.trans H; with_reducible exact H2_) | with_reducible exact H | (rw [hy118]; exact H) | exact H
              have Ny118 := am hy118
              clear hy118
              have H' := am H
              clear H
              have p104 : 0 ≤ (x9_1 : Int) := of_decide_eq_true (zas)
              have q104 : x9_1 < (l0.length : Int) := of_decide_eq_true (zas)
              obtain ⟨ad104, A104_0, c104_0, A104_1, c104_1, e104, hx104_0, hx104_1, hl104_0, hi104_0, hl104_1, hi104_1⟩ := at_T29 HR0.out x9_1 p104 q104
              cases e104
              replace hx104_0 := ba HB hx104_0
              replace hx104_1 := ba HB hx104_1
              have HR104_0 := am hi104_0
              have HC104_0 := am hl104_0
              clear hi104_0 hl104_0
              have HR104_1 := am hi104_1
              have HC104_1 := am hl104_1
              clear hi104_1 hl104_1
              replace p104 := eq_true p104
              replace q104 := eq_true q104
              try go_wp2_with (first | ((with_reducible refine gd_ 5 ?_); refine bx_ 5 #[.slice none 0 0, .slice none 0 0] 29 ?_; intro gb105 hg w11 hbox hb; replace HO_3 := am (Kd.S_below (Kd.S_elderB (zS HO_3.out) gb105 (Nat.le_of_eq hg.symm)) hb); have BK105 := am (hbox); have GW105 := am (zg : w.heap.size ≤ gb105); have GE105 := am (zg : w.heap.size ≤ gb105); replace HB := am (below_step (zb) hb); clear hb hbox hg; obtain ⟨hcz12_0, hcz12_1, hfz12_0, hfz12_1⟩ := cf2 BK105.out))
              have n0_ : Aside0 (Kd.S k29 29 ((w11.setCell ⟨gb105, 0, none⟩ (.slice A104_0 ((rd_T29 l0 x9_1).f0).length c104_0)).setCell ⟨gb105, 1, none⟩ (.slice A104_1 ((rd_T29 l0 x9_1).f1).length c104_1)) w.heap.size (fun k_ => k_ ≠ gb105) u3 x3_1) := ⟨by refine zS ?_; exact Kd.S_mono (Kd.S_far (p := ⟨gb105, 1, none⟩) (Kd.S_far (p := ⟨gb105, 0, none⟩) (Kd.S_mono HO_3.out (fun k_ hk => (⟨hk, hk.2⟩ : _ ∧ k_ ≠ gb105))) (fun _ hk => hk.2) (.slice A104_0 ((rd_T29 l0 x9_1).f0).length c104_0)) (fun _ hk => hk.2) (.slice A104_1 ((rd_T29 l0 x9_1).f1).length c104_1)) (fun _ hk => hk.1.2)⟩
              have n1_ : Aside0 (((w11.setCell ⟨gb105, 0, none⟩ (.slice A104_0 ((rd_T29 l0 x9_1).f0).length c104_0)).setCell ⟨gb105, 1, none⟩ (.slice A104_1 ((rd_T29 l0 x9_1).f1).length c104_1)).heap[gb105]? = some (.cells #[.slice A104_0 ((rd_T29 l0 x9_1).f0).length c104_0, .slice A104_1 ((rd_T29 l0 x9_1).f1).length c104_1] 29 (0, 0))) := ⟨by refine zl ?_; refine blk_put (cs := #[.slice A104_0 ((rd_T29 l0 x9_1).f0).length c104_0, .slice none 0 0]) ?_ 1 _ rfl; refine zl ?_; refine blk_put (cs := #[.slice none 0 0, .slice none 0 0]) ?_ 0 _ rfl; refine zl ?_; exact BK105.out⟩
              have n2_ : Aside0 (Below w.heap.size w ((w11.setCell ⟨gb105, 0, none⟩ (.slice A104_0 ((rd_T29 l0 x9_1).f0).length c104_0)).setCell ⟨gb105, 1, none⟩ (.slice A104_1 ((rd_T29 l0 x9_1).f1).length c104_1))) := ⟨zb⟩
              (try clear HO_3)
              (try clear BK105)
              (try clear HB)
              generalize ((w11.setCell ⟨gb105, 0, none⟩ (.slice A104_0 ((rd_T29 l0 x9_1).f0).length c104_0)).setCell ⟨gb105, 1, none⟩ (.slice A104_1 ((rd_T29 l0 x9_1).f1).length c104_1)) = w13 at n0_ n1_ n2_ ⊢
              have HO_3 := n0_
              have BK105 := n1_
              have HB := n2_
              clear n0_ n1_ n2_
              replace HO_3 := am (Kd.S_drew HO_3.out)
              replace BK105 := am (blk_drew BK105.out)
              replace HB := am (below_drew1 HB.out)
              refine start_ (n := 9) (S := fun w' => w'.cell? ⟨gb105, 0, none⟩ = some (.slice A104_0 ((rd_T29 l0 x9_1).f0).length c104_0) ∧ w'.cell? ⟨gb105, 1, none⟩ = some (.slice A104_1 ((rd_T29 l0 x9_1).f1).length c104_1)) (ds := []) #[false, false, false, false, false, false, false, false, false] (by kernel_rfl) rfl rfl ⟨(blk_cell BK105.out 0).trans rfl, (blk_cell BK105.out 1).trans rfl⟩ (fun hHeld => ?_); refine with_tabW norm_sentries.tab5 norm_sentries.bits5 (fun HT_ HW_ => ?_)
              generalize w13.drew = w14 at HO_3 BK105 HB hHeld ⊢
              refine pz_ 0 13 9 1 ?_
              refine pz_ 3 16 9 9 ?_
              refine tz_ 1 14 9 11 ?_
              refine tz_ 4 17 9 27 ?_
              refine join_ (σ := Value × Value × Nat) 1 #[true, true, true, true, true, true, true, true, false] (fun s_ => [(15, s_.1), (18, s_.2.1), (6, .pointer (some ⟨s_.2.2, 0, none⟩)), (19, .agg #[s_.1, s_.2.1])]) (fun s_ w' => (w'.cell? ⟨gb105, 0, none⟩ = some (.slice A104_0 ((rd_T29 l0 x9_1).f0).length c104_0) ∧ w'.cell? ⟨gb105, 1, none⟩ = some (.slice A104_1 ((rd_T29 l0 x9_1).f1).length c104_1)) ∧ (Kd.R k78 78 w' w.heap.size (fun _ => True) s_.1 t106) ∧ (Kd.R k93 93 w' w.heap.size (fun _ => True) s_.2.1 t109) ∧ (Kd.S k29 29 w' w.heap.size (fun k_ => some k_ ≠ (s_.1 : Value).ownBlock ∧ some k_ ≠ (s_.2.1 : Value).ownBlock ∧ k_ ≠ gb105 ∧ k_ ≠ s_.2.2) u3 x3_1) ∧ (w'.heap[gb105]? = some (.cells #[.slice A104_0 ((rd_T29 l0 x9_1).f0).length c104_0, .slice A104_1 ((rd_T29 l0 x9_1).f1).length c104_1] 29 (0, 0))) ∧ (w'.heap[s_.2.2]? = some (.cells #[.slice none 0 0, .slice none 0 0] 29 (0, 0))) ∧ (w.heap.size ≤ s_.2.2) ∧ (w.heap.size ≤ s_.2.2) ∧ (gb105 ≠ s_.2.2) ∧ (s_.2.2 ≠ gb105) ∧ (Below w.heap.size w w')) ?_ ?_
              rotate_left
              · intro hCont
                refine two_ (i := 2) (j := 7) (Ni := some 15) (Nj := some 6) #[true, true, true, true, true, false, false, false, false] #[true, true, false, true, true, false, false, true, false] rfl rfl rfl rfl (two_of HT_.out (by kernel_rfl)) (by decide) (by decide) (fun K hK => ?_) (fun K hK => ?_)
                · skip
                  refine goes_ Tryz.func174 (by kernel_rfl) rfl #[.slice A104_0 ((rd_T29 l0 x9_1).f0).length c104_0] (by rfl) rfl rfl (za) ?_
                  with_reducible refine (api_On_174.calls _ _ ((rd_T29 l0 x9_1).f0) t106 _ ?side1 ?side2 A5.out).mono ?_
                  (case side1 => exact zc (Kd.C_below HR104_0.out HB.out))
                  (case side2 => exact HC104_0.out)
                  rintro e w15 ⟨v107, rfl, ho0, hb⟩
                  refine ⟨_, rfl, ?_⟩
                  replace HO_3 := am (Kd.S_elder' (zS HO_3.out) (Kd.R_base ho0) hb)
                  have HO108 := am (Kd.R_lower ho0 (below_size (zb)))
                  replace BK105 := am (zw BK105.out hb)
                  replace HB := am (below_step (zb) hb)
                  (try clear hb)
                  (try clear hb2)
                  (try clear hk)
                  (try clear hi)
                  (try clear ho0)
                  refine hK.out _ _ ⟨(blk_cell BK105.out 0).trans rfl, (blk_cell BK105.out 1).trans rfl⟩ (fun hHeld => ?_)
                  clear hK K
                  refine nz_ 15 ?_
                  refine two_ (i := 5) (j := 7) (Ni := some 18) (Nj := some 6) #[true, true, true, true, true, true, false, false, false] #[true, true, true, true, true, false, false, true, false] rfl rfl rfl rfl (two_of HT_.out (by kernel_rfl)) (by decide) (by decide) (fun K hK => ?_) (fun K hK => ?_)
                  · skip
                    refine goes_ Tryz.func175 (by kernel_rfl) rfl #[.slice A104_1 ((rd_T29 l0 x9_1).f1).length c104_1] (by rfl) rfl rfl (za) ?_
                    with_reducible refine (api_Cond_175.calls _ _ ((rd_T29 l0 x9_1).f1) t109 _ ?side1 ?side2 A6.out).mono ?_
                    (case side1 => exact zc (Kd.C_below HR104_1.out HB.out))
                    (case side2 => exact HC104_1.out)
                    rintro e w16 ⟨v110, rfl, ho0, hb⟩
                    refine ⟨_, rfl, ?_⟩
                    replace HO_3 := am (Kd.S_elder' (zS HO_3.out) (Kd.R_base ho0) hb)
                    replace HO108 := am (Kd.R_below (zR HO108.out) hb)
                    have HO111 := am (Kd.R_lower ho0 (below_size (zb)))
                    replace BK105 := am (zw BK105.out hb)
                    replace HB := am (below_step (zb) hb)
                    (try clear hb)
                    (try clear hb2)
                    (try clear hk)
                    (try clear hi)
                    (try clear ho0)
                    obtain ⟨Ao17, co17, eo17⟩ := Kd.R_slice HO111.out
                    (first | subst eo17 | (injection eo17 with f1_ f2_ f3_; have f4_ := f1_.symm; have f5_ := f3_.symm; clear f1_ f2_ f3_; subst f4_; subst f5_))
                    obtain ⟨Ao18, co18, eo18⟩ := Kd.R_slice HO108.out
                    (first | subst eo18 | (injection eo18 with f1_ f2_ f3_; have f4_ := f1_.symm; have f5_ := f3_.symm; clear f1_ f2_ f3_; subst f4_; subst f5_))
                    refine hK.out _ _ ⟨(blk_cell BK105.out 0).trans rfl, (blk_cell BK105.out 1).trans rfl⟩ (fun hHeld => ?_)
                    clear hK K
                    refine nz_ 18 ?_
                    refine pz_ 6 19 9 127 ?_
                    refine one_ (i := 7) (N := some 6) #[true, true, true, true, true, true, true, true, false] rfl rfl (one_of HT_.out (by kernel_rfl)) (by decide) (fun K hK => ?_)
                    refine box_step ?hg (N := 6) ?hd (cs := #[.slice none 0 0, .slice none 0 0]) (t := 29) ?hr ?_; (case hd => rfl); (case hg => rfl); (case hr => first | (go_simp; done) | (go_simp; rfl))
                    intro gb112 hg w19 hbox hb
                    replace HO_3 := am (Kd.S_below (Kd.S_elderB (zS HO_3.out) gb112 (Nat.le_of_eq hg.symm)) hb)
                    replace HO108 := am (Kd.R_below (zR HO108.out) hb)
                    replace HO111 := am (Kd.R_below (zR HO111.out) hb)
                    have BK112 := am (hbox)
                    have GW112 := am (zg : w.heap.size ≤ gb112)
                    have GE112 := am (zg : w.heap.size ≤ gb112)
                    replace HB := am (below_step (zb) hb)
                    have NB105_112 := am ((zn BK105.out : gb105 ≠ gb112))
                    have NB112_105 := am ((zm BK105.out : gb112 ≠ gb105))
                    replace BK105 := am (zw BK105.out hb)
                    clear hb hbox hg
                    refine hK.out _ _ ⟨(blk_cell BK105.out 0).trans rfl, (blk_cell BK105.out 1).trans rfl⟩ (fun hHeld => ?_)
                    clear hK K
                    refine nz_ 6 ?_
                    exact norm_ (by simp only [putAll, Act.put, List.setIfInBounds_toArray, List.set_cons_zero, List.set_cons_succ]) (hCont (.slice Ao18 t106.length co18, .slice Ao17 t109.length co17, gb112) _ ⟨hHeld, (zR HO108.out), (zR HO111.out), (by refine zS ?_; exact Kd.S_mono HO_3.out (fun _ hk => ⟨hk.1.1.2, ⟨hk.1.2, ⟨hk.1.1.1, hk.2⟩⟩⟩)), (zl BK105.out), (zl BK112.out), GW112.out, GE112.out, NB105_112.out, NB112_105.out, (zb)⟩)
                  · skip
                    refine box_step ?hg (N := 6) ?hd (cs := #[.slice none 0 0, .slice none 0 0]) (t := 29) ?hr ?_; (case hd => rfl); (case hg => rfl); (case hr => first | (go_simp; done) | (go_simp; rfl))
                    intro gb112 hg w16 hbox hb
                    replace HO_3 := am (Kd.S_below (Kd.S_elderB (zS HO_3.out) gb112 (Nat.le_of_eq hg.symm)) hb)
                    replace HO108 := am (Kd.R_below (zR HO108.out) hb)
                    have BK112 := am (hbox)
                    have GW112 := am (zg : w.heap.size ≤ gb112)
                    have GE112 := am (zg : w.heap.size ≤ gb112)
                    replace HB := am (below_step (zb) hb)
                    have NB105_112 := am ((zn BK105.out : gb105 ≠ gb112))
                    have NB112_105 := am ((zm BK105.out : gb112 ≠ gb105))
                    replace BK105 := am (zw BK105.out hb)
                    clear hb hbox hg
                    refine hK.out _ _ ⟨(blk_cell BK105.out 0).trans rfl, (blk_cell BK105.out 1).trans rfl⟩ (fun hHeld => ?_)
                    clear hK K
                    refine nz_ 6 ?_
                    refine one_ (i := 5) (N := some 18) #[true, true, true, true, true, true, false, true, false] rfl rfl (one_of HT_.out (by kernel_rfl)) (by decide) (fun K hK => ?_)
                    refine goes_ Tryz.func175 (by kernel_rfl) rfl #[.slice A104_1 ((rd_T29 l0 x9_1).f1).length c104_1] (by rfl) rfl rfl (za) ?_
                    with_reducible refine (api_Cond_175.calls _ _ ((rd_T29 l0 x9_1).f1) t109 _ ?side1 ?side2 A6.out).mono ?_
                    (case side1 => exact zc (Kd.C_below HR104_1.out HB.out))
                    (case side2 => exact HC104_1.out)
                    rintro e w17 ⟨v110, rfl, ho0, hb⟩
                    refine ⟨_, rfl, ?_⟩
                    replace HO_3 := am (Kd.S_elder' (zS HO_3.out) (Kd.R_base ho0) hb)
                    replace HO108 := am (Kd.R_below (zR HO108.out) hb)
                    have HO111 := am (Kd.R_lower ho0 (below_size (zb)))
                    replace BK105 := am (zw BK105.out hb)
                    replace BK112 := am (zw BK112.out hb)
                    replace HB := am (below_step (zb) hb)
                    (try clear hb)
                    (try clear hb2)
                    (try clear hk)
                    (try clear hi)
                    (try clear ho0)
                    obtain ⟨Ao18, co18, eo18⟩ := Kd.R_slice HO111.out
                    (first | subst eo18 | (injection eo18 with f1_ f2_ f3_; have f4_ := f1_.symm; have f5_ := f3_.symm; clear f1_ f2_ f3_; subst f4_; subst f5_))
                    obtain ⟨Ao19, co19, eo19⟩ := Kd.R_slice HO108.out
                    (first | subst eo19 | (injection eo19 with f1_ f2_ f3_; have f4_ := f1_.symm; have f5_ := f3_.symm; clear f1_ f2_ f3_; subst f4_; subst f5_))
                    refine hK.out _ _ ⟨(blk_cell BK105.out 0).trans rfl, (blk_cell BK105.out 1).trans rfl⟩ (fun hHeld => ?_)
                    clear hK K
                    refine nz_ 18 ?_
                    refine pz_ 6 19 9 255 ?_
                    exact norm_ (by simp only [putAll, Act.put, List.setIfInBounds_toArray, List.set_cons_zero, List.set_cons_succ]) (hCont (.slice Ao19 t106.length co19, .slice Ao18 t109.length co18, gb112) _ ⟨hHeld, (zR HO108.out), (zR HO111.out), (by refine zS ?_; exact Kd.S_mono HO_3.out (fun _ hk => ⟨hk.1.1.2, ⟨hk.2, ⟨hk.1.1.1, hk.1.2⟩⟩⟩)), (zl BK105.out), (zl BK112.out), GW112.out, GE112.out, NB105_112.out, NB112_105.out, (zb)⟩)
                · skip
                  refine box_step ?hg (N := 6) ?hd (cs := #[.slice none 0 0, .slice none 0 0]) (t := 29) ?hr ?_; (case hd => rfl); (case hg => rfl); (case hr => first | (go_simp; done) | (go_simp; rfl))
                  intro gb112 hg w15 hbox hb
                  replace HO_3 := am (Kd.S_below (Kd.S_elderB (zS HO_3.out) gb112 (Nat.le_of_eq hg.symm)) hb)
                  have BK112 := am (hbox)
                  have GW112 := am (zg : w.heap.size ≤ gb112)
                  have GE112 := am (zg : w.heap.size ≤ gb112)
                  replace HB := am (below_step (zb) hb)
                  have NB105_112 := am ((zn BK105.out : gb105 ≠ gb112))
                  have NB112_105 := am ((zm BK105.out : gb112 ≠ gb105))
                  replace BK105 := am (zw BK105.out hb)
                  clear hb hbox hg
                  refine hK.out _ _ ⟨(blk_cell BK105.out 0).trans rfl, (blk_cell BK105.out 1).trans rfl⟩ (fun hHeld => ?_)
                  clear hK K
                  refine nz_ 6 ?_
                  refine one_ (i := 2) (N := some 15) #[true, true, true, true, true, false, false, true, false] rfl rfl (one_of HT_.out (by kernel_rfl)) (by decide) (fun K hK => ?_)
                  refine goes_ Tryz.func174 (by kernel_rfl) rfl #[.slice A104_0 ((rd_T29 l0 x9_1).f0).length c104_0] (by rfl) rfl rfl (za) ?_
                  with_reducible refine (api_On_174.calls _ _ ((rd_T29 l0 x9_1).f0) t106 _ ?side1 ?side2 A5.out).mono ?_
                  (case side1 => exact zc (Kd.C_below HR104_0.out HB.out))
                  (case side2 => exact HC104_0.out)
                  rintro e w16 ⟨v107, rfl, ho0, hb⟩
                  refine ⟨_, rfl, ?_⟩
                  replace HO_3 := am (Kd.S_elder' (zS HO_3.out) (Kd.R_base ho0) hb)
                  have HO108 := am (Kd.R_lower ho0 (below_size (zb)))
                  replace BK105 := am (zw BK105.out hb)
                  replace BK112 := am (zw BK112.out hb)
                  replace HB := am (below_step (zb) hb)
                  (try clear hb)
                  (try clear hb2)
                  (try clear hk)
                  (try clear hi)
                  (try clear ho0)
                  refine hK.out _ _ ⟨(blk_cell BK105.out 0).trans rfl, (blk_cell BK105.out 1).trans rfl⟩ (fun hHeld => ?_)
                  clear hK K
                  refine nz_ 15 ?_
                  refine one_ (i := 5) (N := some 18) #[true, true, true, true, true, true, false, true, false] rfl rfl (one_of HT_.out (by kernel_rfl)) (by decide) (fun K hK => ?_)
                  refine goes_ Tryz.func175 (by kernel_rfl) rfl #[.slice A104_1 ((rd_T29 l0 x9_1).f1).length c104_1] (by rfl) rfl rfl (za) ?_
                  with_reducible refine (api_Cond_175.calls _ _ ((rd_T29 l0 x9_1).f1) t109 _ ?side1 ?side2 A6.out).mono ?_
                  (case side1 => exact zc (Kd.C_below HR104_1.out HB.out))
                  (case side2 => exact HC104_1.out)
                  rintro e w17 ⟨v110, rfl, ho0, hb⟩
                  refine ⟨_, rfl, ?_⟩
                  replace HO_3 := am (Kd.S_elder' (zS HO_3.out) (Kd.R_base ho0) hb)
                  replace HO108 := am (Kd.R_below (zR HO108.out) hb)
                  have HO111 := am (Kd.R_lower ho0 (below_size (zb)))
                  replace BK105 := am (zw BK105.out hb)
                  replace BK112 := am (zw BK112.out hb)
                  replace HB := am (below_step (zb) hb)
                  (try clear hb)
                  (try clear hb2)
                  (try clear hk)
                  (try clear hi)
                  (try clear ho0)
                  obtain ⟨Ao18, co18, eo18⟩ := Kd.R_slice HO111.out
                  (first | subst eo18 | (injection eo18 with f1_ f2_ f3_; have f4_ := f1_.symm; have f5_ := f3_.symm; clear f1_ f2_ f3_; subst f4_; subst f5_))
                  obtain ⟨Ao19, co19, eo19⟩ := Kd.R_slice HO108.out
                  (first | subst eo19 | (injection eo19 with f1_ f2_ f3_; have f4_ := f1_.symm; have f5_ := f3_.symm; clear f1_ f2_ f3_; subst f4_; subst f5_))
                  refine hK.out _ _ ⟨(blk_cell BK105.out 0).trans rfl, (blk_cell BK105.out 1).trans rfl⟩ (fun hHeld => ?_)
                  clear hK K
                  refine nz_ 18 ?_
                  refine pz_ 6 19 9 255 ?_
                  exact norm_ (by simp only [putAll, Act.put, List.setIfInBounds_toArray, List.set_cons_zero, List.set_cons_succ]) (hCont (.slice Ao19 t106.length co19, .slice Ao18 t109.length co18, gb112) _ ⟨hHeld, (zR HO108.out), (zR HO111.out), (by refine zS ?_; exact Kd.S_mono HO_3.out (fun _ hk => ⟨hk.1.2, ⟨hk.2, ⟨hk.1.1.1, hk.1.1.2⟩⟩⟩)), (zl BK105.out), (zl BK112.out), GW112.out, GE112.out, NB105_112.out, NB112_105.out, (zb)⟩)
              rintro ⟨v107, v110, gb112⟩ w20 ⟨hS_, h0_, h1_, h2_, h3_, h4_, h5_, h6_, h7_, h8_, h9_⟩
              have n0_ : Aside0 (Kd.R k78 78 w20 w.heap.size (fun _ => True) v107 t106) := ⟨h0_⟩
              have n1_ : Aside0 (Kd.R k93 93 w20 w.heap.size (fun _ => True) v110 t109) := ⟨h1_⟩
              have n2_ : Aside0 (Kd.S k29 29 w20 w.heap.size (fun k_ => some k_ ≠ (v107 : Value).ownBlock ∧ some k_ ≠ (v110 : Value).ownBlock ∧ k_ ≠ gb105 ∧ k_ ≠ gb112) u3 x3_1) := ⟨h2_⟩
              have n3_ : Aside0 (w20.heap[gb105]? = some (.cells #[.slice A104_0 ((rd_T29 l0 x9_1).f0).length c104_0, .slice A104_1 ((rd_T29 l0 x9_1).f1).length c104_1] 29 (0, 0))) := ⟨h3_⟩
              have n4_ : Aside0 (w20.heap[gb112]? = some (.cells #[.slice none 0 0, .slice none 0 0] 29 (0, 0))) := ⟨h4_⟩
              have n5_ : Aside0 (w.heap.size ≤ gb112) := ⟨h5_⟩
              have n6_ : Aside0 (w.heap.size ≤ gb112) := ⟨h6_⟩
              have n7_ : Aside0 (gb105 ≠ gb112) := ⟨h7_⟩
              have n8_ : Aside0 (gb112 ≠ gb105) := ⟨h8_⟩
              have n9_ : Aside0 (Below w.heap.size w w20) := ⟨h9_⟩
              clear HO_3
              clear BK105
              clear HB
              clear h0_ h1_ h2_ h3_ h4_ h5_ h6_ h7_ h8_ h9_
              have HO108 := n0_
              have HO111 := n1_
              have HO_3 := n2_
              have BK105 := n3_
              have BK112 := n4_
              have GW112 := n5_
              have GE112 := n6_
              have NB105_112 := n7_
              have NB112_105 := n8_
              have HB := n9_
              clear n0_ n1_ n2_ n3_ n4_ n5_ n6_ n7_ n8_ n9_
              have hHeld : w20.cell? ⟨gb105, 0, none⟩ = some (.slice A104_0 ((rd_T29 l0 x9_1).f0).length c104_0) ∧ w20.cell? ⟨gb105, 1, none⟩ = some (.slice A104_1 ((rd_T29 l0 x9_1).f1).length c104_1) := hS_
              obtain ⟨Ao21, co21, eo21⟩ := Kd.R_slice HO111.out
              (first | subst eo21 | (injection eo21 with f1_ f2_ f3_; have f4_ := f1_.symm; have f5_ := f3_.symm; clear f1_ f2_ f3_; subst f4_; subst f5_))
              obtain ⟨Ao22, co22, eo22⟩ := Kd.R_slice HO108.out
              (first | subst eo22 | (injection eo22 with f1_ f2_ f3_; have f4_ := f1_.symm; have f5_ := f3_.symm; clear f1_ f2_ f3_; subst f4_; subst f5_))
              refine norm_ (a' := ?_) ?_ ?_
              rotate_left
              · simp only [putAll, Act.put, List.setIfInBounds_toArray, List.set_cons_zero, List.set_cons_succ]
                rfl
              refine one_ (i := 8) (N := none) #[true, true, true, true, true, true, true, true, true] rfl rfl (one_of HT_.out (by kernel_rfl)) (by decide) (fun K hK => ?_)
              have hs23 : w20.cell? ⟨gb112, 0, none⟩ = some (.slice none 0 0) := (blk_cell BK112.out 0).trans rfl
              have hfs23 := blk_frozen BK112.out 0
              have hns23_0 := NB105_112.out
              have hms23_0 := NB112_105.out
              have hs24 : w20.cell? ⟨gb112, 1, none⟩ = some (.slice none 0 0) := (blk_cell BK112.out 1).trans rfl
              have hfs24 := blk_frozen BK112.out 1
              have hns24_0 := NB105_112.out
              have hms24_0 := NB112_105.out
              refine skip_ (w1 := ?_) (by rfl) rfl ?_ ?_
              rotate_left
              · go_simp
                rfl
              refine hK.out _ _ ⟨((cell_far (p := ⟨gb112, _, none⟩) NB105_112.out _).trans (((cell_far (p := ⟨gb112, _, none⟩) NB105_112.out _).trans (hHeld.1)))), ((cell_far (p := ⟨gb112, _, none⟩) NB105_112.out _).trans (((cell_far (p := ⟨gb112, _, none⟩) NB105_112.out _).trans (hHeld.2))))⟩ (fun hHeld => ?_)
              clear hK K
              refine done_ (done_of HT_.out (by kernel_rfl)) ?_
              have n0_ : Aside0 (Kd.S k29 29 ((w20.setCell ⟨gb112, 0, none⟩ (.slice Ao22 t106.length co22)).setCell ⟨gb112, 1, none⟩ (.slice Ao21 t109.length co21)) w.heap.size (fun k_ => some k_ ≠ (.slice Ao22 t106.length co22 : Value).ownBlock ∧ some k_ ≠ (.slice Ao21 t109.length co21 : Value).ownBlock ∧ k_ ≠ gb105 ∧ k_ ≠ gb112) u3 x3_1) := ⟨by refine zS ?_; exact Kd.S_mono (Kd.S_far (p := ⟨gb112, 1, none⟩) (Kd.S_far (p := ⟨gb112, 0, none⟩) (Kd.S_mono HO_3.out (fun k_ hk => (⟨hk, hk.2.2.2⟩ : _ ∧ k_ ≠ gb112))) (fun _ hk => hk.2) (.slice Ao22 t106.length co22)) (fun _ hk => hk.2) (.slice Ao21 t109.length co21)) (fun _ hk => ⟨hk.1.1, ⟨hk.1.2.1, ⟨hk.1.2.2.1, hk.1.2.2.2⟩⟩⟩)⟩
              have n1_ : Aside0 (Kd.R k78 78 ((w20.setCell ⟨gb112, 0, none⟩ (.slice Ao22 t106.length co22)).setCell ⟨gb112, 1, none⟩ (.slice Ao21 t109.length co21)) w.heap.size (fun _ => True) (.slice Ao22 t106.length co22) t106) := ⟨by refine zR ?_; exact Kd.R_mono (Kd.R_far (p := ⟨gb112, 1, none⟩) (Kd.R_far (p := ⟨gb112, 0, none⟩) (Kd.R_types HO108.out BK112.out (by decide)) (fun _ hk => hk.2) (.slice Ao22 t106.length co22)) (fun _ hk => hk.2) (.slice Ao21 t109.length co21)) (fun _ hk => trivial)⟩
              have n2_ : Aside0 (Kd.R k93 93 ((w20.setCell ⟨gb112, 0, none⟩ (.slice Ao22 t106.length co22)).setCell ⟨gb112, 1, none⟩ (.slice Ao21 t109.length co21)) w.heap.size (fun _ => True) (.slice Ao21 t109.length co21) t109) := ⟨by refine zR ?_; exact Kd.R_mono (Kd.R_far (p := ⟨gb112, 1, none⟩) (Kd.R_far (p := ⟨gb112, 0, none⟩) (Kd.R_types HO111.out BK112.out (by decide)) (fun _ hk => hk.2) (.slice Ao22 t106.length co22)) (fun _ hk => hk.2) (.slice Ao21 t109.length co21)) (fun _ hk => trivial)⟩
              have n3_ : Aside0 (((w20.setCell ⟨gb112, 0, none⟩ (.slice Ao22 t106.length co22)).setCell ⟨gb112, 1, none⟩ (.slice Ao21 t109.length co21)).heap[gb105]? = some (.cells #[.slice A104_0 ((rd_T29 l0 x9_1).f0).length c104_0, .slice A104_1 ((rd_T29 l0 x9_1).f1).length c104_1] 29 (0, 0))) := ⟨by refine zl ?_; refine blk_far ?_ NB105_112.out _; refine zl ?_; refine blk_far ?_ NB105_112.out _; refine zl ?_; exact BK105.out⟩
              have n4_ : Aside0 (((w20.setCell ⟨gb112, 0, none⟩ (.slice Ao22 t106.length co22)).setCell ⟨gb112, 1, none⟩ (.slice Ao21 t109.length co21)).heap[gb112]? = some (.cells #[.slice Ao22 t106.length co22, .slice Ao21 t109.length co21] 29 (0, 0))) := ⟨by refine zl ?_; refine blk_put (cs := #[.slice Ao22 t106.length co22, .slice none 0 0]) ?_ 1 _ rfl; refine zl ?_; refine blk_put (cs := #[.slice none 0 0, .slice none 0 0]) ?_ 0 _ rfl; refine zl ?_; exact BK112.out⟩
              have n5_ : Aside0 (Below w.heap.size w ((w20.setCell ⟨gb112, 0, none⟩ (.slice Ao22 t106.length co22)).setCell ⟨gb112, 1, none⟩ (.slice Ao21 t109.length co21))) := ⟨zb⟩
              (try clear HO_3)
              (try clear HO108)
              (try clear HO111)
              (try clear BK105)
              (try clear BK112)
              (try clear HB)
              generalize ((w20.setCell ⟨gb112, 0, none⟩ (.slice Ao22 t106.length co22)).setCell ⟨gb112, 1, none⟩ (.slice Ao21 t109.length co21)) = w25 at n0_ n1_ n2_ n3_ n4_ n5_ ⊢
              have HO_3 := n0_
              have HO108 := n1_
              have HO111 := n2_
              have BK105 := n3_
              have BK112 := n4_
              have HB := n5_
              clear n0_ n1_ n2_ n3_ n4_ n5_
              have hnb26 := NB112_105.out
              have hnc26 := NB105_112.out
              obtain ⟨hcz27_0, hcz27_1, hfz27_0, hfz27_1⟩ := cf2 BK112.out
              try go_wp2_with (first | ((with_reducible refine gc_ 176 ?_); refine goesL_ (some 22) rfl rfl Tryz.func176 (by kernel_rfl) rfl #[.slice Ao22 t106.length co22, (.func (.func 66) #[] #[])] rfl (za) ?_; (with_reducible refine (slices_SortFunc_cmpOn.calls (fun k_ => some k_ = (.slice Ao22 t106.length co22 : Value).ownBlock) (.slice Ao22 t106.length co22) t106 t113 w _ ?side1 ?side2 A7.out).mono ?_); (case side1 => repeat (first | (with_reducible first | exact HB.out | apply below_alloc | apply pw_below_drewN | apply below_drew1 | refine below_set ?_ GE105.out | refine below_set ?_ GE112.out) | exact HB.out)); (case side2 => exact Kd.R_tight rfl HO108.out); rintro e w28 ⟨rfl, hy0, hb, hkp⟩; refine ⟨_, rfl, ?_⟩; replace HO_3 := am (Kd.S_mono (ok' := fun k_ => some k_ ≠ (.slice Ao22 t106.length co22 : Value).ownBlock ∧ some k_ ≠ (.slice Ao21 t109.length co21 : Value).ownBlock ∧ k_ ≠ gb105 ∧ k_ ≠ gb112) (Kd.S_keptB (HO_3.out) hkp (fun k_ hk_ hs_ => (hk_.1) hs_)) (fun k_ hk_ => ⟨hk_.1.1, hk_.1.2.1, hk_.1.2.2.1, hk_.1.2.2.2⟩)); replace BK105 := am (blk_kept (zl BK105.out) hkp (fun hs_ => (fun e_ => (Kd.R_ne HO108.out BK105.out (by decide)) e_) hs_)); replace HO111 := am (Kd.R_mono (ok' := fun k_ => True) (Kd.R_keptB ((Kd.R_apart' HO111.out (Kd.R_typed HO108.out) (by decide))) hkp (fun k_ hk_ hs_ => (hk_.2) hs_)) (fun k_ hk_ => trivial)); replace BK112 := am (blk_kept (zl BK112.out) hkp (fun hs_ => (fun e_ => (Kd.R_ne HO108.out BK112.out (by decide)) e_) hs_)); replace HO108 := am (Kd.R_reok rfl hy0 (fun k_ e_ => HO108.out.1 k_ e_)); replace HB := am (hb); (try clear hb); (try clear hkp); (try clear hy0); obtain ⟨hcz29_0, hcz29_1, hfz29_0, hfz29_1⟩ := cf2 BK112.out) | ((with_reducible refine gc_ 177 ?_); refine goesL_ (some 25) rfl rfl Tryz.func177 (by kernel_rfl) rfl #[.slice Ao21 t109.length co21, (.func (.func 68) #[] #[])] rfl (za) ?_; (with_reducible refine (slices_SortFunc_cmpIf.calls (fun k_ => some k_ = (.slice Ao21 t109.length co21 : Value).ownBlock) (.slice Ao21 t109.length co21) t109 t114 w _ ?side1 ?side2 A8.out).mono ?_); (case side1 => repeat (first | (with_reducible first | exact HB.out | apply below_alloc | apply pw_below_drewN | apply below_drew1 | refine below_set ?_ GE105.out | refine below_set ?_ GE112.out) | exact HB.out)); (case side2 => exact Kd.R_tight rfl HO111.out); rintro e w30 ⟨rfl, hy0, hb, hkp⟩; refine ⟨_, rfl, ?_⟩; replace HO_3 := am (Kd.S_mono (ok' := fun k_ => some k_ ≠ (.slice Ao22 t106.length co22 : Value).ownBlock ∧ some k_ ≠ (.slice Ao21 t109.length co21 : Value).ownBlock ∧ k_ ≠ gb105 ∧ k_ ≠ gb112) (Kd.S_keptB (HO_3.out) hkp (fun k_ hk_ hs_ => (hk_.2.1) hs_)) (fun k_ hk_ => ⟨hk_.1.1, hk_.1.2.1, hk_.1.2.2.1, hk_.1.2.2.2⟩)); replace BK105 := am (blk_kept (zl BK105.out) hkp (fun hs_ => (fun e_ => (Kd.R_ne HO111.out BK105.out (by decide)) e_) hs_)); replace HO108 := am (Kd.R_mono (ok' := fun k_ => True) (Kd.R_keptB ((Kd.R_apart' HO108.out (Kd.R_typed HO111.out) (by decide))) hkp (fun k_ hk_ hs_ => (hk_.2) hs_)) (fun k_ hk_ => trivial)); replace BK112 := am (blk_kept (zl BK112.out) hkp (fun hs_ => (fun e_ => (Kd.R_ne HO111.out BK112.out (by decide)) e_) hs_)); replace HO111 := am (Kd.R_reok rfl hy0 (fun k_ e_ => HO111.out.1 k_ e_)); replace HB := am (hb); (try clear hb); (try clear hkp); (try clear hy0); obtain ⟨hcz31_0, hcz31_1, hfz31_0, hfz31_1⟩ := cf2 BK112.out) | ((with_reducible refine gc_ 178 ?_); refine goesL_ (some 28) rfl rfl Tryz.func178 (by kernel_rfl) rfl #[.slice Ao21 t109.length co21] rfl (za) ?_; (with_reducible refine (api_Cond_178.calls (fun k_ => some k_ = (.slice Ao21 t109.length co21 : Value).ownBlock) (.slice Ao21 t109.length co21) t114 t115 w _ ?side1 ?side2 A9.out).mono ?_); (case side1 => repeat (first | (with_reducible first | exact HB.out | apply below_alloc | apply pw_below_drewN | apply below_drew1 | refine below_set ?_ GE105.out | refine below_set ?_ GE112.out) | exact HB.out)); (case side2 => exact Kd.R_tight rfl HO111.out); rintro e w32 ⟨v116, rfl, ho0, hb, hkp⟩; refine ⟨_, rfl, ?_⟩; replace HO_3 := am (Kd.S_mono (ok' := fun k_ => some k_ ≠ (.slice Ao22 t106.length co22 : Value).ownBlock ∧ k_ ≠ gb105 ∧ k_ ≠ gb112 ∧ some k_ ≠ (v116 : Value).ownBlock) (Kd.S_keptB (HO_3.out) hkp (fun k_ hk_ hs_ => (hk_.2.1) hs_)) (fun k_ hk_ => ⟨hk_.1.1, hk_.1.2.2.1, hk_.1.2.2.2, fun e_ => Or.elim (ho0.1 k_ e_.symm) (fun hs_ => hk_.2.1 hs_) (fun hn_ => Nat.not_le.2 hk_.2.2 hn_)⟩)); replace BK105 := am (blk_kept (zl BK105.out) hkp (fun hs_ => (fun e_ => (Kd.R_ne HO111.out BK105.out (by decide)) e_) hs_)); replace HO108 := am (Kd.R_mono (ok' := fun k_ => True) (Kd.R_keptB ((Kd.R_apart' HO108.out (Kd.R_typed HO111.out) (by decide))) hkp (fun k_ hk_ hs_ => (hk_.2) hs_)) (fun k_ hk_ => trivial)); replace BK112 := am (blk_kept (zl BK112.out) hkp (fun hs_ => (fun e_ => (Kd.R_ne HO111.out BK112.out (by decide)) e_) hs_)); have HO117 := am (Kd.R_mono (ok' := fun k_ => True) ho0 (fun k_ hk_ => trivial)); replace HB := am (hb); clear HO111; (try clear hb); (try clear hkp); (try clear ho0); obtain ⟨Ao33, co33, eo33⟩ := Kd.R_slice HO117.out; subst eo33; obtain ⟨hcz34_0, hcz34_1, hfz34_0, hfz34_1⟩ := cf2 BK112.out) | ((with_reducible refine gate_store (t := 27) (p := 29) rfl ?_); refine store_event (t := 27) (p := 29) (v := ?vo_w35) (w1 := (w32.setCell ⟨gb112, 1, none⟩ (.slice Ao33 t115.length co33))) ?hg ?ho ?hn ?hr ?_; (case ho => rfl); (case hg => rfl); (case hn => rfl); (case hr => first | (go_simp; done) | (go_simp; rfl)); intro w35 hw; have n0_ : Aside0 (Kd.S k29 29 w35 w.heap.size (fun k_ => some k_ ≠ (.slice Ao22 t106.length co22 : Value).ownBlock ∧ some k_ ≠ (.slice Ao33 t115.length co33 : Value).ownBlock ∧ k_ ≠ gb105 ∧ k_ ≠ gb112) u3 x3_1) := ⟨(by rw [hw]; exact (by refine zS ?_; exact Kd.S_mono (Kd.S_far (p := ⟨gb112, 1, none⟩) (Kd.S_mono HO_3.out (fun k_ hk => (⟨hk, hk.2.2.1⟩ : _ ∧ k_ ≠ gb112))) (fun _ hk => hk.2) (.slice Ao33 t115.length co33)) (fun _ hk => ⟨hk.1.1, ⟨hk.1.2.2.2, ⟨hk.1.2.1, hk.1.2.2.1⟩⟩⟩)))⟩; have n1_ : Aside0 (Kd.R k78 78 w35 w.heap.size (fun _ => True) (.slice Ao22 t106.length co22) t113) := ⟨(by rw [hw]; exact (by refine zR ?_; exact Kd.R_mono (Kd.R_far (p := ⟨gb112, 1, none⟩) (Kd.R_types HO108.out BK112.out (by decide)) (fun _ hk => hk.2) (.slice Ao33 t115.length co33)) (fun _ hk => trivial)))⟩; have n2_ : Aside0 (Kd.R k93 93 w35 w.heap.size (fun _ => True) (.slice Ao33 t115.length co33) t115) := ⟨(by rw [hw]; exact (by refine zR ?_; exact Kd.R_mono (Kd.R_far (p := ⟨gb112, 1, none⟩) (Kd.R_types HO117.out BK112.out (by decide)) (fun _ hk => hk.2) (.slice Ao33 t115.length co33)) (fun _ hk => trivial)))⟩; have n3_ : Aside0 (w35.heap[gb105]? = some (.cells #[.slice A104_0 ((rd_T29 l0 x9_1).f0).length c104_0, .slice A104_1 ((rd_T29 l0 x9_1).f1).length c104_1] 29 (0, 0))) := ⟨(by rw [hw]; exact (by refine zl ?_; refine blk_far ?_ NB105_112.out _; refine zl ?_; exact BK105.out))⟩; have n4_ : Aside0 (w35.heap[gb112]? = some (.cells #[.slice Ao22 t106.length co22, .slice Ao33 t115.length co33] 29 (0, 0))) := ⟨(by rw [hw]; exact (by refine zl ?_; refine blk_put (cs := #[.slice Ao22 t106.length co22, .slice Ao21 t109.length co21]) ?_ 1 _ rfl; refine zl ?_; exact BK112.out))⟩; have n5_ : Aside0 (Below w.heap.size w w35) := ⟨(by rw [hw]; exact (zb))⟩; clear hw; clear HO_3; clear HO108; clear HO117; clear BK105; clear BK112; clear HB; have HO_3 := n0_; have HO108 := n1_; have HO117 := n2_; have BK105 := n3_; have BK112 := n4_; have HB := n5_; clear n0_ n1_ n2_ n3_ n4_ n5_; obtain ⟨hcz36_0, hcz36_1, hfz36_0, hfz36_1⟩ := cf2 BK112.out) | ((with_reducible refine gate_builtin (b := .append) (xs := #[.tmp 30, .tmp 32]) rfl ?_); at_builtin; refine Kd.S_append k29 (w0 := w) w.heap.size rfl (.tmp 30) (.tmp 32) 45 29 (.agg #[(.slice none 0 0), (.slice none 0 0)]) 48 rfl Tryz.underlying45 info29 rfl (by decide) (by omega) u3 x3_1 (⟨t113, t115⟩ : S29) [.slice Ao22 t106.length co22, .slice Ao33 t115.length co33] (fun k_ => k_ ≠ gb105 ∧ k_ ≠ gb112) (fun k_ => some k_ = (.slice Ao22 t106.length co22 : Value).ownBlock ∨ some k_ = (.slice Ao33 t115.length co33 : Value).ownBlock) rfl rfl ?aP (fun k_ hk_ => hk_.elim (fun h_ => ((Kd.R_mono (ok' := fun k_ => ((fun k_ => k_ ≠ gb105 ∧ k_ ≠ gb112)) k_ ∧ some k_ ≠ (u3 : Value).ownBlock) (Kd.R_types (Kd.R_types (Kd.R_apart' (HO108.out) (Kd.S_typed HO_3.out) (by decide)) BK105.out (by decide)) BK112.out (by decide)) (fun k_ hk => ⟨⟨hk.1.2, hk.2⟩, hk.1.1.2⟩))).1 k_ h_.symm) (fun h_ => ((Kd.R_mono (ok' := fun k_ => ((fun k_ => k_ ≠ gb105 ∧ k_ ≠ gb112)) k_ ∧ some k_ ≠ (u3 : Value).ownBlock) (Kd.R_types (Kd.R_types (Kd.R_apart' (HO117.out) (Kd.S_typed HO_3.out) (by decide)) BK105.out (by decide)) BK112.out (by decide)) (fun k_ hk => ⟨⟨hk.1.2, hk.2⟩, hk.1.1.2⟩))).1 k_ h_.symm)) ?aF ?aO ?aB ?aS ?aL ?_; (case aP => exact k29_mkM _ _ _ (⟨t113, t115⟩ : S29) (Kd.R_mono (Kd.R_tight rfl (Kd.R_mono (ok' := fun k_ => ((fun k_ => k_ ≠ gb105 ∧ k_ ≠ gb112)) k_ ∧ some k_ ≠ (u3 : Value).ownBlock) (Kd.R_types (Kd.R_types (Kd.R_apart' (HO108.out) (Kd.S_typed HO_3.out) (by decide)) BK105.out (by decide)) BK112.out (by decide)) (fun k_ hk => ⟨⟨hk.1.2, hk.2⟩, hk.1.1.2⟩))) (fun _ h_ => Or.inl h_)) (Kd.R_mono (Kd.R_tight rfl (Kd.R_mono (ok' := fun k_ => ((fun k_ => k_ ≠ gb105 ∧ k_ ≠ gb112)) k_ ∧ some k_ ≠ (u3 : Value).ownBlock) (Kd.R_types (Kd.R_types (Kd.R_apart' (HO117.out) (Kd.S_typed HO_3.out) (by decide)) BK105.out (by decide)) BK112.out (by decide)) (fun k_ hk => ⟨⟨hk.1.2, hk.2⟩, hk.1.1.2⟩))) (fun _ h_ => Or.inr (h_)))); (case aB => exact (zb)); (case aF => exact (fun k_ hk => ⟨Kd.freshB (g := gb105) (o := .cells #[.slice A104_0 ((rd_T29 l0 x9_1).f0).length c104_0, .slice A104_1 ((rd_T29 l0 x9_1).f1).length c104_1] 29 (0, 0)) (zl BK105.out) k_ hk, Kd.freshB (g := gb112) (o := .cells #[.slice Ao22 t106.length co22, .slice Ao33 t115.length co33] 29 (0, 0)) (zl BK112.out) k_ hk⟩)); (case aO => exact (by refine zS ?_; exact Kd.S_mono HO_3.out (fun k_ hk => ⟨⟨hk.2.2.1, hk.2.2.2⟩, fun e_ => e_.elim (fun h_ => hk.1 h_) (fun h_ => hk.2.1 h_)⟩))); (case aS => exact (below_size (zb))); (case aL => have := LMc10.out; omega); intro v119 w37 ho hb hg hat; rw [← Ny118.out] at ho; replace BK105 := am (blk_grown (g := gb105) (o := .cells #[.slice A104_0 ((rd_T29 l0 x9_1).f0).length c104_0, .slice A104_1 ((rd_T29 l0 x9_1).f1).length c104_1] 29 (0, 0)) (zl BK105.out) hg (Kd.S_away HO_3.out (fun _ hk => hk.2.2.1))); replace BK112 := am (blk_grown (g := gb112) (o := .cells #[.slice Ao22 t106.length co22, .slice Ao33 t115.length co33] 29 (0, 0)) (zl BK112.out) hg (Kd.S_away HO_3.out (fun _ hk => hk.2.2.2))); replace HB := am (hb); have HO120 := am (ho); clear HO_3 HO108 HO117; clear ho hb hg hat))
              go_roundg k1
              case measure => have := HK1.out; omega
              case rel => exact ⟨(y118), (wrap64 (x9_1 + 1)), (ze), H', ⟨by have := HK1.out; omega⟩, ⟨by refine zS ?_; exact Kd.S_mono HO120.out (fun _ hk => trivial)⟩, ⟨zb⟩⟩
            · rw [if_neg c10] at H
              exact absurd H (by simp)
          · rw [if_neg c4] at H
            exact absurd H (by simp)
        · rw [if_neg c3] at H
          exact absurd H (by simp)
      · rw [if_neg c2] at H
        have c2b0 : decide (x9_1 < (l0.length : Int)) = false := decide_eq_false c2
        clear c2
        replace H := Option.bind_eq_some_iff.mp H
        obtain ⟨_, A380, H⟩ := H
        replace H : ((slices_CompactFunc_sentries_1.f x3_1).bind fun t101 => (some t101)) = some r := H
        have A38 := am A380
        clear A380
        replace H := Option.bind_eq_some_iff.mp H
        obtain ⟨t101, A390, H⟩ := H
        replace H : (some t101) = some r := H
        have A39 := am A390
        clear A390
        obtain rfl := Option.some.inj H
        obtain ⟨Ao40, co40, eo40⟩ := Kd.S_slice HO_3.out
        subst eo40
        have hle : x3_1.length ≤ 3 ∧ compactL eqSe (sortL cmpSe x3_1) = t101 := by
          have h := A39.out
          unfold slices_CompactFunc_sentries_1.f at h
          split at h
          · rename_i hl
            exact ⟨hl, Option.some.inj h⟩
          · cases h
        obtain ⟨hle, rfl⟩ := hle
        have hle2 : (sortL cmpSe x3_1).length = x3_1.length := (sortL_perm _).length_eq
        have HL := am hle
        have HL2 := am hle2
        clear hle hle2 A38 A39
        go_wp2_with (first | ((with_reducible refine gc_ 179 ?_); refine goesL_ (some 36) rfl rfl Tryz.func179 (by kernel_rfl) rfl #[.slice Ao40 x3_1.length co40, (.func (.func 32) #[] #[])] rfl (by (try simp only [List.map_toArray, List.map_cons, List.map_nil]); first | done | rfl) ?_; refine (sortSe_calls (zS HO_3.out) (by have := HL.out; omega)).mono ?_; rintro e w41 ⟨rfl, hS, hgr⟩; refine ⟨_, rfl, ?_⟩; have n1_ := am (pw_below_grown (zb) _ (below_size (zb)) hgr (Kd.S_base hS)); clear HO_3 HB; have HO_3 := am hS; have HB := n1_; clear n1_ hS hgr) | ((with_reducible refine gc_ 180 ?_); refine goesL_ (some 38) rfl rfl Tryz.func180 (by kernel_rfl) rfl #[.slice Ao40 x3_1.length co40, (.func (.func 181) #[] #[])] rfl (by (try simp only [List.map_toArray, List.map_cons, List.map_nil]); first | done | rfl) ?_; refine (compactSe_calls (zS HO_3.out) (by rw [HL2.out]; exact HL.out)).mono ?_; rintro e w42 ⟨v102, rfl, hS, hgr, hob⟩; refine ⟨_, rfl, ?_⟩; have n1_ := am (pw_below_grown (zb) _ (below_size (zb)) hgr (fun k hk => Kd.S_base hS k (hob.trans hk))); clear HO_3 HB; have HO103 := am hS; have HB := n1_; clear n1_ hS hgr hob))
        go_ret
        exact ⟨_, rfl, zS HO103.out, zb⟩
theorem norm_sentriesN.calls (k : Nat) (A0 : Option Addr) (c0 : Nat) (l0 : List (S29)) (r : List (S29)) (w : World) (hr0 : Kd.C k29 w A0 l0.length l0) (hc0 : l0.length ≤ c0) (h : norm_sentries.f k l0 = some r) :
    Calls Tryz.prog 126 #[.slice A0 l0.length c0] w fun e w' => ∃ v0_ : Value, e = .returned (v0_) ∧ Kd.N k29 29 w' w.heap.size (fun k_ => w.heap.size ≤ k_) v0_ r ∧ Below w.heap.size w w' :=
  (norm_sentries.calls k A0 c0 l0 r w hr0 hc0 h).mono fun _ _ ⟨v, e, h, hb⟩ => ⟨v, e, Kd.S_N (Kd.S_mono (Kd.S_bound h) (fun _ hk => hk.2.1)), hb⟩
end Go.Proofs.YtpbembafpnknhaaGreat.Pr
namespace Go.Proofs.YtpbembafpnknhaaGreat.Pr
open Go.RowKit Sn Go.Proofs.YtpbembafpnknhaaGreatW.PrintWords Go.Proofs.YtpbembafpnknhaaGreatW.PrintLast Go.Proofs.YtpbembafpnknhaaGreatW.PrintMore
open Go.Sort (SWO grow PermIn SortedIn)
set_option maxHeartbeats 800000 in
set_option maxRecDepth 100000 in
theorem under_cmp {W : World} {gb c1 : Nat} {A1 : Option Addr} {xs : List S47} (k1 : W.cell? ⟨gb, 1, none⟩ = some (.slice A1 xs.length c1)) (hC : Kd.C k47 W A1 xs.length xs) (a b : Int) (ha0 : 0 ≤ a) (ha1 : a < xs.length) (hb0 : 0 ≤ b) (hb1 : b < xs.length) :
    Calls Tryz.prog 129 #[.int .i64 a, .int .i64 b, .pointer (some ⟨gb, 0, none⟩)] W fun e w' => e = .returned (.int .i64 (cmpS (rd_T47 xs a).f0 (rd_T47 xs b).f0)) ∧ Drawn0 W w' := by
  have hu25 := Tryz.underlying25
  have hu47 := Tryz.underlying47
  obtain ⟨ad, A5, c5, A6, c6, e, x0, _⟩ := at_T47 hC a ha0 ha1
  cases e
  obtain ⟨ad', _, _, _, _, e, y0, _⟩ := at_T47 hC b hb0 hb1
  cases e
  replace ha0 := eq_true ha0
  replace ha1 := eq_true ha1
  replace hb0 := eq_true hb0
  replace hb1 := eq_true hb1
  have hcc : ∀ W0 : World, Calls Tryz.prog 116 #[.string (rd_T47 xs a).f0, .string (rd_T47 xs b).f0] W0 fun e w' => e = .returned (.int .i64 (cmpS (rd_T47 xs a).f0 (rd_T47 xs b).f0)) ∧ ∃ m, w' = W0.drewN m := fun W0 => (cmp_Compare_string.calls _ _ _ W0 (compare_s _ _)).mono (fun _ _ h => ⟨h.1, h.2.out⟩)
  go_enter Tryz.func129, Tryz.ntmps129
  go_wp2
  go_quiet ((go_at_call 116; exact Calls.quiet_of (hcc _)))
  go_wp2
  go_ret
  exact ⟨rfl, _, rfl⟩
section
variable {α β : Type} {c : β → β → Int} {key : α → β}
theorem ins_map (x : α) : ∀ l : List α, (ins (fun a b => c (key a) (key b)) x l).map key = ins c (key x) (l.map key)
  | [] => rfl
  | y :: r => by
    unfold ins
    rw [List.map_cons]
    by_cases h : c (key y) (key x) < 0
    · simp only [h, if_true, List.map_cons, ins_map x r]
    · simp only [h, if_false, List.map_cons]
theorem sortL_map (l : List α) : (sortL (fun a b => c (key a) (key b)) l).map key = sortL c (l.map key) := by
  unfold sortL
  have : ∀ acc : List α, (l.foldl (fun acc x => ins (fun a b => c (key a) (key b)) x acc) acc).map key = (l.map key).foldl (fun acc x => ins c x acc) (acc.map key) := by
    induction l with
    | nil => exact fun _ => rfl
    | cons x r ih => intro acc; rw [List.foldl_cons, List.map_cons, List.foldl_cons, ih, ins_map]
  exact this []
theorem rises_key (h : IsCmp c) (l : List α) : Rises (fun a b => c (key a) (key b)) (sortL (fun a b => c (key a) (key b)) l) := by
  have h2 := sortL_rises h (l.map key)
  rw [← sortL_map] at h2
  unfold Rises at h2 ⊢
  rwa [List.pairwise_map] at h2
theorem key_inj {l : List α} (hn : (l.map key).Nodup) {a b : α} (ha : a ∈ l) (hb : b ∈ l) (e : key a = key b) : a = b := by
  induction l with
  | nil => cases ha
  | cons x r ih =>
    rw [List.map_cons, List.nodup_cons] at hn
    rcases List.mem_cons.1 ha with h1 | h1 <;> rcases List.mem_cons.1 hb with h2 | h2
    · rw [h1, h2]
    · exact absurd (List.mem_map.2 ⟨b, h2, by rw [← e, h1]⟩) hn.1
    · exact absurd (List.mem_map.2 ⟨a, h1, by rw [e, h2]⟩) hn.1
    · exact ih hn.2 h1 h2
theorem rises_key_eq (h : IsCmp c) {l1 l2 : List α} (hn : (l2.map key).Nodup) (h1 : Rises (fun a b => c (key a) (key b)) l1) (h2 : Rises (fun a b => c (key a) (key b)) l2) (hp : l1.Perm l2) : l1 = l2 :=
  hp.eq_of_pairwise (fun a b ha hb hab hba => by
    refine key_inj hn (hp.mem_iff.1 ha) hb ?_
    rcases h.trichotomy (key a) (key b) with h3 | h3 | h3
    · exact absurd (h.gt.2 h3) hba
    · exact h3
    · exact absurd (h.gt.2 h3) hab) h1 h2
end
def cmpAt (xs : List S47) (a b : Int) : Int := cmpS (rd_T47 xs a).f0 (rd_T47 xs b).f0
def slices_SortFunc_int_int.f (l : List Int) (_files : List ByteArray) (xs : List S47) : Option (List Int) :=
  if (∀ a ∈ l, 0 ≤ a ∧ a < (xs.length : Int)) ∧ (l.map fun a => (rd_T47 xs a).f0).Nodup ∧ l.length < 4611686018427387904 then some (sortL (cmpAt xs) l) else none
theorem sortAt_len {l r : List Int} {files : List ByteArray} {xs : List S47} (h : slices_SortFunc_int_int.f l files xs = some r) : l.length = r.length := by
  unfold slices_SortFunc_int_int.f at h
  split at h
  · obtain rfl := Option.some.inj h
    exact (sortL_perm l).length_eq.symm
  · cases h
theorem sortAt_calls (P0_ : Nat → Prop) (u9000_ : Value) (l : List Int) (files : List ByteArray) (xs : List S47) (r : List Int) (w0 w : World) {gb n0 c0 c1 : Nat} {A0 A1 : Option Addr} (hB : Below w0.heap.size w0 w) (ho0 : Kd.R (Kd.int .i64) 3 w w0.heap.size P0_ u9000_ l)
    (hbk : w.heap[gb]? = some (.cells #[.slice A0 n0 c0, .slice A1 xs.length c1] 25 (0, 0))) (hC : Kd.C k47 w0 A1 xs.length xs) (h : slices_SortFunc_int_int.f l files xs = some r) :
    Calls Tryz.prog 128 #[u9000_, .func (.func 129) #[] #[.pointer (some ⟨gb, 0, none⟩)]] w fun e w' => e = .returned (.tuple #[]) ∧ Kd.R (Kd.int .i64) 3 w' w0.heap.size P0_ u9000_ r ∧ Below w0.heap.size w0 w' ∧ Kept w w' (fun k_ => P0_ k_) := by
  unfold slices_SortFunc_int_int.f at h
  split at h
  · rename_i hh
    obtain ⟨hall, hnd, hsz⟩ := hh
    obtain rfl := Option.some.inj h
    obtain ⟨hP, inner, hown, hrep⟩ := ho0
    have e1 : inner = l.map (Value.int .i64) := by
      have := flat_inner (enc := fun x : Int => [Value.int .i64 x]) (k := 1) (fun _ => rfl) hrep (fun x cs h => h)
      rw [this]
      exact flatMap_singles (fun _ _ => rfl)
    subst e1
    by_cases h0 : l = []
    · subst h0
      obtain ⟨A, c, rfl⟩ := own_slice hown
      refine (AnyF.slices_SortFunc_none (P := Tryz.prog) (ρ := Tryz.sortInt_ren) { Tryz.sortInt with } A c _ w).mono ?_
      rintro e' w' ⟨rfl, rfl⟩
      refine ⟨rfl, ⟨hP, _, hown, ?_⟩, hB, Kept.refl _ _⟩
      exact ⟨by simp [sortL], fun j p hj => by simp [sortL] at hj⟩
    · have hpos : 0 < l.length := List.length_pos_iff.2 h0
      obtain ⟨g, cap, rfl, hb, hlt⟩ := hown.form hpos
      obtain ⟨α, hα, pl, hpl, ho2⟩ : ∃ (α : Type) (_ : Inhabited α) (pl : α → Int), (∀ x : α, 0 ≤ pl x ∧ pl x < (xs.length : Int)) ∧ ∃ ps : List α, ps.map pl = l := by
        refine ⟨{ i : Int // 0 ≤ i ∧ i < (xs.length : Int) }, ⟨⟨l.head h0, hall _ (List.head_mem h0)⟩⟩, Subtype.val, fun x => x.2, l.pmap (fun i h => ⟨i, h⟩) hall, ?_⟩
        rw [List.map_pmap]
        simp
      obtain ⟨ps, hps⟩ := ho2
      have hpsl : ps.length = l.length := by rw [← hps, List.length_map]
      have hown2 : w.ownsRow w0.heap.size 3 1 (.slice (some ⟨g, 0, none⟩) l.length cap) l.length (ps.map fun x => Value.int .i64 (pl x)) := by
        have : (ps.map fun x => Value.int .i64 (pl x)) = l.map (Value.int .i64) := by rw [← hps, List.map_map]; rfl
        rw [this]; exact hown
      have hgg : gb ≠ g := by
        rintro rfl
        obtain ⟨cells, hcb⟩ := own_typed hown gb (by simp [Value.ownBlock])
        rw [hbk] at hcb
        injection hcb with hcb
        injection hcb with _ hcb
        cases hcb
      have hH := holds_of_own1 (enc := fun x : α => Value.int .i64 (pl x)) (xs := ps) hpsl hown2
      have hlays : CmpLays1 Tryz.prog 129 #[.pointer (some ⟨gb, 0, none⟩)] (fun x : α => Value.int .i64 (pl x)) (fun p q => cmpAt xs (pl p) (pl q)) g 0 ps.toArray.size w := by
        intro m os dk hdk p q
        have hdk' : dk.size = l.length := by rw [hdk]; simpa using hpsl
        have hgr := (own_sorted1 (m := m) (os := os) (d' := dk) hdk' hown2).2
        have hW : Below w0.heap.size w0 (sortWorld (fun x : α => Value.int .i64 (pl x)) w g 0 m dk os) := pw_below_grown hB (some g) hB.size hgr (fun k hk => by injection hk with hk; rw [← hk]; exact hb)
        have hbk2 : (sortWorld (fun x : α => Value.int .i64 (pl x)) w g 0 m dk os).heap[gb]? = _ := (hgr.block gb (Array.getElem?_eq_some_iff.1 hbk).1 (fun e => hgg (Option.some.inj e))).trans hbk
        generalize sortWorld (fun x : α => Value.int .i64 (pl x)) w g 0 m dk os = W at hW hbk2
        have hk1 : W.cell? ⟨gb, 1, none⟩ = some (.slice A1 xs.length c1) := (blk_cell hbk2 1).trans rfl
        refine (under_cmp hk1 (Kd.C_below hC hW) (pl p) (pl q) (hpl p).1 (hpl p).2 (hpl q).1 (hpl q).2).mono ?_
        rintro e' w' ⟨rfl, hd⟩
        obtain ⟨nq, rfl⟩ := hd.out
        exact ⟨rfl, nq, #[], by rw [Go.Sort.grow_empty]⟩
      have hswo : SWO (ltOf fun p q : α => cmpAt xs (pl p) (pl q)) := by
        have h := swo_of isCmp_s
        exact ⟨fun x => h.irrefl _, fun x y z => h.trans _ _ _, fun x y z => h.ntrans _ _ _⟩
      have hcon := Any.slices_SortFunc Tryz.sortInt (fun x : α => Value.int .i64 (pl x)) (fun _ => rfl) (fun p q => cmpAt xs (pl p) (pl q)) hswo 129 #[.pointer (some ⟨gb, 0, none⟩)] g 0 cap ps.toArray w (enters_of Tryz.func129 (by kernel_rfl) rfl) hlays hH hlt (by simpa [hpsl] using hsz)
      have hsz' : ps.toArray.size = l.length := by simpa using hpsl
      rw [hsz'] at hcon
      refine hcon.mono ?_
      rintro e' w' ⟨rfl, d', n, os, hperm, hsorted, rfl⟩
      have hds : d'.size = l.length := by rw [hperm.1]; exact hsz'
      have hpl' : d'.toList.Perm ps := by
        have h3 := hperm.2.2
        have e1 : d'.extract 0 l.length = d' := by rw [← hds]; exact Array.extract_size
        have e2 : ps.toArray.extract 0 l.length = ps.toArray := by rw [← hsz']; exact Array.extract_size
        rw [e1, e2] at h3
        exact h3
      obtain ⟨hown', hgr⟩ := own_sorted1 (m := n) (os := os) (enc := fun x : α => Value.int .i64 (pl x)) (d' := d') hds hown2
      have hsort : d'.toList.map pl = sortL (cmpAt xs) l := by
        refine rises_key_eq (c := cmpS) (key := fun a => (rd_T47 xs a).f0) isCmp_s ?_ ?_ (rises_key isCmp_s l) ?_
        · rw [((sortL_perm l).map _).nodup_iff]; exact hnd
        · unfold Rises
          rw [List.pairwise_map, List.pairwise_iff_getElem]
          intro i j hi hj hij
          have hi' : i < d'.size := by simpa using hi
          have hj' : j < d'.size := by simpa using hj
          have h3 := hsorted i j (Nat.zero_le _) hij (by rw [← hds]; exact hj')
          rw [getElem!_pos d' i hi', getElem!_pos d' j hj'] at h3
          unfold ltOf at h3
          rw [decide_eq_false_iff_not] at h3
          simp only [Array.getElem_toList]
          have h3 : ¬ cmpS (rd_T47 xs (pl d'[j])).f0 (rd_T47 xs (pl d'[i])).f0 < 0 := h3
          intro h4
          have := isCmp_s.gt.1 h4
          omega
        · have h3 := hpl'.map pl
          rw [hps] at h3
          exact h3.trans (sortL_perm l).symm
      have hll : (sortL (cmpAt xs) l).length = l.length := (sortL_perm l).length_eq
      have hmap' : (d'.toList.map fun x => Value.int .i64 (pl x)) = (sortL (cmpAt xs) l).flatMap fun x => [Value.int .i64 x] := by
        rw [flatMap_singles (f := Value.int .i64) (fun _ _ => rfl), ← hsort, List.map_map]
        rfl
      rw [hmap'] at hown'
      refine ⟨rfl, ⟨hP, _, by rw [hll]; exact hown', reps_flat (enc := fun x : Int => [Value.int .i64 x]) (k := 1) (fun _ => rfl) _ (fun x => rfl)⟩, ?_, ?_⟩
      · exact pw_below_grown hB (some g) (Nat.le_trans hB.size (Nat.le_refl _)) hgr (fun k_ hk_ => by injection hk_ with hk_; rw [← hk_]; exact hb)
      · exact Kept.of_grown hgr (Kept.refl _ _) (fun k_ hk_ => .inl (hP k_ (by simpa [Value.ownBlock] using hk_)))
  · cases h
end Go.Proofs.YtpbembafpnknhaaGreat.Pr
namespace Go.Proofs.YtpbembafpnknhaaGreat.Pr
open Go.RowKit Go.Proofs.YtpbembafpnknhaaGreatW.PrintWords Go.Proofs.YtpbembafpnknhaaGreatW.PrintLast Go.Proofs.YtpbembafpnknhaaGreatW.PrintMore
attribute [local go_sem] max2_int min2_int max_two min_two max_three min_three max_four min_four   -- for this text's walks alone
set_option linter.unusedVariables false
set_option linter.unusedSimpArgs false
def model_Kids.l0 : Nat → ByteArray → List Int → List (S47) → Int → Int → Option (List Int)
  | 0, _, _, _, _, _ => none
  | k + 1, x1, x5, x9, x10, x11 => if x11 < x10 then (if 0 ≤ x11 then (if x11 < (x9.length : Int) then (if ((rd_T47 x9 x11).f2).toList = x1.toList then (if x5.length < 17592186044416 then (model_Kids.l0 k x1 (x5 ++ [x11]) x9 x10 (wrap64 (x11 + 1))) else (none)) else (model_Kids.l0 k x1 x5 x9 x10 (wrap64 (x11 + 1)))) else (none)) else (none)) else (some x5)
def model_Kids.f (k : Nat) (l0_0 : List ByteArray) (l0_1 : List (S47)) (a1 : ByteArray) : Option (List Int) := model_Kids.l0 k a1 ([] : List Int) l0_1 (l0_1.length : Int) 0
theorem model_Kids.mono_l : ∀ k, (∀ y0 y1 y2 y3 y4, LeO (model_Kids.l0 k y0 y1 y2 y3 y4) (model_Kids.l0 (k + 1) y0 y1 y2 y3 y4))
  | 0 => fun _ _ _ _ _ r h => by simp [model_Kids.l0] at h
  | k + 1 => by
    have ih0 := model_Kids.mono_l k
    · intro y0 y1 y2 y3 y4
      unfold model_Kids.l0
      repeat' first
      | (with_reducible exact ih0 _ _ _ _ _)
      | (with_reducible exact LeO.refl _)
      | (with_reducible exact LeO.none _)
      | (with_reducible refine LeO.ite ?_ ?_)
      | (with_reducible refine LeO.bind ?_ (fun _ => ?_))
      | exact ih0 _ _ _ _ _
      | exact LeO.none _
      | refine LeO.ite ?_ ?_
      | refine LeO.bind ?_ (fun _ => ?_)
theorem model_Kids.mono : ∀ a0 a1 a2 k, LeO (model_Kids.f k a0 a1 a2) (model_Kids.f (k + 1) a0 a1 a2) := by
  intro a0 a1 a2 k
  have ih0 := model_Kids.mono_l k
  unfold model_Kids.f
  repeat' first
      | (with_reducible exact ih0 _ _ _ _ _)
      | (with_reducible exact LeO.refl _)
      | (with_reducible exact LeO.none _)
      | (with_reducible refine LeO.ite ?_ ?_)
      | (with_reducible refine LeO.bind ?_ (fun _ => ?_))
      | exact ih0 _ _ _ _ _
      | exact LeO.none _
      | refine LeO.ite ?_ ?_
      | refine LeO.bind ?_ (fun _ => ?_)
set_option maxHeartbeats 8000000 in
set_option maxRecDepth 100000 in
theorem model_Kids.calls (k : Nat) (A0_0 : Option Addr) (c0_0 : Nat) (l0_0 : List ByteArray) (A0_1 : Option Addr) (c0_1 : Nat) (l0_1 : List (S47)) (a1 : ByteArray) (r : List Int) (w : World) (hr0_0 : Kd.C Kd.string w A0_0 l0_0.length l0_0) (hc0_0 : l0_0.length ≤ c0_0) (hr0_1 : Kd.C k47 w A0_1 l0_1.length l0_1) (hc0_1 : l0_1.length ≤ c0_1) (h : model_Kids.f k l0_0 l0_1 a1 = some r) :
    Calls Tryz.prog 127 #[.agg #[.slice A0_0 l0_0.length c0_0, .slice A0_1 l0_1.length c0_1], .string a1] w fun e w' => ∃ v0_ : Value, e = .returned (v0_) ∧ Kd.R (Kd.int .i64) 3 w' w.heap.size (fun _ => True) v0_ r ∧ Below w.heap.size w w' := by
  have hu25 := Tryz.underlying25
  have hu47 := Tryz.underlying47
  have HR0_0 := am hr0_0
  have HC0_0 := am hc0_0
  clear hr0_0 hc0_0
  have HR0_1 := am hr0_1
  have HC0_1 := am hc0_1
  clear hr0_1 hc0_1
  have HB := am (Below.refl w.heap.size w)
  have H : (model_Kids.l0 k a1 ([] : List Int) l0_1 (l0_1.length : Int) 0) = some r := h
  clear h
  have H' := am H
  clear H
  go_enter Tryz.func127, Tryz.ntmps127
  go_wp2_with (first | ((with_reducible refine gd_ 2 ?_); refine bx_ 2 #[.slice A0_0 l0_0.length c0_0, .slice A0_1 l0_1.length c0_1] 25 ?_; intro gb101 hg w3 hbox hb; have BK101 := am (hbox); have GW101 := am (zg : w.heap.size ≤ gb101); have GE101 := am (zg : w.heap.size ≤ gb101); replace HB := am (below_step (zb) hb); clear hb hbox hg; obtain ⟨hcz4_0, hcz4_1, hfz4_0, hfz4_1⟩ := cf2 BK101.out))
  go_loopg [5, 11] k (fun kq v5 v11 w' => ∃ (x5_1 : List Int) (x11_1 : Int), v11 = .int .i64 x11_1 ∧ Aside0 (model_Kids.l0 kq a1 x5_1 l0_1 (l0_1.length : Int) x11_1 = some r) ∧ Aside0 (kq ≤ k) ∧ Aside0 (Kd.R (Kd.int .i64) 3 w' w.heap.size (fun _ => True) v5 x5_1) ∧ Aside0 (w'.heap[gb101]? = some (.cells #[(.slice A0_0 l0_0.length c0_0), (.slice A0_1 l0_1.length c0_1)] 25 (0, 0))) ∧ Aside0 (Below w.heap.size w w'))
  case atStart => exact ⟨(([] : List Int)), (0), (ze), H', ⟨Nat.le_refl _⟩, ⟨by first | exact Kd.R_nil _ _ _ _ _ | exact Kd.N_nil _ _ _ _ _ | exact Kd.V_nil _ _ _ _ _ | exact Kd.Q_nil _ _ _ _ _ | exact Kd.S_nil _ _ _ _ _⟩, ⟨zl BK101.out⟩, ⟨zb⟩⟩
  case round =>
    clear H'
    try clear c1
    try clear p2
    try clear hcz4_0
    try clear hcz4_1
    try clear hfz4_0
    try clear hfz4_1
    obtain ⟨x5_1, x11_1, rfl, HA, HK1, HO_5, BK101, HB⟩ := hrel
    cases gk with
    | zero => exact absurd HA.out (by simp [model_Kids.l0])
    | succ k1 =>
      have H := HA.out
      clear HA
      simp only [model_Kids.l0] at H
      by_cases c5 : x11_1 < (l0_1.length : Int)
      · rw [if_pos c5] at H
        have c5b0 : decide (x11_1 < (l0_1.length : Int)) = true := decide_eq_true c5
        clear c5
        by_cases c6 : 0 ≤ x11_1
        · rw [if_pos c6] at H
          have c6b0 : decide (0 ≤ x11_1) = true := decide_eq_true c6
          clear c6
          by_cases c7 : x11_1 < (l0_1.length : Int)
          · rw [if_pos c7] at H
            have c7b0 : decide (x11_1 < (l0_1.length : Int)) = true := decide_eq_true c7
            clear c7
            by_cases c8 : ((rd_T47 l0_1 x11_1).f2).toList = a1.toList
            · rw [if_pos c8] at H
              have c8b0 : (((rd_T47 l0_1 x11_1).f2).toList == a1.toList) = true := beq_iff_eq.mpr c8
              have c8b1 : (((rd_T47 l0_1 x11_1).f2).toList != a1.toList) = false := bne_eq_false_iff_eq.mpr c8
              clear c8
              by_cases c9 : x5_1.length < 17592186044416
              · rw [if_pos c9] at H
                have LMc9 := am c9
                clear c9
                obtain ⟨y104, hy104⟩ : ∃ y_ : List Int, y_ = (x5_1 ++ [x11_1]) := ⟨_, rfl⟩
                replace H : (model_Kids.l0 k1 a1 y104 l0_1 (l0_1.length : Int) (wrap64 (x11_1 + 1))) = some r := by first | (rw [hy104]; with_reducible exact H) | (have H2_ := (Option.bind_some _ _).symm.trans H; rw [hy104]; with_reducible exact H2_) | (have H2_ := (Option.bind_some _ _).symm.trans H; with_reducible exact H2_) | with_reducible exact H | (rw [hy104]; exact H) | exact H
                have Ny104 := am hy104
                clear hy104
                have H' := am H
                clear H
                have p102 : 0 ≤ (x11_1 : Int) := of_decide_eq_true (zas)
                have q102 : x11_1 < (l0_1.length : Int) := of_decide_eq_true (zas)
                obtain ⟨ad102, A102_5, c102_5, A102_6, c102_6, e102, hx102_0, hx102_1, hx102_2, hx102_3, hx102_4, hx102_5, hx102_6, hl102_5, hi102_5, hl102_6, hi102_6⟩ := at_T47 HR0_1.out x11_1 p102 q102
                cases e102
                replace hx102_0 := ba HB hx102_0
                replace hx102_1 := ba HB hx102_1
                replace hx102_2 := ba HB hx102_2
                replace hx102_3 := ba HB hx102_3
                replace hx102_4 := ba HB hx102_4
                replace hx102_5 := ba HB hx102_5
                replace hx102_6 := ba HB hx102_6
                have HR102_5 := am hi102_5
                have HC102_5 := am hl102_5
                clear hi102_5 hl102_5
                have HR102_6 := am hi102_6
                have HC102_6 := am hl102_6
                clear hi102_6 hl102_6
                replace p102 := eq_true p102
                replace q102 := eq_true q102
                go_wp2_with (first | ((with_reducible refine gd_ 7 ?_); refine bx_ 7 #[.string (⟨#[]⟩ : ByteArray), .int .i64 0, .string (⟨#[]⟩ : ByteArray), .bool false, .int .i64 0, .slice none 0 0, .slice none 0 0] 47 ?_; intro gb103 hg w10 hbox hb; replace HO_5 := am (Kd.R_below (zR HO_5.out) hb); have BK103 := am (hbox); have GW103 := am (zg : w.heap.size ≤ gb103); have GE103 := am (zg : w.heap.size ≤ gb103); replace HB := am (below_step (zb) hb); have NB101_103 := am ((zn BK101.out : gb101 ≠ gb103)); have NB103_101 := am ((zm BK101.out : gb103 ≠ gb101)); replace BK101 := am (zw BK101.out hb); clear hb hbox hg; have hnb11 := NB103_101.out; have hnc11 := NB101_103.out; obtain ⟨hcz12_0, hcz12_1, hcz12_2, hcz12_3, hcz12_4, hcz12_5, hcz12_6, hfz12_0, hfz12_1, hfz12_2, hfz12_3, hfz12_4, hfz12_5, hfz12_6⟩ := cf7 BK103.out) | ((with_reducible refine gate_builtin (b := .append) (xs := #[.tmp 20, .tmp 22]) rfl ?_); at_builtin; refine Kd.R_append (Kd.int .i64) (w0 := w) w.heap.size rfl (.tmp 20) (.tmp 22) 51 3 (.int .i64 0) 8 rfl Tryz.underlying51 info3 rfl (by decide) (by omega) u5 x5_1 x11_1 [.int .i64 x11_1] (fun _ => True) (fun _ => False) rfl (by first | (go_simp; done) | (go_simp; rfl)) ?aP (fun _ hk => hk.elim) ?aF ?aO ?aB ?aS ?aL ?_; (case aP => exact rfl); (case aB => exact (zb)); (case aF => exact (fun _ _ => trivial)); (case aO => exact (by refine zR ?_; exact Kd.R_mono (Kd.R_far (p := ⟨gb103, 6, none⟩) (Kd.R_far (p := ⟨gb103, 5, none⟩) (Kd.R_far (p := ⟨gb103, 4, none⟩) (Kd.R_far (p := ⟨gb103, 3, none⟩) (Kd.R_far (p := ⟨gb103, 2, none⟩) (Kd.R_far (p := ⟨gb103, 1, none⟩) (Kd.R_far (p := ⟨gb103, 0, none⟩) (Kd.R_types HO_5.out BK103.out (by decide)) (fun _ hk => hk.2) (.string ((rd_T47 l0_1 x11_1).f0))) (fun _ hk => hk.2) (.int .i64 ((rd_T47 l0_1 x11_1).f1))) (fun _ hk => hk.2) (.string ((rd_T47 l0_1 x11_1).f2))) (fun _ hk => hk.2) (.bool ((rd_T47 l0_1 x11_1).f3))) (fun _ hk => hk.2) (.int .i64 ((rd_T47 l0_1 x11_1).f4))) (fun _ hk => hk.2) (.slice A102_5 ((rd_T47 l0_1 x11_1).f5).length c102_5)) (fun _ hk => hk.2) (.slice A102_6 ((rd_T47 l0_1 x11_1).f6).length c102_6)) (fun _ hk => trivial))); (case aS => exact (below_size (zb))); (case aL => have := LMc9.out; omega); intro v105 w13 ho hb hg hat; rw [← Ny104.out] at ho; replace BK101 := am (blk_grown (g := gb101) (o := .cells #[.slice A0_0 l0_0.length c0_0, .slice (some ad102) l0_1.length c0_1] 25 (0, 0)) (by refine zl ?_; refine blk_far ?_ NB101_103.out _; refine zl ?_; refine blk_far ?_ NB101_103.out _; refine zl ?_; refine blk_far ?_ NB101_103.out _; refine zl ?_; refine blk_far ?_ NB101_103.out _; refine zl ?_; refine blk_far ?_ NB101_103.out _; refine zl ?_; refine blk_far ?_ NB101_103.out _; refine zl ?_; refine blk_far ?_ NB101_103.out _; refine zl ?_; exact BK101.out) hg (Kd.R_ne HO_5.out BK101.out (by decide))); replace BK103 := am (blk_grown (g := gb103) (o := .cells #[.string ((rd_T47 l0_1 x11_1).f0), .int .i64 ((rd_T47 l0_1 x11_1).f1), .string ((rd_T47 l0_1 x11_1).f2), .bool ((rd_T47 l0_1 x11_1).f3), .int .i64 ((rd_T47 l0_1 x11_1).f4), .slice A102_5 ((rd_T47 l0_1 x11_1).f5).length c102_5, .slice A102_6 ((rd_T47 l0_1 x11_1).f6).length c102_6] 47 (0, 0)) (by refine zl ?_; refine blk_put (cs := #[.string ((rd_T47 l0_1 x11_1).f0), .int .i64 ((rd_T47 l0_1 x11_1).f1), .string ((rd_T47 l0_1 x11_1).f2), .bool ((rd_T47 l0_1 x11_1).f3), .int .i64 ((rd_T47 l0_1 x11_1).f4), .slice A102_5 ((rd_T47 l0_1 x11_1).f5).length c102_5, .slice none 0 0]) ?_ 6 _ rfl; refine zl ?_; refine blk_put (cs := #[.string ((rd_T47 l0_1 x11_1).f0), .int .i64 ((rd_T47 l0_1 x11_1).f1), .string ((rd_T47 l0_1 x11_1).f2), .bool ((rd_T47 l0_1 x11_1).f3), .int .i64 ((rd_T47 l0_1 x11_1).f4), .slice none 0 0, .slice none 0 0]) ?_ 5 _ rfl; refine zl ?_; refine blk_put (cs := #[.string ((rd_T47 l0_1 x11_1).f0), .int .i64 ((rd_T47 l0_1 x11_1).f1), .string ((rd_T47 l0_1 x11_1).f2), .bool ((rd_T47 l0_1 x11_1).f3), .int .i64 0, .slice none 0 0, .slice none 0 0]) ?_ 4 _ rfl; refine zl ?_; refine blk_put (cs := #[.string ((rd_T47 l0_1 x11_1).f0), .int .i64 ((rd_T47 l0_1 x11_1).f1), .string ((rd_T47 l0_1 x11_1).f2), .bool false, .int .i64 0, .slice none 0 0, .slice none 0 0]) ?_ 3 _ rfl; refine zl ?_; refine blk_put (cs := #[.string ((rd_T47 l0_1 x11_1).f0), .int .i64 ((rd_T47 l0_1 x11_1).f1), .string (⟨#[]⟩ : ByteArray), .bool false, .int .i64 0, .slice none 0 0, .slice none 0 0]) ?_ 2 _ rfl; refine zl ?_; refine blk_put (cs := #[.string ((rd_T47 l0_1 x11_1).f0), .int .i64 0, .string (⟨#[]⟩ : ByteArray), .bool false, .int .i64 0, .slice none 0 0, .slice none 0 0]) ?_ 1 _ rfl; refine zl ?_; refine blk_put (cs := #[.string (⟨#[]⟩ : ByteArray), .int .i64 0, .string (⟨#[]⟩ : ByteArray), .bool false, .int .i64 0, .slice none 0 0, .slice none 0 0]) ?_ 0 _ rfl; refine zl ?_; exact BK103.out) hg (Kd.R_ne HO_5.out BK103.out (by decide))); replace HB := am (hb); have HO106 := am (ho); clear HO_5; clear ho hb hg hat))
                go_roundg k1
                case measure => have := HK1.out; omega
                case rel => exact ⟨(y104), (wrap64 (x11_1 + 1)), (ze), H', ⟨by have := HK1.out; omega⟩, ⟨zR HO106.out⟩, ⟨zl BK101.out⟩, ⟨zb⟩⟩
              · rw [if_neg c9] at H
                exact absurd H (by simp)
            · rw [if_neg c8] at H
              have c8b0 : (((rd_T47 l0_1 x11_1).f2).toList == a1.toList) = false := beq_eq_false_iff_ne.mpr c8
              have c8b1 : (((rd_T47 l0_1 x11_1).f2).toList != a1.toList) = true := bne_iff_ne.mpr c8
              have H' := am H
              clear H
              have p102 : 0 ≤ (x11_1 : Int) := of_decide_eq_true (zas)
              have q102 : x11_1 < (l0_1.length : Int) := of_decide_eq_true (zas)
              obtain ⟨ad102, A102_5, c102_5, A102_6, c102_6, e102, hx102_0, hx102_1, hx102_2, hx102_3, hx102_4, hx102_5, hx102_6, hl102_5, hi102_5, hl102_6, hi102_6⟩ := at_T47 HR0_1.out x11_1 p102 q102
              cases e102
              replace hx102_0 := ba HB hx102_0
              replace hx102_1 := ba HB hx102_1
              replace hx102_2 := ba HB hx102_2
              replace hx102_3 := ba HB hx102_3
              replace hx102_4 := ba HB hx102_4
              replace hx102_5 := ba HB hx102_5
              replace hx102_6 := ba HB hx102_6
              have HR102_5 := am hi102_5
              have HC102_5 := am hl102_5
              clear hi102_5 hl102_5
              have HR102_6 := am hi102_6
              have HC102_6 := am hl102_6
              clear hi102_6 hl102_6
              replace p102 := eq_true p102
              replace q102 := eq_true q102
              go_wp2_with (first | ((with_reducible refine gd_ 7 ?_); refine bx_ 7 #[.string (⟨#[]⟩ : ByteArray), .int .i64 0, .string (⟨#[]⟩ : ByteArray), .bool false, .int .i64 0, .slice none 0 0, .slice none 0 0] 47 ?_; intro gb103 hg w14 hbox hb; replace HO_5 := am (Kd.R_below (zR HO_5.out) hb); have BK103 := am (hbox); have GW103 := am (zg : w.heap.size ≤ gb103); have GE103 := am (zg : w.heap.size ≤ gb103); replace HB := am (below_step (zb) hb); have NB101_103 := am ((zn BK101.out : gb101 ≠ gb103)); have NB103_101 := am ((zm BK101.out : gb103 ≠ gb101)); replace BK101 := am (zw BK101.out hb); clear hb hbox hg; have hnb15 := NB103_101.out; have hnc15 := NB101_103.out; obtain ⟨hcz16_0, hcz16_1, hcz16_2, hcz16_3, hcz16_4, hcz16_5, hcz16_6, hfz16_0, hfz16_1, hfz16_2, hfz16_3, hfz16_4, hfz16_5, hfz16_6⟩ := cf7 BK103.out))
              go_roundg k1
              case measure => have := HK1.out; omega
              case rel => exact ⟨(x5_1), (wrap64 (x11_1 + 1)), (ze), H', ⟨by have := HK1.out; omega⟩, ⟨by refine zR ?_; exact Kd.R_mono (Kd.R_far (p := ⟨gb103, 6, none⟩) (Kd.R_far (p := ⟨gb103, 5, none⟩) (Kd.R_far (p := ⟨gb103, 4, none⟩) (Kd.R_far (p := ⟨gb103, 3, none⟩) (Kd.R_far (p := ⟨gb103, 2, none⟩) (Kd.R_far (p := ⟨gb103, 1, none⟩) (Kd.R_far (p := ⟨gb103, 0, none⟩) (Kd.R_types HO_5.out BK103.out (by decide)) (fun _ hk => hk.2) (.string ((rd_T47 l0_1 x11_1).f0))) (fun _ hk => hk.2) (.int .i64 ((rd_T47 l0_1 x11_1).f1))) (fun _ hk => hk.2) (.string ((rd_T47 l0_1 x11_1).f2))) (fun _ hk => hk.2) (.bool ((rd_T47 l0_1 x11_1).f3))) (fun _ hk => hk.2) (.int .i64 ((rd_T47 l0_1 x11_1).f4))) (fun _ hk => hk.2) (.slice A102_5 ((rd_T47 l0_1 x11_1).f5).length c102_5)) (fun _ hk => hk.2) (.slice A102_6 ((rd_T47 l0_1 x11_1).f6).length c102_6)) (fun _ hk => trivial)⟩, ⟨by refine zl ?_; refine blk_far ?_ NB101_103.out _; refine zl ?_; refine blk_far ?_ NB101_103.out _; refine zl ?_; refine blk_far ?_ NB101_103.out _; refine zl ?_; refine blk_far ?_ NB101_103.out _; refine zl ?_; refine blk_far ?_ NB101_103.out _; refine zl ?_; refine blk_far ?_ NB101_103.out _; refine zl ?_; refine blk_far ?_ NB101_103.out _; refine zl ?_; exact BK101.out⟩, ⟨zb⟩⟩
          · rw [if_neg c7] at H
            exact absurd H (by simp)
        · rw [if_neg c6] at H
          exact absurd H (by simp)
      · rw [if_neg c5] at H
        have c5b0 : decide (x11_1 < (l0_1.length : Int)) = false := decide_eq_false c5
        clear c5
        obtain rfl := Option.some.inj H
        go_wp2
        go_ret
        exact ⟨_, zf, zR HO_5.out, zb⟩
end Go.Proofs.YtpbembafpnknhaaGreat.Pr
namespace Go.Proofs.YtpbembafpnknhaaGreat.Pr
open Sn
open Go.RowKit Go.Proofs.YtpbembafpnknhaaGreatW.PrintWords Go.Proofs.YtpbembafpnknhaaGreatW.PrintLast Go.Proofs.YtpbembafpnknhaaGreatW.PrintMore
attribute [local go_sem] max2_int min2_int max_two min_two max_three min_three max_four min_four   -- for this text's walks alone
set_option linter.unusedVariables false
set_option linter.unusedSimpArgs false
mutual
def norm_under.l0 : Nat → List (S47) → List Int → Int → Int → List ByteArray → List (S47) → Option ((List (S47)))
  | 0, _, _, _, _, _, _ => none
  | k + 1, x6, x32, x33, x34, x102000, x102001 => if x34 < x33 then (if 0 ≤ x34 then (if x34 < (x32.length : Int) then ((norm_under.f k x102000 x102001 (rd x32 x34)).bind fun t118 => (if x6.length + t118.length < 1353245080339 then (norm_under.l0 k (x6 ++ t118) x32 x33 (wrap64 (x34 + 1)) x102000 x102001) else (none))) else (none)) else (none)) else (some x6)
def norm_under.f : Nat → List ByteArray → List (S47) → Int → Option ((List (S47)))
  | 0, _, _, _ => none
  | k + 1, l0_0, l0_1, a1 => if 0 ≤ a1 then (if a1 < (l0_1.length : Int) then ((norm_sentries.f k ((rd_T47 l0_1 a1).f5)).bind fun t104 => ((norm_sentries.f k ((rd_T47 l0_1 a1).f6)).bind fun t107 => ((model_Kids.f k l0_0 l0_1 ((rd_T47 l0_1 a1).f0)).bind fun t113 => ((slices_SortFunc_int_int.f t113 l0_0 l0_1).bind fun t116 => (norm_under.l0 k (([(⟨(rd_T47 l0_1 a1).f0, (rd_T47 l0_1 a1).f1, (rd_T47 l0_1 a1).f2, (rd_T47 l0_1 a1).f3, (rd_T47 l0_1 a1).f4, t104, t107⟩ : S47)] : List (S47))) t116 (t113.length : Int) 0 l0_0 l0_1))))) else (none)) else (none)
end
theorem norm_under.mono_l : ∀ k, (∀ y0 y1 y2, LeO (norm_under.f k y0 y1 y2) (norm_under.f (k + 1) y0 y1 y2)) ∧ (∀ y0 y1 y2 y3 y4 y5, LeO (norm_under.l0 k y0 y1 y2 y3 y4 y5) (norm_under.l0 (k + 1) y0 y1 y2 y3 y4 y5))
  | 0 => ⟨fun _ _ _ r h => by simp [norm_under.f] at h, fun _ _ _ _ _ _ r h => by simp [norm_under.l0] at h⟩
  | k + 1 => by
    obtain ⟨ih0, ih1⟩ := norm_under.mono_l k
    refine ⟨?_, ?_⟩
    · intro y0 y1 y2
      unfold norm_under.f
      repeat' first
      | (with_reducible exact ih0 _ _ _)
      | (with_reducible exact ih1 _ _ _ _ _ _)
      | (with_reducible exact model_Kids.mono _ _ _ _)
      | (with_reducible exact norm_sentries.mono _ _)
      | (with_reducible exact LeO.refl _)
      | (with_reducible exact LeO.none _)
      | (with_reducible refine LeO.ite ?_ ?_)
      | (with_reducible refine LeO.bind ?_ (fun _ => ?_))
      | exact ih0 _ _ _
      | exact ih1 _ _ _ _ _ _
      | exact model_Kids.mono _ _ _ _
      | exact norm_sentries.mono _ _
      | exact LeO.none _
      | refine LeO.ite ?_ ?_
      | refine LeO.bind ?_ (fun _ => ?_)
    · intro y0 y1 y2 y3 y4 y5
      unfold norm_under.l0
      repeat' first
      | (with_reducible exact ih0 _ _ _)
      | (with_reducible exact ih1 _ _ _ _ _ _)
      | (with_reducible exact model_Kids.mono _ _ _ _)
      | (with_reducible exact norm_sentries.mono _ _)
      | (with_reducible exact LeO.refl _)
      | (with_reducible exact LeO.none _)
      | (with_reducible refine LeO.ite ?_ ?_)
      | (with_reducible refine LeO.bind ?_ (fun _ => ?_))
      | exact ih0 _ _ _
      | exact ih1 _ _ _ _ _ _
      | exact model_Kids.mono _ _ _ _
      | exact norm_sentries.mono _ _
      | exact LeO.none _
      | refine LeO.ite ?_ ?_
      | refine LeO.bind ?_ (fun _ => ?_)
theorem norm_under.mono : ∀ a0 a1 a2 k, LeO (norm_under.f k a0 a1 a2) (norm_under.f (k + 1) a0 a1 a2) := by
  intro a0 a1 a2 k
  obtain ⟨ih0, ih1⟩ := norm_under.mono_l k
  exact ih0 a0 a1 a2
def norm_under.T2 : Bool × List (List Nat × List Nat) := (true, [([], []), ([0], [0]), ([1], [1]), ([], []), ([3], [3]), ([4, 2], [4]), ([0, 1, 2, 3, 4], []), ([6, 2, 5, 0, 1, 2, 3, 4], [2, 6]), ([0, 1, 2, 3, 4, 5, 6, 7], []), ([8, 5, 7, 0, 1, 2, 3, 4, 5, 6, 7], [5, 8])])
def norm_under.B2 : List Nat := [0, 1, 3, 0, 8, 31, 31, 127, 255, 511]
theorem norm_under.tab2 : rtab .any (opsOf Tryz.f80 2) = norm_under.T2 := by kernel_rfl
theorem norm_under.bits2 : waitsOk norm_under.T2.2 norm_under.B2 = true := by kernel_rfl
set_option maxHeartbeats 8000000 in
set_option maxRecDepth 100000 in
theorem norm_under.calls (k : Nat) : ∀ (A0_0 : Option Addr) (c0_0 : Nat) (l0_0 : List ByteArray) (A0_1 : Option Addr) (c0_1 : Nat) (l0_1 : List (S47)) (a1 : Int) (r : List (S47)) (w : World) (hr0_0 : Kd.C Kd.string w A0_0 l0_0.length l0_0) (hc0_0 : l0_0.length ≤ c0_0) (hr0_1 : Kd.C k47 w A0_1 l0_1.length l0_1) (hc0_1 : l0_1.length ≤ c0_1) (h : norm_under.f k l0_0 l0_1 a1 = some r),
    Calls Tryz.prog 80 #[.agg #[.slice A0_0 l0_0.length c0_0, .slice A0_1 l0_1.length c0_1], .int .i64 a1] w fun e w' => ∃ v0_ : Value, e = .returned (v0_) ∧ Kd.N k47 47 w' w.heap.size (fun k_ => (w.heap.size ≤ k_)) v0_ r ∧ Below w.heap.size w w' := by
  induction k using Nat.strongRecOn with
  | _ k ih =>
  intro A0_0 c0_0 l0_0 A0_1 c0_1 l0_1 a1 r w hr0_0 hc0_0 hr0_1 hc0_1 h
  cases k with
  | zero => exact absurd h (by simp [norm_under.f])
  | succ k =>
  simp only [norm_under.f] at h
  have hu25 := Tryz.underlying25
  have hu47 := Tryz.underlying47
  have HR0_0 := am hr0_0
  have HC0_0 := am hc0_0
  clear hr0_0 hc0_0
  have HR0_1 := am hr0_1
  have HC0_1 := am hc0_1
  clear hr0_1 hc0_1
  have HB := am (Below.refl w.heap.size w)
  have H : (if 0 ≤ a1 then (if a1 < (l0_1.length : Int) then ((norm_sentries.f k ((rd_T47 l0_1 a1).f5)).bind fun t104 => ((norm_sentries.f k ((rd_T47 l0_1 a1).f6)).bind fun t107 => ((model_Kids.f k l0_0 l0_1 ((rd_T47 l0_1 a1).f0)).bind fun t113 => ((slices_SortFunc_int_int.f t113 l0_0 l0_1).bind fun t116 => (norm_under.l0 k (([(⟨(rd_T47 l0_1 a1).f0, (rd_T47 l0_1 a1).f1, (rd_T47 l0_1 a1).f2, (rd_T47 l0_1 a1).f3, (rd_T47 l0_1 a1).f4, t104, t107⟩ : S47)] : List (S47))) t116 (t113.length : Int) 0 l0_0 l0_1))))) else (none)) else (none)) = some r := h
  clear h
  by_cases c3 : 0 ≤ a1
  · rw [if_pos c3] at H
    have c3b0 : decide (0 ≤ a1) = true := decide_eq_true c3
    clear c3
    by_cases c4 : a1 < (l0_1.length : Int)
    · rw [if_pos c4] at H
      have c4b0 : decide (a1 < (l0_1.length : Int)) = true := decide_eq_true c4
      clear c4
      replace H := Option.bind_eq_some_iff.mp H
      obtain ⟨t104, A50, H⟩ := H
      replace H : ((norm_sentries.f k ((rd_T47 l0_1 a1).f6)).bind fun t107 => ((model_Kids.f k l0_0 l0_1 ((rd_T47 l0_1 a1).f0)).bind fun t113 => ((slices_SortFunc_int_int.f t113 l0_0 l0_1).bind fun t116 => (norm_under.l0 k (([(⟨(rd_T47 l0_1 a1).f0, (rd_T47 l0_1 a1).f1, (rd_T47 l0_1 a1).f2, (rd_T47 l0_1 a1).f3, (rd_T47 l0_1 a1).f4, t104, t107⟩ : S47)] : List (S47))) t116 (t113.length : Int) 0 l0_0 l0_1)))) = some r := H
      have A5 := am A50
      clear A50
      replace H := Option.bind_eq_some_iff.mp H
      obtain ⟨t107, A60, H⟩ := H
      replace H : ((model_Kids.f k l0_0 l0_1 ((rd_T47 l0_1 a1).f0)).bind fun t113 => ((slices_SortFunc_int_int.f t113 l0_0 l0_1).bind fun t116 => (norm_under.l0 k (([(⟨(rd_T47 l0_1 a1).f0, (rd_T47 l0_1 a1).f1, (rd_T47 l0_1 a1).f2, (rd_T47 l0_1 a1).f3, (rd_T47 l0_1 a1).f4, t104, t107⟩ : S47)] : List (S47))) t116 (t113.length : Int) 0 l0_0 l0_1))) = some r := H
      have A6 := am A60
      clear A60
      obtain ⟨y110, hy110⟩ : ∃ y_ : List (S47), y_ = (([(⟨(rd_T47 l0_1 a1).f0, (rd_T47 l0_1 a1).f1, (rd_T47 l0_1 a1).f2, (rd_T47 l0_1 a1).f3, (rd_T47 l0_1 a1).f4, t104, t107⟩ : S47)] : List (S47))) := ⟨_, rfl⟩
      replace H : ((model_Kids.f k l0_0 l0_1 ((rd_T47 l0_1 a1).f0)).bind fun t113 => ((slices_SortFunc_int_int.f t113 l0_0 l0_1).bind fun t116 => (norm_under.l0 k y110 t116 (t113.length : Int) 0 l0_0 l0_1))) = some r := by first | (rw [hy110]; with_reducible exact H) | (have H2_ := (Option.bind_some _ _).symm.trans H; rw [hy110]; with_reducible exact H2_) | (have H2_ := (Option.bind_some _ _).symm.trans H; with_reducible exact H2_) | with_reducible exact H | (rw [hy110]; exact H) | exact H
      have Ny110 := am hy110
      clear hy110
      replace H := Option.bind_eq_some_iff.mp H
      obtain ⟨t113, A70, H⟩ := H
      replace H : ((slices_SortFunc_int_int.f t113 l0_0 l0_1).bind fun t116 => (norm_under.l0 k y110 t116 (t113.length : Int) 0 l0_0 l0_1)) = some r := H
      have A7 := am A70
      clear A70
      replace H := Option.bind_eq_some_iff.mp H
      obtain ⟨t116, A80, H⟩ := H
      replace H : (norm_under.l0 k y110 t116 (t113.length : Int) 0 l0_0 l0_1) = some r := H
      have A8 := am A80
      clear A80
      have H' := am H
      clear H
      have LEN := am (sortAt_len A8.out)
      go_enter Tryz.func80, Tryz.ntmps80
      try go_wp2_with (first | ((with_reducible refine gd_ 2 ?_); refine bx_ 2 #[.slice A0_0 l0_0.length c0_0, .slice A0_1 l0_1.length c0_1] 25 ?_; intro gb101 hg w9 hbox hb; have BK101 := am (hbox); have GW101 := am (zg : w.heap.size ≤ gb101); have GE101 := am (zg : w.heap.size ≤ gb101); replace HB := am (below_step (zb) hb); clear hb hbox hg; obtain ⟨hcz10_0, hcz10_1, hfz10_0, hfz10_1⟩ := cf2 BK101.out; have p102 : 0 ≤ (a1 : Int) := of_decide_eq_true (zas); have q102 : a1 < (l0_1.length : Int) := of_decide_eq_true (zas); obtain ⟨ad102, A102_5, c102_5, A102_6, c102_6, e102, hx102_0, hx102_1, hx102_2, hx102_3, hx102_4, hx102_5, hx102_6, hl102_5, hi102_5, hl102_6, hi102_6⟩ := at_T47 HR0_1.out a1 p102 q102; cases e102; replace hx102_0 := ba HB hx102_0; replace hx102_1 := ba HB hx102_1; replace hx102_2 := ba HB hx102_2; replace hx102_3 := ba HB hx102_3; replace hx102_4 := ba HB hx102_4; replace hx102_5 := ba HB hx102_5; replace hx102_6 := ba HB hx102_6; have HR102_5 := am hi102_5; have HC102_5 := am hl102_5; clear hi102_5 hl102_5; have HR102_6 := am hi102_6; have HC102_6 := am hl102_6; clear hi102_6 hl102_6; replace p102 := eq_true p102; replace q102 := eq_true q102) | ((with_reducible refine gd_ 5 ?_); refine bx_ 5 #[.string (⟨#[]⟩ : ByteArray), .int .i64 0, .string (⟨#[]⟩ : ByteArray), .bool false, .int .i64 0, .slice none 0 0, .slice none 0 0] 47 ?_; intro gb103 hg w11 hbox hb; have BK103 := am (hbox); have GW103 := am (zg : w.heap.size ≤ gb103); have GE103 := am (zg : w.heap.size ≤ gb103); replace HB := am (below_step (zb) hb); have NB101_103 := am ((zn BK101.out : gb101 ≠ gb103)); have NB103_101 := am ((zm BK101.out : gb103 ≠ gb101)); replace BK101 := am (zw BK101.out hb); clear hb hbox hg; have hnb12 := NB103_101.out; have hnc12 := NB101_103.out; obtain ⟨hcz13_0, hcz13_1, hcz13_2, hcz13_3, hcz13_4, hcz13_5, hcz13_6, hfz13_0, hfz13_1, hfz13_2, hfz13_3, hfz13_4, hfz13_5, hfz13_6⟩ := cf7 BK103.out))
      have n0_ : Aside0 ((((((((w11.setCell ⟨gb103, 0, none⟩ (.string ((rd_T47 l0_1 a1).f0))).setCell ⟨gb103, 1, none⟩ (.int .i64 ((rd_T47 l0_1 a1).f1))).setCell ⟨gb103, 2, none⟩ (.string ((rd_T47 l0_1 a1).f2))).setCell ⟨gb103, 3, none⟩ (.bool ((rd_T47 l0_1 a1).f3))).setCell ⟨gb103, 4, none⟩ (.int .i64 ((rd_T47 l0_1 a1).f4))).setCell ⟨gb103, 5, none⟩ (.slice A102_5 ((rd_T47 l0_1 a1).f5).length c102_5)).setCell ⟨gb103, 6, none⟩ (.slice A102_6 ((rd_T47 l0_1 a1).f6).length c102_6)).heap[gb101]? = some (.cells #[.slice A0_0 l0_0.length c0_0, .slice (some ad102) l0_1.length c0_1] 25 (0, 0))) := ⟨by refine zl ?_; refine blk_far ?_ NB101_103.out _; refine zl ?_; refine blk_far ?_ NB101_103.out _; refine zl ?_; refine blk_far ?_ NB101_103.out _; refine zl ?_; refine blk_far ?_ NB101_103.out _; refine zl ?_; refine blk_far ?_ NB101_103.out _; refine zl ?_; refine blk_far ?_ NB101_103.out _; refine zl ?_; refine blk_far ?_ NB101_103.out _; refine zl ?_; exact BK101.out⟩
      have n1_ : Aside0 ((((((((w11.setCell ⟨gb103, 0, none⟩ (.string ((rd_T47 l0_1 a1).f0))).setCell ⟨gb103, 1, none⟩ (.int .i64 ((rd_T47 l0_1 a1).f1))).setCell ⟨gb103, 2, none⟩ (.string ((rd_T47 l0_1 a1).f2))).setCell ⟨gb103, 3, none⟩ (.bool ((rd_T47 l0_1 a1).f3))).setCell ⟨gb103, 4, none⟩ (.int .i64 ((rd_T47 l0_1 a1).f4))).setCell ⟨gb103, 5, none⟩ (.slice A102_5 ((rd_T47 l0_1 a1).f5).length c102_5)).setCell ⟨gb103, 6, none⟩ (.slice A102_6 ((rd_T47 l0_1 a1).f6).length c102_6)).heap[gb103]? = some (.cells #[.string ((rd_T47 l0_1 a1).f0), .int .i64 ((rd_T47 l0_1 a1).f1), .string ((rd_T47 l0_1 a1).f2), .bool ((rd_T47 l0_1 a1).f3), .int .i64 ((rd_T47 l0_1 a1).f4), .slice A102_5 ((rd_T47 l0_1 a1).f5).length c102_5, .slice A102_6 ((rd_T47 l0_1 a1).f6).length c102_6] 47 (0, 0))) := ⟨by refine zl ?_; refine blk_put (cs := #[.string ((rd_T47 l0_1 a1).f0), .int .i64 ((rd_T47 l0_1 a1).f1), .string ((rd_T47 l0_1 a1).f2), .bool ((rd_T47 l0_1 a1).f3), .int .i64 ((rd_T47 l0_1 a1).f4), .slice A102_5 ((rd_T47 l0_1 a1).f5).length c102_5, .slice none 0 0]) ?_ 6 _ rfl; refine zl ?_; refine blk_put (cs := #[.string ((rd_T47 l0_1 a1).f0), .int .i64 ((rd_T47 l0_1 a1).f1), .string ((rd_T47 l0_1 a1).f2), .bool ((rd_T47 l0_1 a1).f3), .int .i64 ((rd_T47 l0_1 a1).f4), .slice none 0 0, .slice none 0 0]) ?_ 5 _ rfl; refine zl ?_; refine blk_put (cs := #[.string ((rd_T47 l0_1 a1).f0), .int .i64 ((rd_T47 l0_1 a1).f1), .string ((rd_T47 l0_1 a1).f2), .bool ((rd_T47 l0_1 a1).f3), .int .i64 0, .slice none 0 0, .slice none 0 0]) ?_ 4 _ rfl; refine zl ?_; refine blk_put (cs := #[.string ((rd_T47 l0_1 a1).f0), .int .i64 ((rd_T47 l0_1 a1).f1), .string ((rd_T47 l0_1 a1).f2), .bool false, .int .i64 0, .slice none 0 0, .slice none 0 0]) ?_ 3 _ rfl; refine zl ?_; refine blk_put (cs := #[.string ((rd_T47 l0_1 a1).f0), .int .i64 ((rd_T47 l0_1 a1).f1), .string (⟨#[]⟩ : ByteArray), .bool false, .int .i64 0, .slice none 0 0, .slice none 0 0]) ?_ 2 _ rfl; refine zl ?_; refine blk_put (cs := #[.string ((rd_T47 l0_1 a1).f0), .int .i64 0, .string (⟨#[]⟩ : ByteArray), .bool false, .int .i64 0, .slice none 0 0, .slice none 0 0]) ?_ 1 _ rfl; refine zl ?_; refine blk_put (cs := #[.string (⟨#[]⟩ : ByteArray), .int .i64 0, .string (⟨#[]⟩ : ByteArray), .bool false, .int .i64 0, .slice none 0 0, .slice none 0 0]) ?_ 0 _ rfl; refine zl ?_; exact BK103.out⟩
      have n2_ : Aside0 (Below w.heap.size w (((((((w11.setCell ⟨gb103, 0, none⟩ (.string ((rd_T47 l0_1 a1).f0))).setCell ⟨gb103, 1, none⟩ (.int .i64 ((rd_T47 l0_1 a1).f1))).setCell ⟨gb103, 2, none⟩ (.string ((rd_T47 l0_1 a1).f2))).setCell ⟨gb103, 3, none⟩ (.bool ((rd_T47 l0_1 a1).f3))).setCell ⟨gb103, 4, none⟩ (.int .i64 ((rd_T47 l0_1 a1).f4))).setCell ⟨gb103, 5, none⟩ (.slice A102_5 ((rd_T47 l0_1 a1).f5).length c102_5)).setCell ⟨gb103, 6, none⟩ (.slice A102_6 ((rd_T47 l0_1 a1).f6).length c102_6))) := ⟨zb⟩
      (try clear BK101)
      (try clear BK103)
      (try clear HB)
      generalize (((((((w11.setCell ⟨gb103, 0, none⟩ (.string ((rd_T47 l0_1 a1).f0))).setCell ⟨gb103, 1, none⟩ (.int .i64 ((rd_T47 l0_1 a1).f1))).setCell ⟨gb103, 2, none⟩ (.string ((rd_T47 l0_1 a1).f2))).setCell ⟨gb103, 3, none⟩ (.bool ((rd_T47 l0_1 a1).f3))).setCell ⟨gb103, 4, none⟩ (.int .i64 ((rd_T47 l0_1 a1).f4))).setCell ⟨gb103, 5, none⟩ (.slice A102_5 ((rd_T47 l0_1 a1).f5).length c102_5)).setCell ⟨gb103, 6, none⟩ (.slice A102_6 ((rd_T47 l0_1 a1).f6).length c102_6)) = w14 at n0_ n1_ n2_ ⊢
      have BK101 := n0_
      have BK103 := n1_
      have HB := n2_
      clear n0_ n1_ n2_
      replace BK101 := am (blk_drew BK101.out)
      replace BK103 := am (blk_drew BK103.out)
      replace HB := am (below_drew1 HB.out)
      refine start_ (n := 10) (S := fun w' => w'.cell? ⟨gb103, 0, none⟩ = some (.string ((rd_T47 l0_1 a1).f0)) ∧ w'.cell? ⟨gb103, 1, none⟩ = some (.int .i64 ((rd_T47 l0_1 a1).f1)) ∧ w'.cell? ⟨gb103, 2, none⟩ = some (.string ((rd_T47 l0_1 a1).f2)) ∧ w'.cell? ⟨gb103, 3, none⟩ = some (.bool ((rd_T47 l0_1 a1).f3)) ∧ w'.cell? ⟨gb103, 4, none⟩ = some (.int .i64 ((rd_T47 l0_1 a1).f4)) ∧ w'.cell? ⟨gb103, 5, none⟩ = some (.slice A102_5 ((rd_T47 l0_1 a1).f5).length c102_5) ∧ w'.cell? ⟨gb103, 6, none⟩ = some (.slice A102_6 ((rd_T47 l0_1 a1).f6).length c102_6)) (ds := [7, 9]) #[false, false, false, false, false, false, false, false, false, false] (by kernel_rfl) rfl rfl ⟨(blk_cell BK103.out 0).trans rfl, (blk_cell BK103.out 1).trans rfl, (blk_cell BK103.out 2).trans rfl, (blk_cell BK103.out 3).trans rfl, (blk_cell BK103.out 4).trans rfl, (blk_cell BK103.out 5).trans rfl, (blk_cell BK103.out 6).trans rfl⟩ (fun hHeld => ?_); refine with_tabW norm_under.tab2 norm_under.bits2 (fun HT_ HW_ => ?_)
      generalize w14.drew = w15 at BK101 BK103 HB hHeld ⊢
      refine pz_ 0 15 10 1 ?_
      refine pz_ 3 18 10 9 ?_
      refine tz_ 1 16 10 11 ?_
      refine tz_ 4 19 10 27 ?_
      refine one_ (i := 2) (N := some 17) #[true, true, true, true, true, false, false, false, false, false] rfl rfl (one_of HT_.out (by kernel_rfl)) (by decide) (fun K hK => ?_)
      refine goes_ Tryz.func126 (by kernel_rfl) rfl #[.slice A102_5 ((rd_T47 l0_1 a1).f5).length c102_5] (by rfl) rfl rfl (za) ?_
      with_reducible refine (norm_sentriesN.calls k _ _ ((rd_T47 l0_1 a1).f5) t104 _ ?side1 ?side2 A5.out).mono ?_
      (case side1 => exact zc (Kd.C_below HR102_5.out HB.out))
      (case side2 => exact HC102_5.out)
      rintro e w16 ⟨v105, rfl, ho0, hb⟩
      refine ⟨_, rfl, ?_⟩
      have HO106 := am (Kd.N_lower (Kd.N_mono (ok' := fun k_ => (w.heap.size ≤ k_) ∧ k_ ≠ gb101 ∧ k_ ≠ gb103) ho0 (fun k_ hk_ => ⟨(Nat.le_trans (below_size (zb)) hk_), (Kd.freshB (g := gb101) (o := .cells #[.slice A0_0 l0_0.length c0_0, .slice (some ad102) l0_1.length c0_1] 25 (0, 0)) (zl BK101.out) k_ hk_), (Kd.freshB (g := gb103) (o := .cells #[.string ((rd_T47 l0_1 a1).f0), .int .i64 ((rd_T47 l0_1 a1).f1), .string ((rd_T47 l0_1 a1).f2), .bool ((rd_T47 l0_1 a1).f3), .int .i64 ((rd_T47 l0_1 a1).f4), .slice A102_5 ((rd_T47 l0_1 a1).f5).length c102_5, .slice A102_6 ((rd_T47 l0_1 a1).f6).length c102_6] 47 (0, 0)) (zl BK103.out) k_ hk_)⟩)) (below_size (zb)))
      replace BK101 := am (zw BK101.out hb)
      replace BK103 := am (zw BK103.out hb)
      replace HB := am (below_step (zb) hb)
      (try clear hb)
      (try clear hb2)
      (try clear hk)
      (try clear hi)
      (try clear ho0)
      refine hK.out _ _ ⟨(blk_cell BK103.out 0).trans rfl, (blk_cell BK103.out 1).trans rfl, (blk_cell BK103.out 2).trans rfl, (blk_cell BK103.out 3).trans rfl, (blk_cell BK103.out 4).trans rfl, (blk_cell BK103.out 5).trans rfl, (blk_cell BK103.out 6).trans rfl⟩ (fun hHeld => ?_)
      clear hK K
      refine nz_ 17 ?_
      refine pz_ 6 21 10 95 ?_
      refine one_ (i := 5) (N := some 20) #[true, true, true, true, true, true, true, false, false, false] rfl rfl (one_of HT_.out (by kernel_rfl)) (by decide) (fun K hK => ?_)
      refine goes_ Tryz.func126 (by kernel_rfl) rfl #[.slice A102_6 ((rd_T47 l0_1 a1).f6).length c102_6] (by rfl) rfl rfl (za) ?_
      with_reducible refine (norm_sentriesN.calls k _ _ ((rd_T47 l0_1 a1).f6) t107 _ ?side1 ?side2 A6.out).mono ?_
      (case side1 => exact zc (Kd.C_below HR102_6.out HB.out))
      (case side2 => exact HC102_6.out)
      rintro e w17 ⟨v108, rfl, ho0, hb⟩
      refine ⟨_, rfl, ?_⟩
      have HO109 := am (Kd.N_lower (Kd.N_mono (ok' := fun k_ => (w.heap.size ≤ k_) ∧ some k_ ≠ (v105 : Value).ownBlock ∧ k_ ≠ gb101 ∧ k_ ≠ gb103) ho0 (fun k_ hk_ => ⟨(Nat.le_trans (below_size (zb)) hk_), (Kd.fresh' (Kd.N_lt (zN HO106.out)) k_ hk_), (Kd.freshB (g := gb101) (o := .cells #[.slice A0_0 l0_0.length c0_0, .slice (some ad102) l0_1.length c0_1] 25 (0, 0)) (zl BK101.out) k_ hk_), (Kd.freshB (g := gb103) (o := .cells #[.string ((rd_T47 l0_1 a1).f0), .int .i64 ((rd_T47 l0_1 a1).f1), .string ((rd_T47 l0_1 a1).f2), .bool ((rd_T47 l0_1 a1).f3), .int .i64 ((rd_T47 l0_1 a1).f4), .slice A102_5 ((rd_T47 l0_1 a1).f5).length c102_5, .slice A102_6 ((rd_T47 l0_1 a1).f6).length c102_6] 47 (0, 0)) (zl BK103.out) k_ hk_)⟩)) (below_size (zb)))
      replace HO106 := am (Kd.N_elder' (zN HO106.out) (Kd.N_base ho0) hb)
      replace BK101 := am (zw BK101.out hb)
      replace BK103 := am (zw BK103.out hb)
      replace HB := am (below_step (zb) hb)
      (try clear hb)
      (try clear hb2)
      (try clear hk)
      (try clear hi)
      (try clear ho0)
      obtain ⟨Ao18, co18, eo18⟩ := Kd.N_slice HO106.out
      (first | subst eo18 | (injection eo18 with f1_ f2_ f3_; have f4_ := f1_.symm; have f5_ := f3_.symm; clear f1_ f2_ f3_; subst f4_; subst f5_))
      obtain ⟨Ao20, co20, eo20⟩ := Kd.N_slice HO109.out
      (first | subst eo20 | (injection eo20 with f1_ f2_ f3_; have f4_ := f1_.symm; have f5_ := f3_.symm; clear f1_ f2_ f3_; subst f4_; subst f5_))
      refine hK.out _ _ ⟨(blk_cell BK103.out 0).trans rfl, (blk_cell BK103.out 1).trans rfl, (blk_cell BK103.out 2).trans rfl, (blk_cell BK103.out 3).trans rfl, (blk_cell BK103.out 4).trans rfl, (blk_cell BK103.out 5).trans rfl, (blk_cell BK103.out 6).trans rfl⟩ (fun hHeld => ?_)
      clear hK K
      refine nz_ 20 ?_
      refine last_ (i := 7) (N := none) #[true, true, true, true, true, true, true, true, false, false] rfl rfl (one_of HT_.out (by kernel_rfl)) (by decide) (fun K hK => ?_)
      have hs19 : w17.cell? ⟨gb103, 5, none⟩ = some (.slice A102_5 ((rd_T47 l0_1 a1).f5).length c102_5) := (blk_cell BK103.out 5).trans rfl
      have hfs19 := blk_frozen BK103.out 5
      have hns19_0 := NB101_103.out
      have hms19_0 := NB103_101.out
      refine skip_ (w1 := ?_) (by rfl) rfl ?_ ?_
      rotate_left
      · go_simp
        rfl
      refine hK.out _ _ ?_
      clear hK K
      refine pz_ 8 22 10 511 ?_
      refine last_ (i := 9) (N := none) #[true, true, true, true, true, true, true, true, true, true] rfl rfl (one_of HT_.out (by kernel_rfl)) (by decide) (fun K hK => ?_)
      have hs21 : w17.cell? ⟨gb103, 6, none⟩ = some (.slice A102_6 ((rd_T47 l0_1 a1).f6).length c102_6) := (blk_cell BK103.out 6).trans rfl
      have hfs21 := blk_frozen BK103.out 6
      have hns21_0 := NB101_103.out
      have hms21_0 := NB103_101.out
      refine skip_ (w1 := ?_) (by rfl) rfl ?_ ?_
      rotate_left
      · go_simp
        rfl
      refine hK.out _ _ ?_
      clear hK K
      refine done_ (done_of HT_.out (by kernel_rfl)) ?_
      have n0_ : Aside0 (Kd.N k29 29 ((w17.setCell ⟨gb103, 5, none⟩ (.slice Ao18 t104.length co18)).setCell ⟨gb103, 6, none⟩ (.slice Ao20 t107.length co20)) w.heap.size (fun k_ => (w.heap.size ≤ k_) ∧ some k_ ≠ (.slice Ao20 t107.length co20 : Value).ownBlock ∧ k_ ≠ gb101 ∧ k_ ≠ gb103) (.slice Ao18 t104.length co18) t104) := ⟨by refine zN ?_; exact Kd.N_mono (Kd.N_far (p := ⟨gb103, 6, none⟩) (Kd.N_far (p := ⟨gb103, 5, none⟩) (Kd.N_mono HO106.out (fun k_ hk => (⟨hk, hk.1.2.2⟩ : _ ∧ k_ ≠ gb103))) (fun _ hk => hk.2) (.slice Ao18 t104.length co18)) (fun _ hk => hk.2) (.slice Ao20 t107.length co20)) (fun _ hk => ⟨hk.1.1.1, ⟨hk.1.2, ⟨hk.1.1.2.1, hk.1.1.2.2⟩⟩⟩)⟩
      have n1_ : Aside0 (Kd.N k29 29 ((w17.setCell ⟨gb103, 5, none⟩ (.slice Ao18 t104.length co18)).setCell ⟨gb103, 6, none⟩ (.slice Ao20 t107.length co20)) w.heap.size (fun k_ => (w.heap.size ≤ k_) ∧ some k_ ≠ (.slice Ao18 t104.length co18 : Value).ownBlock ∧ k_ ≠ gb101 ∧ k_ ≠ gb103) (.slice Ao20 t107.length co20) t107) := ⟨by refine zN ?_; exact Kd.N_mono (Kd.N_far (p := ⟨gb103, 6, none⟩) (Kd.N_far (p := ⟨gb103, 5, none⟩) (Kd.N_mono HO109.out (fun k_ hk => (⟨hk, hk.2.2.2⟩ : _ ∧ k_ ≠ gb103))) (fun _ hk => hk.2) (.slice Ao18 t104.length co18)) (fun _ hk => hk.2) (.slice Ao20 t107.length co20)) (fun _ hk => ⟨hk.1.1, ⟨hk.1.2.1, ⟨hk.1.2.2.1, hk.1.2.2.2⟩⟩⟩)⟩
      have n2_ : Aside0 (((w17.setCell ⟨gb103, 5, none⟩ (.slice Ao18 t104.length co18)).setCell ⟨gb103, 6, none⟩ (.slice Ao20 t107.length co20)).heap[gb101]? = some (.cells #[.slice A0_0 l0_0.length c0_0, .slice (some ad102) l0_1.length c0_1] 25 (0, 0))) := ⟨by refine zl ?_; refine blk_far ?_ NB101_103.out _; refine zl ?_; refine blk_far ?_ NB101_103.out _; refine zl ?_; exact BK101.out⟩
      have n3_ : Aside0 (((w17.setCell ⟨gb103, 5, none⟩ (.slice Ao18 t104.length co18)).setCell ⟨gb103, 6, none⟩ (.slice Ao20 t107.length co20)).heap[gb103]? = some (.cells #[.string ((rd_T47 l0_1 a1).f0), .int .i64 ((rd_T47 l0_1 a1).f1), .string ((rd_T47 l0_1 a1).f2), .bool ((rd_T47 l0_1 a1).f3), .int .i64 ((rd_T47 l0_1 a1).f4), .slice Ao18 t104.length co18, .slice Ao20 t107.length co20] 47 (0, 0))) := ⟨by refine zl ?_; refine blk_put (cs := #[.string ((rd_T47 l0_1 a1).f0), .int .i64 ((rd_T47 l0_1 a1).f1), .string ((rd_T47 l0_1 a1).f2), .bool ((rd_T47 l0_1 a1).f3), .int .i64 ((rd_T47 l0_1 a1).f4), .slice Ao18 t104.length co18, .slice A102_6 ((rd_T47 l0_1 a1).f6).length c102_6]) ?_ 6 _ rfl; refine zl ?_; refine blk_put (cs := #[.string ((rd_T47 l0_1 a1).f0), .int .i64 ((rd_T47 l0_1 a1).f1), .string ((rd_T47 l0_1 a1).f2), .bool ((rd_T47 l0_1 a1).f3), .int .i64 ((rd_T47 l0_1 a1).f4), .slice A102_5 ((rd_T47 l0_1 a1).f5).length c102_5, .slice A102_6 ((rd_T47 l0_1 a1).f6).length c102_6]) ?_ 5 _ rfl; refine zl ?_; exact BK103.out⟩
      have n4_ : Aside0 (Below w.heap.size w ((w17.setCell ⟨gb103, 5, none⟩ (.slice Ao18 t104.length co18)).setCell ⟨gb103, 6, none⟩ (.slice Ao20 t107.length co20))) := ⟨zb⟩
      (try clear HO106)
      (try clear HO109)
      (try clear BK101)
      (try clear BK103)
      (try clear HB)
      generalize ((w17.setCell ⟨gb103, 5, none⟩ (.slice Ao18 t104.length co18)).setCell ⟨gb103, 6, none⟩ (.slice Ao20 t107.length co20)) = w22 at n0_ n1_ n2_ n3_ n4_ ⊢
      have HO106 := n0_
      have HO109 := n1_
      have BK101 := n2_
      have BK103 := n3_
      have HB := n4_
      clear n0_ n1_ n2_ n3_ n4_
      obtain ⟨hcz23_0, hcz23_1, hcz23_2, hcz23_3, hcz23_4, hcz23_5, hcz23_6, hfz23_0, hfz23_1, hfz23_2, hfz23_3, hfz23_4, hfz23_5, hfz23_6⟩ := cf7 BK103.out
      try go_wp2_with (first | ((with_reducible refine gd_ 24 ?_); refine Kd.N_lit k47 _ 47 ?hg (N' := 24) ?hd (xs := ([(⟨(rd_T47 l0_1 a1).f0, (rd_T47 l0_1 a1).f1, (rd_T47 l0_1 a1).f2, (rd_T47 l0_1 a1).f3, (rd_T47 l0_1 a1).f4, t104, t107⟩ : S47)] : List (S47))) (inner := [.string ((rd_T47 l0_1 a1).f0), .int .i64 ((rd_T47 l0_1 a1).f1), .string ((rd_T47 l0_1 a1).f2), .bool ((rd_T47 l0_1 a1).f3), .int .i64 ((rd_T47 l0_1 a1).f4), .slice Ao18 t104.length co18, .slice Ao20 t107.length co20]) (ok := (fun k_ => (w.heap.size ≤ k_) ∧ k_ ≠ gb101 ∧ k_ ≠ gb103)) (okp := (fun k_ => (w.heap.size ≤ k_) ∧ k_ ≠ gb101 ∧ k_ ≠ gb103)) ?hr ?hp (fun _ hk => hk) ((show ∀ k_, w22.heap.size ≤ k_ → (fun k_ => (w.heap.size ≤ k_) ∧ k_ ≠ gb101 ∧ k_ ≠ gb103) k_ from fun k_ hk => ⟨(Nat.le_trans (below_size (zb)) hk), Kd.freshB (g := gb101) (o := .cells #[.slice A0_0 l0_0.length c0_0, .slice (some ad102) l0_1.length c0_1] 25 (0, 0)) (zl BK101.out) k_ hk, Kd.freshB (g := gb103) (o := .cells #[.string ((rd_T47 l0_1 a1).f0), .int .i64 ((rd_T47 l0_1 a1).f1), .string ((rd_T47 l0_1 a1).f2), .bool ((rd_T47 l0_1 a1).f3), .int .i64 ((rd_T47 l0_1 a1).f4), .slice Ao18 t104.length co18, .slice Ao20 t107.length co20] 47 (0, 0)) (zl BK103.out) k_ hk⟩) _ (Nat.le_refl _)) (Below.refl _ _) (Nat.le_refl _) (by simp) ?_; (case hd => rfl); (case hg => rfl); (case hr => first | (go_simp; done) | (go_simp; rfl)); (case hp => exact (Reps.c7 (show Kd.FK k47 _ _ (⟨(rd_T47 l0_1 a1).f0, (rd_T47 l0_1 a1).f1, (rd_T47 l0_1 a1).f2, (rd_T47 l0_1 a1).f3, (rd_T47 l0_1 a1).f4, t104, t107⟩ : S47) [.string ((rd_T47 l0_1 a1).f0), .int .i64 ((rd_T47 l0_1 a1).f1), .string ((rd_T47 l0_1 a1).f2), .bool ((rd_T47 l0_1 a1).f3), .int .i64 ((rd_T47 l0_1 a1).f4), .slice Ao18 t104.length co18, .slice Ao20 t107.length co20] from (k47_mkF _ _ (⟨(rd_T47 l0_1 a1).f0, (rd_T47 l0_1 a1).f1, (rd_T47 l0_1 a1).f2, (rd_T47 l0_1 a1).f3, (rd_T47 l0_1 a1).f4, t104, t107⟩ : S47) (Kd.N_reads' (Kd.N_mono (ok' := (fun k_ => (w.heap.size ≤ k_) ∧ k_ ≠ gb101 ∧ k_ ≠ gb103)) (HO106.out) (fun k_ hk => ⟨hk.1, ⟨hk.2.2.1, hk.2.2.2⟩⟩))).2.1 (Kd.N_F (Kd.N_mono (ok' := (fun k_ => (w.heap.size ≤ k_) ∧ k_ ≠ gb101 ∧ k_ ≠ gb103)) (HO106.out) (fun k_ hk => ⟨hk.1, ⟨hk.2.2.1, hk.2.2.2⟩⟩))) (Kd.N_reads' (Kd.N_mono (ok' := (fun k_ => (w.heap.size ≤ k_) ∧ k_ ≠ gb101 ∧ k_ ≠ gb103)) (HO109.out) (fun k_ hk => ⟨hk.1, ⟨hk.2.2.1, hk.2.2.2⟩⟩))).2.1 (Kd.N_F (Kd.N_mono (ok' := (fun k_ => (w.heap.size ≤ k_) ∧ k_ ≠ gb101 ∧ k_ ≠ gb103)) (HO109.out) (fun k_ hk => ⟨hk.1, ⟨hk.2.2.1, hk.2.2.2⟩⟩))))) (Reps.none _ _))); intro v111 w24 ho25 hb hg_ hnew_; clear hg_ hnew_; (first | rw [← Ny110.out] at ho25 | (simp only [Int.reduceToNat] at ho25; rw [← Ny110.out] at ho25)); have HO112 := am (Kd.N_lower ho25 (below_size (zb))); replace BK101 := am (zw BK101.out hb); replace BK103 := am (zw BK103.out hb); replace HB := am (below_step (zb) hb); clear HO106 HO109; clear hb ho25; obtain ⟨hcz26_0, hcz26_1, hfz26_0, hfz26_1⟩ := cf2 BK101.out; obtain ⟨hcz27_0, hcz27_1, hcz27_2, hcz27_3, hcz27_4, hcz27_5, hcz27_6, hfz27_0, hfz27_1, hfz27_2, hfz27_3, hfz27_4, hfz27_5, hfz27_6⟩ := cf7 BK103.out) | ((with_reducible refine gc_ 127 ?_); refine goesL_ (some 28) rfl rfl Tryz.func127 (by kernel_rfl) rfl #[.agg #[.slice A0_0 l0_0.length c0_0, .slice (some ad102) l0_1.length c0_1], .string ((rd_T47 l0_1 a1).f0)] rfl (za) ?_; (with_reducible refine (model_Kids.calls k _ _ l0_0 _ _ l0_1 ((rd_T47 l0_1 a1).f0) t113 _ ?side1 ?side2 ?side3 ?side4 A7.out).mono ?_); (case side1 => exact zc (Kd.C_below HR0_0.out HB.out)); (case side2 => exact HC0_0.out); (case side3 => exact zc (Kd.C_below HR0_1.out HB.out)); (case side4 => exact HC0_1.out); rintro e w28 ⟨v114, rfl, ho0, hb⟩; refine ⟨_, rfl, ?_⟩; replace HO112 := am (Kd.N_elder' (zN HO112.out) (Kd.R_base ho0) hb); have HO115 := am (Kd.R_lower (Kd.R_newM (M := fun k_ => (w.heap.size ≤ k_)) ho0 (below_size (zb)) (fun k_ h_ => h_)) (below_size (zb))); replace BK101 := am (zw BK101.out hb); replace BK103 := am (zw BK103.out hb); replace HB := am (below_step (zb) hb); (try clear hb); (try clear hb2); (try clear hk); (try clear hi); (try clear ho0); obtain ⟨hcz29_0, hcz29_1, hfz29_0, hfz29_1⟩ := cf2 BK101.out; obtain ⟨Ao30, co30, eo30⟩ := Kd.R_slice HO115.out; subst eo30) | ((with_reducible refine gc_ 128 ?_); refine goesL_ (some 31) rfl rfl Tryz.func128 (by kernel_rfl) rfl #[.slice Ao30 t113.length co30, .func (.func 129) #[] #[.pointer (some ⟨gb101, 0, none⟩)]] rfl (by (try simp only [List.map_toArray, List.map_cons, List.map_nil]); first | done | rfl) ?_; (refine (sortAt_calls (fun k_ => some k_ = (.slice Ao30 t113.length co30 : Value).ownBlock) (.slice Ao30 t113.length co30) t113 l0_0 l0_1 t116 w _ ?side1 ?side2 (zl BK101.out) HR0_1.out A8.out).mono ?_); (case side1 => repeat (first | (with_reducible first | exact HB.out | apply below_alloc | apply pw_below_drewN | apply below_drew1 | refine below_set ?_ GE101.out | refine below_set ?_ GE103.out) | exact HB.out)); (case side2 => exact Kd.R_tight rfl HO115.out); rintro e w31 ⟨rfl, hy0, hb, hkp⟩; refine ⟨_, rfl, ?_⟩; replace BK101 := am (blk_kept (zl BK101.out) hkp (fun hs_ => (fun e_ => (Kd.R_ne HO115.out BK101.out (by decide)) e_) hs_)); replace BK103 := am (blk_kept (zl BK103.out) hkp (fun hs_ => (fun e_ => (Kd.R_ne HO115.out BK103.out (by decide)) e_) hs_)); replace HO112 := am (Kd.N_mono (ok' := fun k_ => (w.heap.size ≤ k_) ∧ some k_ ≠ (.slice Ao30 t113.length co30 : Value).ownBlock ∧ k_ ≠ gb101 ∧ k_ ≠ gb103) (Kd.N_keptB (HO112.out) hkp (fun k_ hk_ hs_ => (hk_.2) hs_)) (fun k_ hk_ => ⟨hk_.1.1.1, hk_.1.2, hk_.1.1.2.1, hk_.1.1.2.2⟩)); replace HO115 := am (Kd.R_reok rfl hy0 (fun k_ e_ => HO115.out.1 k_ e_)); replace HB := am (hb); (try clear hb); (try clear hkp); (try clear hy0)))
      go_loopg [6, 34] k (fun kq v6 v34 w' => ∃ (x6_1 : List (S47)) (x34_1 : Int), v34 = .int .i64 x34_1 ∧ Aside0 (norm_under.l0 kq x6_1 t116 (t113.length : Int) x34_1 l0_0 l0_1 = some r) ∧ Aside0 (kq ≤ k) ∧ Aside0 (Kd.N k47 47 w' w.heap.size (fun k_ => (w.heap.size ≤ k_) ∧ some k_ ≠ ((.slice Ao30 t113.length co30) : Value).ownBlock ∧ k_ ≠ gb101) v6 x6_1) ∧ Aside0 (Kd.R (Kd.int .i64) 3 w' w.heap.size (fun k_ => (w.heap.size ≤ k_)) (.slice Ao30 t113.length co30) t116) ∧ Aside0 (w'.heap[gb101]? = some (.cells #[(.slice A0_0 l0_0.length c0_0), (.slice (some ad102) l0_1.length c0_1)] 25 (0, 0))) ∧ Aside0 (Below w.heap.size w w'))
      case atStart => exact ⟨(y110), (0), (ze), H', ⟨Nat.le_refl _⟩, ⟨by refine zN ?_; exact Kd.N_mono HO112.out (fun _ hk => ⟨hk.1, ⟨hk.2.1, hk.2.2.1⟩⟩)⟩, ⟨by refine zR ?_; exact Kd.R_mono HO115.out (fun _ hk => hk.1)⟩, ⟨zl BK101.out⟩, ⟨zb⟩⟩
      case round =>
        clear H'
        try clear c1
        try clear p1
        try clear q1
        try clear hx1
        try clear p2
        try clear c3
        try clear c3b0
        try clear c4
        try clear c4b0
        try clear c7
        try clear c8
        try clear c10
        try clear p10
        try clear q10
        try clear hx10
        try clear c12
        try clear hcz10_0
        try clear hcz10_1
        try clear hcz13_0
        try clear hcz13_1
        try clear hcz13_2
        try clear hcz13_3
        try clear hcz13_4
        try clear hcz13_5
        try clear hcz13_6
        try clear hcz23_0
        try clear hcz23_1
        try clear hcz23_2
        try clear hcz23_3
        try clear hcz23_4
        try clear hcz23_5
        try clear hcz23_6
        try clear hcz26_0
        try clear hcz26_1
        try clear hcz27_0
        try clear hcz27_1
        try clear hcz27_2
        try clear hcz27_3
        try clear hcz27_4
        try clear hcz27_5
        try clear hcz27_6
        try clear hcz29_0
        try clear hcz29_1
        try clear hfz10_0
        try clear hfz10_1
        try clear hfz13_0
        try clear hfz13_1
        try clear hfz13_2
        try clear hfz13_3
        try clear hfz13_4
        try clear hfz13_5
        try clear hfz13_6
        try clear hfz23_0
        try clear hfz23_1
        try clear hfz23_2
        try clear hfz23_3
        try clear hfz23_4
        try clear hfz23_5
        try clear hfz23_6
        try clear hfz26_0
        try clear hfz26_1
        try clear hfz27_0
        try clear hfz27_1
        try clear hfz27_2
        try clear hfz27_3
        try clear hfz27_4
        try clear hfz27_5
        try clear hfz27_6
        try clear hfz29_0
        try clear hfz29_1
        try clear hx102_0
        try clear hx102_1
        try clear hx102_2
        try clear hx102_3
        try clear hx102_4
        try clear hx102_5
        try clear hx102_6
        try clear p102
        try clear q102
        obtain ⟨x6_1, x34_1, rfl, HA, HK1, HO_6, HO_32, BK101, HB⟩ := hrel
        have hl32_1 := (Kd.R_reads' HO_32.out).1
        rw [hl32_1] at HO_32
        (try simp only [hl32_1])
        (try simp only [hl32_1] at BK101)
        (try simp only [hl32_1] at HO_6)
        cases gk with
        | zero => exact absurd HA.out (by simp [norm_under.l0])
        | succ k1 =>
          have H := HA.out
          clear HA
          simp only [norm_under.l0] at H
          by_cases c32 : x34_1 < (t113.length : Int)
          · rw [if_pos c32] at H
            have c32b0 : decide (x34_1 < (t113.length : Int)) = true := decide_eq_true c32
            rw [LEN.out] at c32b0
            clear c32
            by_cases c33 : 0 ≤ x34_1
            · rw [if_pos c33] at H
              have c33b0 : decide (0 ≤ x34_1) = true := decide_eq_true c33
              clear c33
              by_cases c34 : x34_1 < (t116.length : Int)
              · rw [if_pos c34] at H
                have c34b0 : decide (x34_1 < (t116.length : Int)) = true := decide_eq_true c34
                clear c34
                replace H := Option.bind_eq_some_iff.mp H
                obtain ⟨t118, A350, H⟩ := H
                replace H : (if x6_1.length + t118.length < 1353245080339 then (norm_under.l0 k1 (x6_1 ++ t118) t116 (t113.length : Int) (wrap64 (x34_1 + 1)) l0_0 l0_1) else (none)) = some r := H
                have A35 := am A350
                clear A350
                by_cases c36 : x6_1.length + t118.length < 1353245080339
                · rw [if_pos c36] at H
                  have LMc36 := am c36
                  clear c36
                  obtain ⟨y121, hy121⟩ : ∃ y_ : List (S47), y_ = (x6_1 ++ t118) := ⟨_, rfl⟩
                  replace H : (norm_under.l0 k1 y121 t116 (t113.length : Int) (wrap64 (x34_1 + 1)) l0_0 l0_1) = some r := by first | (rw [hy121]; with_reducible exact H) | (have H2_ := (Option.bind_some _ _).symm.trans H; rw [hy121]; with_reducible exact H2_) | (have H2_ := (Option.bind_some _ _).symm.trans H; with_reducible exact H2_) | with_reducible exact H | (rw [hy121]; exact H) | exact H
                  have Ny121 := am hy121
                  clear hy121
                  have H' := am H
                  clear H
                  have p117 : 0 ≤ (x34_1 : Int) := of_decide_eq_true (zas)
                  have q117 : x34_1 < (t116.length : Int) := of_decide_eq_true (zas)
                  obtain ⟨ad117, e117, hx117_0⟩ := Kd.at_int (Kd.R_reads' HO_32.out).2.2 x34_1 p117 q117
                  cases e117
                  replace p117 := eq_true p117
                  replace q117 := eq_true q117
                  obtain ⟨hcz37_0, hcz37_1, hfz37_0, hfz37_1⟩ := cf2 BK101.out
                  go_wp2_with (first | ((with_reducible refine gc_ 80 ?_); refine goesL_ (some 41) rfl rfl Tryz.func80 (by kernel_rfl) rfl #[.agg #[.slice A0_0 l0_0.length c0_0, .slice (some ad102) l0_1.length c0_1], .int .i64 (rd t116 x34_1)] rfl (za) ?_; (with_reducible refine (ih k1 (by have := HK1.out; omega) _ _ l0_0 _ _ l0_1 (rd t116 x34_1) t118 _ ?side1 ?side2 ?side3 ?side4 A35.out).mono ?_); (case side1 => exact zc (Kd.C_below HR0_0.out HB.out)); (case side2 => exact HC0_0.out); (case side3 => exact zc (Kd.C_below HR0_1.out HB.out)); (case side4 => exact HC0_1.out); rintro e w38 ⟨v119, rfl, ho0, hb⟩; refine ⟨_, rfl, ?_⟩; have HO120 := am (Kd.N_lower (Kd.N_mono (ok' := fun k_ => (w.heap.size ≤ k_) ∧ some k_ ≠ (u6 : Value).ownBlock ∧ some k_ ≠ (.slice (some ad117) t116.length co30 : Value).ownBlock ∧ k_ ≠ gb101) ho0 (fun k_ hk_ => ⟨(Nat.le_trans (below_size (zb)) hk_), (Kd.fresh' (Kd.N_lt (zN HO_6.out)) k_ hk_), (Kd.fresh' (Kd.R_lt (zR HO_32.out)) k_ hk_), (Kd.freshB (g := gb101) (o := .cells #[.slice A0_0 l0_0.length c0_0, .slice (some ad102) l0_1.length c0_1] 25 (0, 0)) (zl BK101.out) k_ hk_)⟩)) (below_size (zb))); replace HO_6 := am (Kd.N_elder' (zN HO_6.out) (Kd.N_base ho0) hb); replace HO_32 := am (Kd.R_below (zR HO_32.out) hb); replace BK101 := am (zw BK101.out hb); replace HB := am (below_step (zb) hb); (try clear hb); (try clear hb2); (try clear hk); (try clear hi); (try clear ho0); obtain ⟨Ao40, co40, eo40⟩ := Kd.N_slice HO120.out; subst eo40) | ((with_reducible refine gate_builtin (b := .append) (xs := #[.tmp 38, .tmp 41]) rfl ?_); at_builtin; refine Kd.N_append_rows k47 (w0 := w) w.heap.size rfl (.tmp 38) (.tmp 41) 23 47 (.agg #[(.string ⟨#[]⟩), (.int .i64 0), (.string ⟨#[]⟩), (.bool false), (.int .i64 0), (.slice none 0 0), (.slice none 0 0)]) 104 rfl Tryz.underlying23 info47 rfl (by decide) (by omega) u6 x6_1 t118 _ _ _ (fun k_ => (w.heap.size ≤ k_) ∧ some k_ ≠ (.slice (some ad117) t116.length co30 : Value).ownBlock ∧ k_ ≠ gb101) (fun k_ => ((fun k_ => (w.heap.size ≤ k_) ∧ some k_ ≠ (.slice (some ad117) t116.length co30 : Value).ownBlock ∧ k_ ≠ gb101)) k_ ∧ some k_ ≠ (u6 : Value).ownBlock) rfl rfl ?aO ?aR (fun _ hk => hk) ?aF ?aB ?aS ?aL ?_; (case aR => exact (by skip; exact Kd.N_F (Kd.N_mono (ok' := (fun k_ => ((fun k_ => (w.heap.size ≤ k_) ∧ some k_ ≠ (.slice (some ad117) t116.length co30 : Value).ownBlock ∧ k_ ≠ gb101)) k_ ∧ some k_ ≠ (u6 : Value).ownBlock)) (HO120.out) (fun k_ hk => ⟨⟨hk.1, ⟨hk.2.2.1, hk.2.2.2⟩⟩, hk.2.1⟩)))); (case aB => exact (zb)); (case aF => exact (fun k_ hk => ⟨(Nat.le_trans (below_size (zb)) hk), Kd.fresh' (Kd.R_lt (zR HO_32.out)) k_ hk, Kd.freshB (g := gb101) (o := .cells #[.slice A0_0 l0_0.length c0_0, .slice (some ad102) l0_1.length c0_1] 25 (0, 0)) (zl BK101.out) k_ hk⟩)); (case aO => exact (by refine zN ?_; exact Kd.N_mono HO_6.out (fun _ hk => ⟨hk.1.1, ⟨hk.1.2.1, hk.1.2.2⟩⟩))); (case aS => exact (below_size (zb))); (case aL => have := LMc36.out; omega); intro v122 w39 ho hb hg hat; rw [← Ny121.out] at ho; replace HO_32 := am (Kd.R_over' (zR HO_32.out) (Kd.N_typed (zN HO_6.out)) (by decide) hg); replace BK101 := am (blk_grown (g := gb101) (o := .cells #[.slice A0_0 l0_0.length c0_0, .slice (some ad102) l0_1.length c0_1] 25 (0, 0)) (zl BK101.out) hg (Kd.N_ne HO_6.out BK101.out (by decide))); replace HO120 := am (Kd.N_afterv (ok := (fun k_ => (w.heap.size ≤ k_) ∧ some k_ ≠ (.slice (some ad117) t116.length co30 : Value).ownBlock ∧ k_ ≠ gb101)) (by refine zN ?_; exact Kd.N_mono HO120.out (fun _ hk => ⟨⟨hk.1, ⟨hk.2.2.1, hk.2.2.2⟩⟩, hk.2.1⟩)) hg hat); replace HB := am (hb); have HO123 := am (ho); clear HO_6; clear ho hb hg hat))
                  (try simp only [← hl32_1])
                  go_roundg k1
                  case measure => have := HK1.out; omega
                  case rel => exact ⟨(y121), (wrap64 (x34_1 + 1)), (ze), H', ⟨by have := HK1.out; omega⟩, ⟨by (try simp only [hl32_1]); refine zN ?_; exact HO123.out⟩, ⟨by (try simp only [hl32_1]); refine zR ?_; exact HO_32.out⟩, ⟨by (try simp only [hl32_1]); refine zl ?_; exact BK101.out⟩, ⟨zb⟩⟩
                · rw [if_neg c36] at H
                  exact absurd H (by simp)
              · rw [if_neg c34] at H
                exact absurd H (by simp)
            · rw [if_neg c33] at H
              exact absurd H (by simp)
          · rw [if_neg c32] at H
            have c32b0 : decide (x34_1 < (t113.length : Int)) = false := decide_eq_false c32
            rw [LEN.out] at c32b0
            clear c32
            obtain rfl := Option.some.inj H
            go_wp2
            go_ret
            exact ⟨_, zf, by refine zN ?_; exact Kd.N_mono HO_6.out (fun _ hk => hk.1), zb⟩
    · rw [if_neg c4] at H
      exact absurd H (by simp)
  · rw [if_neg c3] at H
    exact absurd H (by simp)
end Go.Proofs.YtpbembafpnknhaaGreat.Pr
namespace Go.Proofs.YtpbembafpnknhaaGreat.Pr
open Go.RowKit Go.Proofs.YtpbembafpnknhaaGreatW.PrintWords Go.Proofs.YtpbembafpnknhaaGreatW.PrintLast Go.Proofs.YtpbembafpnknhaaGreatW.PrintMore
attribute [local go_sem] max2_int min2_int max_two min_two max_three min_three max_four min_four   -- for this text's walks alone
set_option linter.unusedVariables false
set_option linter.unusedSimpArgs false
def norm_Normal.f (k : Nat) (l0_0 : List ByteArray) (l0_1 : List (S47)) : Option (List ByteArray × (List (S47))) := (slices_Clone_string_string.f l0_0).bind fun t103 => ((slices_Sort_string_string.f t103).bind fun t106 => ((norm_under.f k l0_0 l0_1 0).bind fun t107 => (some (t106, t107))))
theorem norm_Normal.mono : ∀ a0 a1 k, LeO (norm_Normal.f k a0 a1) (norm_Normal.f (k + 1) a0 a1) := by
  intro a0 a1 k
  unfold norm_Normal.f
  repeat' first
      | (with_reducible exact norm_under.mono _ _ _ _)
      | (with_reducible exact LeO.refl _)
      | (with_reducible exact LeO.none _)
      | (with_reducible refine LeO.ite ?_ ?_)
      | (with_reducible refine LeO.bind ?_ (fun _ => ?_))
      | exact norm_under.mono _ _ _ _
      | exact LeO.none _
      | refine LeO.ite ?_ ?_
      | refine LeO.bind ?_ (fun _ => ?_)
set_option maxHeartbeats 8000000 in
set_option maxRecDepth 100000 in
theorem norm_Normal.calls (k : Nat) (A0_0 : Option Addr) (c0_0 : Nat) (l0_0 : List ByteArray) (A0_1 : Option Addr) (c0_1 : Nat) (l0_1 : List (S47)) (r1 : List ByteArray) (r2 : List (S47)) (w : World) (hr0_0 : Kd.C Kd.string w A0_0 l0_0.length l0_0) (hc0_0 : l0_0.length ≤ c0_0) (hr0_1 : Kd.C k47 w A0_1 l0_1.length l0_1) (hc0_1 : l0_1.length ≤ c0_1) (h : norm_Normal.f k l0_0 l0_1 = some (r1, r2)) :
    Calls Tryz.prog 36 #[.agg #[.slice A0_0 l0_0.length c0_0, .slice A0_1 l0_1.length c0_1]] w fun e w' => ∃ v0_ v1_ : Value, e = .returned (.agg #[v0_, v1_]) ∧ Kd.R Kd.string 9 w' w.heap.size (fun k_ => (w.heap.size ≤ k_)) v0_ r1 ∧ Kd.N k47 47 w' w.heap.size (fun k_ => (w.heap.size ≤ k_) ∧ some k_ ≠ (v0_ : Value).ownBlock) v1_ r2 ∧ Below w.heap.size w w' := by
  have hu25 := Tryz.underlying25
  have HR0_0 := am hr0_0
  have HC0_0 := am hc0_0
  clear hr0_0 hc0_0
  have HR0_1 := am hr0_1
  have HC0_1 := am hc0_1
  clear hr0_1 hc0_1
  have HB := am (Below.refl w.heap.size w)
  have H : ((slices_Clone_string_string.f l0_0).bind fun t103 => ((slices_Sort_string_string.f t103).bind fun t106 => ((norm_under.f k l0_0 l0_1 0).bind fun t107 => (some (t106, t107))))) = some (r1, r2) := h
  clear h
  replace H := Option.bind_eq_some_iff.mp H
  obtain ⟨t103, A20, H⟩ := H
  replace H : ((slices_Sort_string_string.f t103).bind fun t106 => ((norm_under.f k l0_0 l0_1 0).bind fun t107 => (some (t106, t107)))) = some (r1, r2) := H
  have A2 := am A20
  clear A20
  replace H := Option.bind_eq_some_iff.mp H
  obtain ⟨t106, A30, H⟩ := H
  replace H : ((norm_under.f k l0_0 l0_1 0).bind fun t107 => (some (t106, t107))) = some (r1, r2) := H
  have A3 := am A30
  clear A30
  replace H := Option.bind_eq_some_iff.mp H
  obtain ⟨t107, A40, H⟩ := H
  replace H : (some (t106, t107)) = some (r1, r2) := H
  have A4 := am A40
  clear A40
  simp only [Option.some.injEq, Prod.mk.injEq] at H
  obtain ⟨rfl, rfl⟩ := H
  go_enter Tryz.func36, Tryz.ntmps36
  go_wp2_with (first | ((with_reducible refine gd_ 1 ?_); refine bx_ 1 #[.slice A0_0 l0_0.length c0_0, .slice A0_1 l0_1.length c0_1] 25 ?_; intro gb101 hg w5 hbox hb; have BK101 := am (hbox); have GW101 := am (zg : w.heap.size ≤ gb101); have GE101 := am (zg : w.heap.size ≤ gb101); replace HB := am (below_step (zb) hb); clear hb hbox hg) | ((with_reducible refine gd_ 2 ?_); refine bx_ 2 #[.slice none 0 0, .slice none 0 0] 25 ?_; intro gb102 hg w6 hbox hb; have BK102 := am (hbox); have GW102 := am (zg : w.heap.size ≤ gb102); have GE102 := am (zg : w.heap.size ≤ gb102); replace HB := am (below_step (zb) hb); have NB101_102 := am ((zn BK101.out : gb101 ≠ gb102)); have NB102_101 := am ((zm BK101.out : gb102 ≠ gb101)); replace BK101 := am (zw BK101.out hb); clear hb hbox hg; have hnb7 := NB101_102.out; have hnc7 := NB102_101.out; obtain ⟨hcz8_0, hcz8_1, hfz8_0, hfz8_1⟩ := cf2 BK101.out) | ((with_reducible refine gc_ 78 ?_); refine goesL_ (some 6) rfl rfl Tryz.func78 (by kernel_rfl) rfl #[.slice A0_0 l0_0.length c0_0] rfl (za) ?_; (with_reducible refine (slices_Clone_string_string.calls _ _ l0_0 t103 _ ?side1 ?side2 A2.out).mono ?_); (case side1 => exact zc (Kd.C_below HR0_0.out HB.out)); (case side2 => exact HC0_0.out); rintro e w9 ⟨v104, rfl, ho0, hb⟩; refine ⟨_, rfl, ?_⟩; have HO105 := am (Kd.R_lower (Kd.R_newM (M := fun k_ => (w.heap.size ≤ k_)) ho0 (below_size (zb)) (fun k_ h_ => h_)) (below_size (zb))); replace BK101 := am (zw BK101.out hb); replace BK102 := am (zw BK102.out hb); replace HB := am (below_step (zb) hb); (try clear hb); (try clear hb2); (try clear hk); (try clear hi); (try clear ho0); obtain ⟨Ao10, co10, eo10⟩ := Kd.R_slice HO105.out; subst eo10) | ((with_reducible refine gc_ 79 ?_); refine goesL_ (some 8) rfl rfl Tryz.func79 (by kernel_rfl) rfl #[.slice Ao10 t103.length co10] rfl (za) ?_; (with_reducible refine (slices_Sort_string_string.calls (fun k_ => some k_ = (.slice Ao10 t103.length co10 : Value).ownBlock) (.slice Ao10 t103.length co10) t103 t106 w _ ?side1 ?side2 A3.out).mono ?_); (case side1 => repeat (first | (with_reducible first | exact HB.out | apply below_alloc | apply pw_below_drewN | apply below_drew1 | refine below_set ?_ GE101.out | refine below_set ?_ GE102.out) | exact HB.out)); (case side2 => exact Kd.R_tight rfl HO105.out); rintro e w11 ⟨rfl, hy0, hb, hkp⟩; refine ⟨_, rfl, ?_⟩; replace BK101 := am (blk_kept (zl BK101.out) hkp (fun hs_ => (fun e_ => (Kd.R_ne HO105.out BK101.out (by decide)) e_) hs_)); replace BK102 := am (blk_kept (zl BK102.out) hkp (fun hs_ => (fun e_ => (Kd.R_ne HO105.out BK102.out (by decide)) e_) hs_)); replace HO105 := am (Kd.R_reok rfl hy0 (fun k_ e_ => HO105.out.1 k_ e_)); replace HB := am (hb); (try clear hb); (try clear hkp); (try clear hy0); obtain ⟨hcz12_0, hcz12_1, hfz12_0, hfz12_1⟩ := cf2 BK101.out) | ((with_reducible refine gc_ 80 ?_); refine goesL_ (some 11) rfl rfl Tryz.func80 (by kernel_rfl) rfl #[.agg #[.slice A0_0 l0_0.length c0_0, .slice A0_1 l0_1.length c0_1], .int .i64 0] rfl (za) ?_; (with_reducible refine (norm_under.calls k _ _ l0_0 _ _ l0_1 0 t107 _ ?side1 ?side2 ?side3 ?side4 A4.out).mono ?_); (case side1 => exact zc (Kd.C_below HR0_0.out HB.out)); (case side2 => exact HC0_0.out); (case side3 => exact zc (Kd.C_below HR0_1.out HB.out)); (case side4 => exact HC0_1.out); rintro e w13 ⟨v108, rfl, ho0, hb⟩; refine ⟨_, rfl, ?_⟩; have HO109 := am (Kd.N_lower (Kd.N_mono (ok' := fun k_ => (w.heap.size ≤ k_) ∧ some k_ ≠ (.slice Ao10 t103.length co10 : Value).ownBlock ∧ k_ ≠ gb101 ∧ k_ ≠ gb102) ho0 (fun k_ hk_ => ⟨(Nat.le_trans (below_size (zb)) hk_), (Kd.fresh' (Kd.R_lt (zR HO105.out)) k_ hk_), (Kd.freshB (g := gb101) (o := .cells #[.slice A0_0 l0_0.length c0_0, .slice A0_1 l0_1.length c0_1] 25 (0, 0)) (zl BK101.out) k_ hk_), (Kd.freshB (g := gb102) (o := .cells #[.slice none 0 0, .slice none 0 0] 25 (0, 0)) (zl BK102.out) k_ hk_)⟩)) (below_size (zb))); replace HO105 := am (Kd.R_below (zR HO105.out) hb); replace BK101 := am (zw BK101.out hb); replace BK102 := am (zw BK102.out hb); replace HB := am (below_step (zb) hb); (try clear hb); (try clear hb2); (try clear hk); (try clear hi); (try clear ho0); obtain ⟨Ao14, co14, eo14⟩ := Kd.N_slice HO109.out; subst eo14; obtain ⟨hcz15_0, hcz15_1, hfz15_0, hfz15_1⟩ := cf2 BK102.out))
  refine bodyPost_ret (results_cell_row rfl _ _ gb102 25 #[.slice Ao10 t103.length co10, .slice Ao14 t107.length co14] (0, 0) _ rfl (by refine zl ?_; refine blk_put (cs := #[.slice Ao10 t103.length co10, .slice none 0 0]) ?_ 1 _ rfl; refine zl ?_; refine blk_put (cs := #[.slice none 0 0, .slice none 0 0]) ?_ 0 _ rfl; refine zl ?_; exact BK102.out) Tryz.underlying25 rfl (by kernel_rfl)) rfl ?_
  exact ⟨_, _, zf, by refine zR ?_; exact Kd.R_mono (Kd.R_far (p := ⟨gb102, 1, none⟩) (Kd.R_far (p := ⟨gb102, 0, none⟩) (Kd.R_types HO105.out BK102.out (by decide)) (fun _ hk => hk.2) (.slice Ao10 t103.length co10)) (fun _ hk => hk.2) (.slice Ao14 t107.length co14)) (fun _ hk => hk.1.1), by refine zN ?_; exact Kd.N_mono (Kd.N_far (p := ⟨gb102, 1, none⟩) (Kd.N_far (p := ⟨gb102, 0, none⟩) (Kd.N_mono HO109.out (fun k_ hk => (⟨hk, hk.2.2.2⟩ : _ ∧ k_ ≠ gb102))) (fun _ hk => hk.2) (.slice Ao10 t103.length co10)) (fun _ hk => hk.2) (.slice Ao14 t107.length co14)) (fun _ hk => ⟨hk.1.1, hk.1.2.1⟩), zb⟩
end Go.Proofs.YtpbembafpnknhaaGreat.Pr
namespace Go.Proofs.YtpbembafpnknhaaGreat.Pr
open Go.RowKit Go.Proofs.YtpbembafpnknhaaGreatW.PrintWords Go.Proofs.YtpbembafpnknhaaGreatW.PrintLast Go.Proofs.YtpbembafpnknhaaGreatW.PrintMore
attribute [local go_sem] max2_int min2_int max_two min_two max_three min_three max_four min_four   -- for this text's walks alone
set_option linter.unusedVariables false
set_option linter.unusedSimpArgs false
def slices_Equal_string_string.l0 : Nat → List ByteArray → List ByteArray → Int → Int → Option (Bool)
  | 0, _, _, _, _ => none
  | k + 1, x0, x1, x12, x13 => if x13 < x12 then (if 0 ≤ x13 then (if x13 < (x0.length : Int) then (if x13 < (x1.length : Int) then (if (rdOf ByteArray.empty x0 x13).toList = (rdOf ByteArray.empty x1 x13).toList then (slices_Equal_string_string.l0 k x0 x1 x12 (wrap64 (x13 + 1))) else (some false)) else (none)) else (none)) else (none)) else (some true)
def slices_Equal_string_string.f (k : Nat) (l0 : List ByteArray) (l1 : List ByteArray) : Option (Bool) := if (l0.length : Int) = (l1.length : Int) then (slices_Equal_string_string.l0 k l0 l1 (l0.length : Int) 0) else (some false)
theorem slices_Equal_string_string.mono_l : ∀ k, (∀ y0 y1 y2 y3, LeO (slices_Equal_string_string.l0 k y0 y1 y2 y3) (slices_Equal_string_string.l0 (k + 1) y0 y1 y2 y3))
  | 0 => fun _ _ _ _ r h => by simp [slices_Equal_string_string.l0] at h
  | k + 1 => by
    have ih0 := slices_Equal_string_string.mono_l k
    · intro y0 y1 y2 y3
      unfold slices_Equal_string_string.l0
      repeat' first
      | (with_reducible exact ih0 _ _ _ _)
      | (with_reducible exact LeO.refl _)
      | (with_reducible exact LeO.none _)
      | (with_reducible refine LeO.ite ?_ ?_)
      | (with_reducible refine LeO.bind ?_ (fun _ => ?_))
      | exact ih0 _ _ _ _
      | exact LeO.none _
      | refine LeO.ite ?_ ?_
      | refine LeO.bind ?_ (fun _ => ?_)
theorem slices_Equal_string_string.mono : ∀ a0 a1 k, LeO (slices_Equal_string_string.f k a0 a1) (slices_Equal_string_string.f (k + 1) a0 a1) := by
  intro a0 a1 k
  have ih0 := slices_Equal_string_string.mono_l k
  unfold slices_Equal_string_string.f
  repeat' first
      | (with_reducible exact ih0 _ _ _ _)
      | (with_reducible exact LeO.refl _)
      | (with_reducible exact LeO.none _)
      | (with_reducible refine LeO.ite ?_ ?_)
      | (with_reducible refine LeO.bind ?_ (fun _ => ?_))
      | exact ih0 _ _ _ _
      | exact LeO.none _
      | refine LeO.ite ?_ ?_
      | refine LeO.bind ?_ (fun _ => ?_)
set_option maxHeartbeats 8000000 in
set_option maxRecDepth 100000 in
theorem slices_Equal_string_string.calls (k : Nat) (A0 : Option Addr) (c0 : Nat) (l0 : List ByteArray) (A1 : Option Addr) (c1 : Nat) (l1 : List ByteArray) (r : Bool) (w : World) (hr0 : Kd.C Kd.string w A0 l0.length l0) (hc0 : l0.length ≤ c0) (hr1 : Kd.C Kd.string w A1 l1.length l1) (hc1 : l1.length ≤ c1) (h : slices_Equal_string_string.f k l0 l1 = some r) :
    Calls Tryz.prog 113 #[.slice A0 l0.length c0, .slice A1 l1.length c1] w fun e w' => e = .returned (.bool r) ∧ Drawn0 w w' := by
  have HR0 := am hr0
  have HC0 := am hc0
  clear hr0 hc0
  have HR1 := am hr1
  have HC1 := am hc1
  clear hr1 hc1
  have H : (if (l0.length : Int) = (l1.length : Int) then (slices_Equal_string_string.l0 k l0 l1 (l0.length : Int) 0) else (some false)) = some r := h
  clear h
  by_cases c3 : (l0.length : Int) = (l1.length : Int)
  · rw [if_pos c3] at H
    have c3b0 : ((l0.length : Int) == (l1.length : Int)) = true := beq_iff_eq.mpr c3
    have c3b1 : ((l0.length : Int) != (l1.length : Int)) = false := bne_eq_false_iff_eq.mpr c3
    have c3b2 : (l0.length == l1.length) = true := by first | simpa using c3 | (simp at c3 ⊢; omega)
    clear c3
    have H' := am H
    clear H
    go_enter Tryz.func113, Tryz.ntmps113
    go_wp2
    repeat (go_quiet (fail); try go_wp2)
    go_loopg [13] k (fun kq v13 w' => ∃ (x13_1 : Int), v13 = .int .i64 x13_1 ∧ Aside0 (slices_Equal_string_string.l0 kq l0 l1 (l0.length : Int) x13_1 = some r) ∧ Aside0 (kq ≤ k) ∧ Drawn0 w w')
    case atStart => exact ⟨(0), (ze), H', ⟨Nat.le_refl _⟩, zd⟩
    case round =>
      clear H'
      try clear c1
      try clear p2
      try clear c3
      try clear c3b0
      try clear c3b1
      try clear c3b2
      obtain ⟨x13_1, rfl, HA, HK1, ⟨m1, rfl⟩⟩ := hrel
      cases gk with
      | zero => exact absurd HA.out (by simp [slices_Equal_string_string.l0])
      | succ k1 =>
        have H := HA.out
        clear HA
        simp only [slices_Equal_string_string.l0] at H
        by_cases c4 : x13_1 < (l0.length : Int)
        · rw [if_pos c4] at H
          have c4b0 : decide (x13_1 < (l0.length : Int)) = true := decide_eq_true c4
          clear c4
          by_cases c5 : 0 ≤ x13_1
          · rw [if_pos c5] at H
            have c5b0 : decide (0 ≤ x13_1) = true := decide_eq_true c5
            clear c5
            by_cases c6 : x13_1 < (l0.length : Int)
            · rw [if_pos c6] at H
              have c6b0 : decide (x13_1 < (l0.length : Int)) = true := decide_eq_true c6
              clear c6
              by_cases c7 : x13_1 < (l1.length : Int)
              · rw [if_pos c7] at H
                have c7b0 : decide (x13_1 < (l1.length : Int)) = true := decide_eq_true c7
                clear c7
                by_cases c8 : (rdOf ByteArray.empty l0 x13_1).toList = (rdOf ByteArray.empty l1 x13_1).toList
                · rw [if_pos c8] at H
                  have c8b0 : ((rdOf ByteArray.empty l0 x13_1).toList == (rdOf ByteArray.empty l1 x13_1).toList) = true := beq_iff_eq.mpr c8
                  have c8b1 : ((rdOf ByteArray.empty l0 x13_1).toList != (rdOf ByteArray.empty l1 x13_1).toList) = false := bne_eq_false_iff_eq.mpr c8
                  clear c8
                  have H' := am H
                  clear H
                  have p101 : 0 ≤ (x13_1 : Int) := of_decide_eq_true (zas)
                  have q101 : x13_1 < (l0.length : Int) := of_decide_eq_true (zas)
                  obtain ⟨ad101, e101, hx101_0⟩ := Kd.at_string HR0.out x13_1 p101 q101
                  cases e101
                  replace p101 := eq_true p101
                  replace q101 := eq_true q101
                  have p102 : 0 ≤ (x13_1 : Int) := of_decide_eq_true (zas)
                  have q102 : x13_1 < (l1.length : Int) := of_decide_eq_true (zas)
                  obtain ⟨ad102, e102, hx102_0⟩ := Kd.at_string HR1.out x13_1 p102 q102
                  cases e102
                  replace p102 := eq_true p102
                  replace q102 := eq_true q102
                  go_wp2
                  repeat (go_quiet (fail); try go_wp2)
                  go_roundg k1
                  case measure => have := HK1.out; omega
                  case rel => exact ⟨(wrap64 (x13_1 + 1)), (ze), H', ⟨by have := HK1.out; omega⟩, zd⟩
                · rw [if_neg c8] at H
                  have c8b0 : ((rdOf ByteArray.empty l0 x13_1).toList == (rdOf ByteArray.empty l1 x13_1).toList) = false := beq_eq_false_iff_ne.mpr c8
                  have c8b1 : ((rdOf ByteArray.empty l0 x13_1).toList != (rdOf ByteArray.empty l1 x13_1).toList) = true := bne_iff_ne.mpr c8
                  obtain rfl := Option.some.inj H
                  have p101 : 0 ≤ (x13_1 : Int) := of_decide_eq_true (zas)
                  have q101 : x13_1 < (l0.length : Int) := of_decide_eq_true (zas)
                  obtain ⟨ad101, e101, hx101_0⟩ := Kd.at_string HR0.out x13_1 p101 q101
                  cases e101
                  replace p101 := eq_true p101
                  replace q101 := eq_true q101
                  have p102 : 0 ≤ (x13_1 : Int) := of_decide_eq_true (zas)
                  have q102 : x13_1 < (l1.length : Int) := of_decide_eq_true (zas)
                  obtain ⟨ad102, e102, hx102_0⟩ := Kd.at_string HR1.out x13_1 p102 q102
                  cases e102
                  replace p102 := eq_true p102
                  replace q102 := eq_true q102
                  go_wp2
                  repeat (go_quiet (fail); try go_wp2)
                  go_ret
                  exact ⟨ze, zd⟩
              · rw [if_neg c7] at H
                exact absurd H (by simp)
            · rw [if_neg c6] at H
              exact absurd H (by simp)
          · rw [if_neg c5] at H
            exact absurd H (by simp)
        · rw [if_neg c4] at H
          have c4b0 : decide (x13_1 < (l0.length : Int)) = false := decide_eq_false c4
          clear c4
          obtain rfl := Option.some.inj H
          go_wp2
          repeat (go_quiet (fail); try go_wp2)
          go_ret
          exact ⟨ze, zd⟩
  · rw [if_neg c3] at H
    have c3b0 : ((l0.length : Int) == (l1.length : Int)) = false := beq_eq_false_iff_ne.mpr c3
    have c3b1 : ((l0.length : Int) != (l1.length : Int)) = true := bne_iff_ne.mpr c3
    have c3b2 : (l0.length == l1.length) = false := by first | simpa using c3 | (simp at c3 ⊢; omega)
    obtain rfl := Option.some.inj H
    go_enter Tryz.func113, Tryz.ntmps113
    go_wp2
    repeat (go_quiet (fail); try go_wp2)
    go_ret
    exact ⟨ze, zd⟩
end Go.Proofs.YtpbembafpnknhaaGreat.Pr
namespace Go.Proofs.YtpbembafpnknhaaGreat.Pr
open Go.RowKit Go.Proofs.YtpbembafpnknhaaGreatW.PrintWords Go.Proofs.YtpbembafpnknhaaGreatW.PrintLast Go.Proofs.YtpbembafpnknhaaGreatW.PrintMore
attribute [local go_sem] max2_int min2_int max_two min_two max_three min_three max_four min_four   -- for this text's walks alone
set_option linter.unusedVariables false
set_option linter.unusedSimpArgs false
attribute [local go_sem high] eqA78
def api_On_230.l0 : Nat → List (S78) → List (S78) → Int → Int → Option (Bool)
  | 0, _, _, _, _ => none
  | k + 1, x0, x1, x12, x13 => if x13 < x12 then (if 0 ≤ x13 then (if x13 < (x0.length : Int) then (if x13 < (x1.length : Int) then (if (!((((rd_T78 x0 x13).f0).toList) == (((rd_T78 x1 x13).f0).toList)) || (!(((rd_T78 x0 x13).f1) == ((rd_T78 x1 x13).f1)))) = true then (some false) else (api_On_230.l0 k x0 x1 x12 (wrap64 (x13 + 1)))) else (none)) else (none)) else (none)) else (some true)
def api_On_230.f (k : Nat) (l0 : List (S78)) (l1 : List (S78)) : Option (Bool) := if (l0.length : Int) = (l1.length : Int) then (api_On_230.l0 k l0 l1 (l0.length : Int) 0) else (some false)
theorem api_On_230.mono_l : ∀ k, (∀ y0 y1 y2 y3, LeO (api_On_230.l0 k y0 y1 y2 y3) (api_On_230.l0 (k + 1) y0 y1 y2 y3))
  | 0 => fun _ _ _ _ r h => by simp [api_On_230.l0] at h
  | k + 1 => by
    have ih0 := api_On_230.mono_l k
    · intro y0 y1 y2 y3
      unfold api_On_230.l0
      repeat' first
      | (with_reducible exact ih0 _ _ _ _)
      | (with_reducible exact LeO.refl _)
      | (with_reducible exact LeO.none _)
      | (with_reducible refine LeO.ite ?_ ?_)
      | (with_reducible refine LeO.bind ?_ (fun _ => ?_))
      | exact ih0 _ _ _ _
      | exact LeO.none _
      | refine LeO.ite ?_ ?_
      | refine LeO.bind ?_ (fun _ => ?_)
theorem api_On_230.mono : ∀ a0 a1 k, LeO (api_On_230.f k a0 a1) (api_On_230.f (k + 1) a0 a1) := by
  intro a0 a1 k
  have ih0 := api_On_230.mono_l k
  unfold api_On_230.f
  repeat' first
      | (with_reducible exact ih0 _ _ _ _)
      | (with_reducible exact LeO.refl _)
      | (with_reducible exact LeO.none _)
      | (with_reducible refine LeO.ite ?_ ?_)
      | (with_reducible refine LeO.bind ?_ (fun _ => ?_))
      | exact ih0 _ _ _ _
      | exact LeO.none _
      | refine LeO.ite ?_ ?_
      | refine LeO.bind ?_ (fun _ => ?_)
set_option maxHeartbeats 8000000 in
set_option maxRecDepth 100000 in
theorem api_On_230.calls (k : Nat) (A0 : Option Addr) (c0 : Nat) (l0 : List (S78)) (A1 : Option Addr) (c1 : Nat) (l1 : List (S78)) (r : Bool) (w : World) (hr0 : Kd.C k78 w A0 l0.length l0) (hc0 : l0.length ≤ c0) (hr1 : Kd.C k78 w A1 l1.length l1) (hc1 : l1.length ≤ c1) (h : api_On_230.f k l0 l1 = some r) :
    Calls Tryz.prog 230 #[.slice A0 l0.length c0, .slice A1 l1.length c1] w fun e w' => e = .returned (.bool r) ∧ Drawn0 w w' := by
  have hu78 := Tryz.underlying78
  have HR0 := am hr0
  have HC0 := am hc0
  clear hr0 hc0
  have HR1 := am hr1
  have HC1 := am hc1
  clear hr1 hc1
  have H : (if (l0.length : Int) = (l1.length : Int) then (api_On_230.l0 k l0 l1 (l0.length : Int) 0) else (some false)) = some r := h
  clear h
  by_cases c3 : (l0.length : Int) = (l1.length : Int)
  · rw [if_pos c3] at H
    have c3b0 : ((l0.length : Int) == (l1.length : Int)) = true := beq_iff_eq.mpr c3
    have c3b1 : ((l0.length : Int) != (l1.length : Int)) = false := bne_eq_false_iff_eq.mpr c3
    have c3b2 : (l0.length == l1.length) = true := by first | simpa using c3 | (simp at c3 ⊢; omega)
    clear c3
    have H' := am H
    clear H
    go_enter Tryz.func230, Tryz.ntmps230
    go_wp2
    repeat (go_quiet (fail); try go_wp2)
    go_loopg [13] k (fun kq v13 w' => ∃ (x13_1 : Int), v13 = .int .i64 x13_1 ∧ Aside0 (api_On_230.l0 kq l0 l1 (l0.length : Int) x13_1 = some r) ∧ Aside0 (kq ≤ k) ∧ Drawn0 w w')
    case atStart => exact ⟨(0), (ze), H', ⟨Nat.le_refl _⟩, zd⟩
    case round =>
      clear H'
      try clear c1
      try clear c2
      try clear p2
      try clear c3
      try clear c3b0
      try clear c3b1
      try clear c3b2
      obtain ⟨x13_1, rfl, HA, HK1, ⟨m1, rfl⟩⟩ := hrel
      cases gk with
      | zero => exact absurd HA.out (by simp [api_On_230.l0])
      | succ k1 =>
        have H := HA.out
        clear HA
        simp only [api_On_230.l0] at H
        by_cases c4 : x13_1 < (l0.length : Int)
        · rw [if_pos c4] at H
          have c4b0 : decide (x13_1 < (l0.length : Int)) = true := decide_eq_true c4
          clear c4
          by_cases c5 : 0 ≤ x13_1
          · rw [if_pos c5] at H
            have c5b0 : decide (0 ≤ x13_1) = true := decide_eq_true c5
            clear c5
            by_cases c6 : x13_1 < (l0.length : Int)
            · rw [if_pos c6] at H
              have c6b0 : decide (x13_1 < (l0.length : Int)) = true := decide_eq_true c6
              clear c6
              by_cases c7 : x13_1 < (l1.length : Int)
              · rw [if_pos c7] at H
                have c7b0 : decide (x13_1 < (l1.length : Int)) = true := decide_eq_true c7
                clear c7
                by_cases c8 : (!((((rd_T78 l0 x13_1).f0).toList) == (((rd_T78 l1 x13_1).f0).toList)) || (!(((rd_T78 l0 x13_1).f1) == ((rd_T78 l1 x13_1).f1)))) = true
                · rw [if_pos c8] at H
                  have c8b0 : (!((((rd_T78 l0 x13_1).f0).toList) == (((rd_T78 l1 x13_1).f0).toList)) || (!(((rd_T78 l0 x13_1).f1) == ((rd_T78 l1 x13_1).f1)))) = true := c8
                  clear c8
                  obtain rfl := Option.some.inj H
                  have p101 : 0 ≤ (x13_1 : Int) := of_decide_eq_true (zas)
                  have q101 : x13_1 < (l0.length : Int) := of_decide_eq_true (zas)
                  obtain ⟨ad101, e101, hx101_0, hx101_1⟩ := at_T78 HR0.out x13_1 p101 q101
                  cases e101
                  replace p101 := eq_true p101
                  replace q101 := eq_true q101
                  have p102 : 0 ≤ (x13_1 : Int) := of_decide_eq_true (zas)
                  have q102 : x13_1 < (l1.length : Int) := of_decide_eq_true (zas)
                  obtain ⟨ad102, e102, hx102_0, hx102_1⟩ := at_T78 HR1.out x13_1 p102 q102
                  cases e102
                  replace p102 := eq_true p102
                  replace q102 := eq_true q102
                  go_wp2
                  repeat (go_quiet (fail); try go_wp2)
                  go_ret
                  exact ⟨ze, zd⟩
                · rw [if_neg c8] at H
                  have c8b0 : (!((((rd_T78 l0 x13_1).f0).toList) == (((rd_T78 l1 x13_1).f0).toList)) || (!(((rd_T78 l0 x13_1).f1) == ((rd_T78 l1 x13_1).f1)))) = false := by simpa using c8
                  clear c8
                  have H' := am H
                  clear H
                  have p101 : 0 ≤ (x13_1 : Int) := of_decide_eq_true (zas)
                  have q101 : x13_1 < (l0.length : Int) := of_decide_eq_true (zas)
                  obtain ⟨ad101, e101, hx101_0, hx101_1⟩ := at_T78 HR0.out x13_1 p101 q101
                  cases e101
                  replace p101 := eq_true p101
                  replace q101 := eq_true q101
                  have p102 : 0 ≤ (x13_1 : Int) := of_decide_eq_true (zas)
                  have q102 : x13_1 < (l1.length : Int) := of_decide_eq_true (zas)
                  obtain ⟨ad102, e102, hx102_0, hx102_1⟩ := at_T78 HR1.out x13_1 p102 q102
                  cases e102
                  replace p102 := eq_true p102
                  replace q102 := eq_true q102
                  go_wp2
                  repeat (go_quiet (fail); try go_wp2)
                  go_roundg k1
                  case measure => have := HK1.out; omega
                  case rel => exact ⟨(wrap64 (x13_1 + 1)), (ze), H', ⟨by have := HK1.out; omega⟩, zd⟩
              · rw [if_neg c7] at H
                exact absurd H (by simp)
            · rw [if_neg c6] at H
              exact absurd H (by simp)
          · rw [if_neg c5] at H
            exact absurd H (by simp)
        · rw [if_neg c4] at H
          have c4b0 : decide (x13_1 < (l0.length : Int)) = false := decide_eq_false c4
          clear c4
          obtain rfl := Option.some.inj H
          go_wp2
          repeat (go_quiet (fail); try go_wp2)
          go_ret
          exact ⟨ze, zd⟩
  · rw [if_neg c3] at H
    have c3b0 : ((l0.length : Int) == (l1.length : Int)) = false := beq_eq_false_iff_ne.mpr c3
    have c3b1 : ((l0.length : Int) != (l1.length : Int)) = true := bne_iff_ne.mpr c3
    have c3b2 : (l0.length == l1.length) = false := by first | simpa using c3 | (simp at c3 ⊢; omega)
    obtain rfl := Option.some.inj H
    go_enter Tryz.func230, Tryz.ntmps230
    go_wp2
    repeat (go_quiet (fail); try go_wp2)
    go_ret
    exact ⟨ze, zd⟩
end Go.Proofs.YtpbembafpnknhaaGreat.Pr
