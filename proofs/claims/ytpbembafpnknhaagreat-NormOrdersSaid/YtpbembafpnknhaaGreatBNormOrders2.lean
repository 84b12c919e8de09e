/- Proof texts of one seat, in one file: the walks of functions and the lemmas under them, printed by programs and typed by hand. Put together by wip/bundle.py. -/
import Derived.Test.YtpbembafpnknhaaGreatRows
import Derived.ArgAppend
import Derived.Below
import Derived.BigQuiet
import Derived.ChangeArms
import Derived.ChangeOld
import Derived.ChangeSlices
import Derived.Deep.AppendLies
import Derived.Deep.CutBlock
import Derived.Deep.DeepCutAuto
import Derived.Deep.Draws
import Derived.Deep.LoopGhost
import Derived.Deep.OwnRows
import Derived.Deep.QuietTactic
import Derived.Deep.RegionHeld3
import Derived.Deep.RegionLawGrows
import Derived.Deep.Upon
import Derived.Ground.Names2Prog
import Derived.Ground.SlgfProg
import Derived.Ground.SlgnProg
import Derived.Ground.SlsfProg
import Derived.JoinedOf
import Derived.KernelRfl
import Derived.Laws.BitsLemmas
import Derived.Laws.BytesArg
import Derived.Laws.IdiomCopy
import Derived.Laws.MakeOwn
import Derived.Laws.OwnMore
import Derived.Laws.Rows
import Derived.Laws.Slices
import Derived.Laws.StructEq
import Derived.Lib.AppendStr
import Derived.Lib.ConvBytes
import Derived.Lib.Hide
import Derived.Maps.AppendAt
import Derived.OpenShut
import Derived.OrdersHeld
import Derived.OwnWalk
import Derived.ProofKit
import Derived.RowKit
import Derived.RowKit3
import Derived.Shelf.GgSortFunc.InsertionK
import Derived.Shelf.SlGeneric
import Derived.Shelf.SlSortCmp.NoneTotal
import Derived.Shelf.Slices.In.SortNone
import Derived.Shelf.SlicesE.Clone
import Derived.Shelf.SlicesQ.IndexFunc
import Derived.Shelf.Sort.Plain
import Derived.ShutString
import Derived.SizedLaws
import Derived.Sort.Grow
import Derived.Sort.Walk0
import Derived.StillTailTactics
import Derived.Tactics
import Derived.WalkKit
import Derived.WalkSpells
import Derived.WideLaws
import Derived.Test.YtpbembafpnknhaaGreatBNormOrders0
import Derived.Test.YtpbembafpnknhaaGreatBNormOrders1
namespace Go.Proofs.YtpbembafpnknhaaGreat.PrD
open Go.Proofs.YtpbembafpnknhaaGreat.Pr
open Go.RowKit Go.Proofs.YtpbembafpnknhaaGreatW.PrintWords Go.Proofs.YtpbembafpnknhaaGreatW.PrintLast Go.Proofs.YtpbembafpnknhaaGreatW.PrintMore
attribute [local go_sem] max2_int min2_int max_two min_two max_three min_three max_four min_four   -- for this text's walks alone
set_option linter.unusedVariables false
set_option linter.unusedSimpArgs false
def norm_CmpSentry.f (k : Nat) (l0_0 : List (S78)) (l0_1 : List (S93)) (l1_0 : List (S78)) (l1_1 : List (S93)) : Option (Int) := (slices_CompareFunc_cmpOn.f k l0_0 l1_0).bind fun t103 => ((slices_CompareFunc_cmpIf.f k l0_1 l1_1).bind fun t104 => ((cmp_Or_int.f k (([t103, t104] : List Int))).bind fun t108 => (some t108)))
theorem norm_CmpSentry.mono : ∀ a0 a1 a2 a3 k, LeO (norm_CmpSentry.f k a0 a1 a2 a3) (norm_CmpSentry.f (k + 1) a0 a1 a2 a3) := by
  intro a0 a1 a2 a3 k
  unfold norm_CmpSentry.f
  repeat' first
      | (with_reducible exact cmp_Or_int.mono _ _)
      | (with_reducible exact slices_CompareFunc_cmpIf.mono _ _ _)
      | (with_reducible exact slices_CompareFunc_cmpOn.mono _ _ _)
      | (with_reducible exact LeO.refl _)
      | (with_reducible exact LeO.none _)
      | (with_reducible refine LeO.ite ?_ ?_)
      | (with_reducible refine LeO.bind ?_ (fun _ => ?_))
      | exact cmp_Or_int.mono _ _
      | exact slices_CompareFunc_cmpIf.mono _ _ _
      | exact slices_CompareFunc_cmpOn.mono _ _ _
      | exact LeO.none _
      | refine LeO.ite ?_ ?_
      | refine LeO.bind ?_ (fun _ => ?_)
def norm_CmpSentry.T1 : Bool × List (List Nat × List Nat) := (true, [([], []), ([0], [0]), ([], []), ([2], [2]), ([1, 3], [1, 3]), ([], []), ([5], [5]), ([], []), ([7], [7]), ([6, 8, 4], [6, 8]), ([4, 9], [4, 9]), ([10, 9], [10]), ([11, 11, 0, 1, 2, 3, 4, 5, 6, 7, 8, 9, 10, 11], [11])])
def norm_CmpSentry.B1 : List Nat := [0, 1, 0, 4, 15, 0, 32, 0, 128, 511, 1023, 2047, 4095]
theorem norm_CmpSentry.tab1 : rtab .any (opsOf Tryz.f32 1) = norm_CmpSentry.T1 := by kernel_rfl
theorem norm_CmpSentry.bits1 : waitsOk norm_CmpSentry.T1.2 norm_CmpSentry.B1 = true := by kernel_rfl
set_option maxHeartbeats 8000000 in
set_option maxRecDepth 100000 in
theorem norm_CmpSentry.calls (k : Nat) (A0_0 : Option Addr) (c0_0 : Nat) (l0_0 : List (S78)) (A0_1 : Option Addr) (c0_1 : Nat) (l0_1 : List (S93)) (A1_0 : Option Addr) (c1_0 : Nat) (l1_0 : List (S78)) (A1_1 : Option Addr) (c1_1 : Nat) (l1_1 : List (S93)) (r : Int) (w : World) (hr0_0 : Kd.C k78 w A0_0 l0_0.length l0_0) (hc0_0 : l0_0.length ≤ c0_0) (hr0_1 : Kd.C k93 w A0_1 l0_1.length l0_1) (hc0_1 : l0_1.length ≤ c0_1) (hr1_0 : Kd.C k78 w A1_0 l1_0.length l1_0) (hc1_0 : l1_0.length ≤ c1_0) (hr1_1 : Kd.C k93 w A1_1 l1_1.length l1_1) (hc1_1 : l1_1.length ≤ c1_1) (h : norm_CmpSentry.f k l0_0 l0_1 l1_0 l1_1 = some r) :
    Calls Tryz.prog 32 #[.agg #[.slice A0_0 l0_0.length c0_0, .slice A0_1 l0_1.length c0_1], .agg #[.slice A1_0 l1_0.length c1_0, .slice A1_1 l1_1.length c1_1]] w fun e w' => e = .returned (.int .i64 r) ∧ Below w.heap.size w w' := by
  have hu29 := Tryz.underlying29
  have HR0_0 := am hr0_0
  have HC0_0 := am hc0_0
  clear hr0_0 hc0_0
  have HR0_1 := am hr0_1
  have HC0_1 := am hc0_1
  clear hr0_1 hc0_1
  have HR1_0 := am hr1_0
  have HC1_0 := am hc1_0
  clear hr1_0 hc1_0
  have HR1_1 := am hr1_1
  have HC1_1 := am hc1_1
  clear hr1_1 hc1_1
  have HB := am (Below.refl w.heap.size w)
  have H : ((slices_CompareFunc_cmpOn.f k l0_0 l1_0).bind fun t103 => ((slices_CompareFunc_cmpIf.f k l0_1 l1_1).bind fun t104 => ((cmp_Or_int.f k (([t103, t104] : List Int))).bind fun t108 => (some t108)))) = some r := h
  clear h
  replace H := Option.bind_eq_some_iff.mp H
  obtain ⟨t103, A30, H⟩ := H
  replace H : ((slices_CompareFunc_cmpIf.f k l0_1 l1_1).bind fun t104 => ((cmp_Or_int.f k (([t103, t104] : List Int))).bind fun t108 => (some t108))) = some r := H
  have A3 := am A30
  clear A30
  replace H := Option.bind_eq_some_iff.mp H
  obtain ⟨t104, A40, H⟩ := H
  replace H : ((cmp_Or_int.f k (([t103, t104] : List Int))).bind fun t108 => (some t108)) = some r := H
  have A4 := am A40
  clear A40
  obtain ⟨y105, hy105⟩ : ∃ y_ : List Int, y_ = (([t103, t104] : List Int)) := ⟨_, rfl⟩
  replace H : ((cmp_Or_int.f k y105).bind fun t108 => (some t108)) = some r := by first | (rw [hy105]; with_reducible exact H) | (have H2_ := (Option.bind_some _ _).symm.trans H; rw [hy105]; with_reducible exact H2_) | (have H2_ := (Option.bind_some _ _).symm.trans H; with_reducible exact H2_) | with_reducible exact H | (rw [hy105]; exact H) | exact H
  have Ny105 := am hy105
  clear hy105
  replace H := Option.bind_eq_some_iff.mp H
  obtain ⟨t108, A50, H⟩ := H
  replace H : (some t108) = some r := H
  have A5 := am A50
  clear A50
  obtain rfl := Option.some.inj H
  go_enter Tryz.func32, Tryz.ntmps32
  try go_wp2_with (first | ((with_reducible refine gd_ 2 ?_); refine bx_ 2 #[.slice A0_0 l0_0.length c0_0, .slice A0_1 l0_1.length c0_1] 29 ?_; intro gb101 hg w6 hbox hb; have BK101 := am (hbox); have GW101 := am (zg : w.heap.size ≤ gb101); have GE101 := am (zg : w.heap.size ≤ gb101); replace HB := am (below_step (zb) hb); clear hb hbox hg) | ((with_reducible refine gd_ 3 ?_); refine bx_ 3 #[.slice A1_0 l1_0.length c1_0, .slice A1_1 l1_1.length c1_1] 29 ?_; intro gb102 hg w7 hbox hb; have BK102 := am (hbox); have GW102 := am (zg : w.heap.size ≤ gb102); have GE102 := am (zg : w.heap.size ≤ gb102); replace HB := am (below_step (zb) hb); have NB101_102 := am ((zn BK101.out : gb101 ≠ gb102)); have NB102_101 := am ((zm BK101.out : gb102 ≠ gb101)); replace BK101 := am (zw BK101.out hb); clear hb hbox hg))
  replace BK101 := am (blk_drew BK101.out)
  replace BK102 := am (blk_drew BK102.out)
  replace HB := am (below_drew1 HB.out)
  refine start_ (n := 13) (S := fun w' => w'.cell? ⟨gb101, 0, none⟩ = some (.slice A0_0 l0_0.length c0_0) ∧ w'.cell? ⟨gb101, 1, none⟩ = some (.slice A0_1 l0_1.length c0_1) ∧ w'.cell? ⟨gb102, 0, none⟩ = some (.slice A1_0 l1_0.length c1_0) ∧ w'.cell? ⟨gb102, 1, none⟩ = some (.slice A1_1 l1_1.length c1_1)) (ds := []) #[false, false, false, false, false, false, false, false, false, false, false, false, false] (by kernel_rfl) rfl rfl ⟨(blk_cell BK101.out 0).trans rfl, (blk_cell BK101.out 1).trans rfl, (blk_cell BK102.out 0).trans rfl, (blk_cell BK102.out 1).trans rfl⟩ (fun hHeld => ?_); refine with_tabW norm_CmpSentry.tab1 norm_CmpSentry.bits1 (fun HT_ HW_ => ?_)
  generalize w7.drew = w8 at BK101 BK102 HB hHeld ⊢
  refine pz_ 0 5 13 1 ?_
  refine pz_ 2 7 13 5 ?_
  refine pz_ 5 10 13 37 ?_
  refine pz_ 7 12 13 165 ?_
  refine tz_ 1 6 13 167 ?_
  refine tz_ 3 8 13 175 ?_
  refine tz_ 6 11 13 239 ?_
  refine tz_ 8 13 13 495 ?_
  refine one_ (i := 4) (N := some 9) #[true, true, true, true, true, true, true, true, true, false, false, false, false] rfl rfl (one_of HT_.out (by kernel_rfl)) (by decide) (fun K hK => ?_)
  refine goes_ Tryz.func65 (by kernel_rfl) rfl #[.slice A0_0 l0_0.length c0_0, .slice A1_0 l1_0.length c1_0, (.func (.func 66) #[] #[])] (by rfl) rfl rfl (za) ?_
  with_reducible refine (slices_CompareFunc_cmpOn.calls k _ _ l0_0 _ _ l1_0 t103 _ ?side1 ?side2 ?side3 ?side4 A3.out).mono ?_
  (case side1 => exact zc (Kd.C_below HR0_0.out HB.out))
  (case side2 => exact HC0_0.out)
  (case side3 => exact zc (Kd.C_below HR1_0.out HB.out))
  (case side4 => exact HC1_0.out)
  rintro e w9 ⟨rfl, hb⟩
  refine ⟨_, rfl, ?_⟩
  replace BK101 := am (zw BK101.out hb)
  replace BK102 := am (zw BK102.out hb)
  replace HB := am (below_step (zb) hb)
  (try clear hb)
  (try clear hb2)
  (try clear hk)
  (try clear hi)
  refine hK.out _ _ ⟨(blk_cell BK101.out 0).trans rfl, (blk_cell BK101.out 1).trans rfl, (blk_cell BK102.out 0).trans rfl, (blk_cell BK102.out 1).trans rfl⟩ (fun hHeld => ?_)
  clear hK K
  refine nz_ 9 ?_
  refine one_ (i := 9) (N := some 14) #[true, true, true, true, true, true, true, true, true, true, false, false, false] rfl rfl (one_of HT_.out (by kernel_rfl)) (by decide) (fun K hK => ?_)
  refine goes_ Tryz.func67 (by kernel_rfl) rfl #[.slice A0_1 l0_1.length c0_1, .slice A1_1 l1_1.length c1_1, (.func (.func 68) #[] #[])] (by rfl) rfl rfl (za) ?_
  with_reducible refine (slices_CompareFunc_cmpIf.calls k _ _ l0_1 _ _ l1_1 t104 _ ?side1 ?side2 ?side3 ?side4 A4.out).mono ?_
  (case side1 => exact zc (Kd.C_below HR0_1.out HB.out))
  (case side2 => exact HC0_1.out)
  (case side3 => exact zc (Kd.C_below HR1_1.out HB.out))
  (case side4 => exact HC1_1.out)
  rintro e w10 ⟨rfl, hb⟩
  refine ⟨_, rfl, ?_⟩
  replace BK101 := am (zw BK101.out hb)
  replace BK102 := am (zw BK102.out hb)
  replace HB := am (below_step (zb) hb)
  (try clear hb)
  (try clear hb2)
  (try clear hk)
  (try clear hi)
  refine hK.out _ _ ⟨(blk_cell BK101.out 0).trans rfl, (blk_cell BK101.out 1).trans rfl, (blk_cell BK102.out 0).trans rfl, (blk_cell BK102.out 1).trans rfl⟩ (fun hHeld => ?_)
  clear hK K
  refine nz_ 14 ?_
  refine one_ (i := 10) (N := some 15) #[true, true, true, true, true, true, true, true, true, true, true, false, false] rfl rfl (one_of HT_.out (by kernel_rfl)) (by decide) (fun K hK => ?_)
  refine Kd.R_lit_step (Kd.int .i64) _ 3 ?hg (N := 15) ?hd (xs := ([t103, t104] : List Int)) (inner := [.int .i64 t103, .int .i64 t104]) (ok := fun _ => True) (okp := fun _ => True) ?hr ?hp (fun _ hk => hk) trivial (Below.refl _ _) (Nat.le_refl _) (by simp) ?_; (case hd => rfl); (case hg => rfl); (case hr => first | (go_simp; done) | (go_simp; rfl)); (case hp => exact (Reps.one (show Kd.M (Kd.int .i64) _ _ _ t103 [.int .i64 t103] from rfl) (Reps.one (show Kd.M (Kd.int .i64) _ _ _ t104 [.int .i64 t104] from rfl) (Reps.none _ _))))
  intro v106 w11 ho12 hb hg_ hnew_
  clear hg_ hnew_
  (first | rw [← Ny105.out] at ho12 | (simp only [Int.reduceToNat] at ho12; rw [← Ny105.out] at ho12))
  have HO107 := am (Kd.R_lower ho12 (below_size (zb)))
  replace BK101 := am (zw BK101.out hb)
  replace BK102 := am (zw BK102.out hb)
  replace HB := am (below_step (zb) hb)
  clear hb ho12
  obtain ⟨Ao13, co13, eo13⟩ := Kd.R_slice HO107.out
  (first | subst eo13 | (injection eo13 with f1_ f2_ f3_; have f4_ := f1_.symm; have f5_ := f3_.symm; clear f1_ f2_ f3_; subst f4_; subst f5_))
  refine hK.out _ _ ⟨(blk_cell BK101.out 0).trans rfl, (blk_cell BK101.out 1).trans rfl, (blk_cell BK102.out 0).trans rfl, (blk_cell BK102.out 1).trans rfl⟩ (fun hHeld => ?_)
  clear hK K
  refine nz_ 15 ?_
  refine one_ (i := 11) (N := some 16) #[true, true, true, true, true, true, true, true, true, true, true, true, false] rfl rfl (one_of HT_.out (by kernel_rfl)) (by decide) (fun K hK => ?_)
  refine goes_ Tryz.func64 (by kernel_rfl) rfl #[.slice Ao13 y105.length co13] (by rfl) rfl rfl (za) ?_
  with_reducible refine (cmp_Or_int.calls k _ _ y105 t108 _ ?side1 ?side2 A5.out).mono ?_
  (case side1 => exact zc (Kd.R_reads' HO107.out).2.2)
  (case side2 => exact (Kd.R_reads' HO107.out).2.1)
  rintro e w' ⟨rfl, ⟨nd, rfl⟩⟩
  refine ⟨_, rfl, ?_⟩
  refine hK.out _ _ ⟨(blk_cell BK101.out 0).trans rfl, (blk_cell BK101.out 1).trans rfl, (blk_cell BK102.out 0).trans rfl, (blk_cell BK102.out 1).trans rfl⟩ (fun hHeld => ?_)
  clear hK K
  refine nz_ 16 ?_
  refine pz_ 12 4 13 8191 ?_
  refine done_ (done_of HT_.out (by kernel_rfl)) ?_
  try go_wp2
  go_ret
  exact ⟨zf, zb⟩
end Go.Proofs.YtpbembafpnknhaaGreat.PrD
namespace Go.Proofs.YtpbembafpnknhaaGreat.Pr
open Go.RowKit Sn Go.Proofs.YtpbembafpnknhaaGreatW.PrintWords
theorem bs_inj {a b : ByteArray} (h : a.toList = b.toList) : a = b := by
  rw [ByteArray.toList_eq, ByteArray.toList_eq] at h
  exact ByteArray.ext (Array.ext' h)
def cmpS (a b : ByteArray) : Int := cmpBs a.toList b.toList
def cmpOn (a b : S78) : Int := orC (cmpS a.f0 b.f0) (cmpInt a.f1 b.f1)
def cmpIf (a b : S93) : Int := orC (cmpS a.f0 b.f0) (orC (cmpS a.f1 b.f1) (cmpInt a.f2 b.f2))
def cmpSe (a b : S29) : Int := orC (cmpList cmpOn a.f0 b.f0) (cmpList cmpIf a.f1 b.f1)
theorem isCmp_s : IsCmp cmpS where
  rng a b := isCmp_bs.rng _ _
  anti a b := isCmp_bs.anti _ _
  eq0 a b := by rw [cmpS, isCmp_bs.eq0]; exact ⟨bs_inj, fun h => by rw [h]⟩
  tr a b d := isCmp_bs.tr _ _ _
theorem isCmp_on : IsCmp cmpOn := isCmp_s.lex isCmp_int S78.f0 S78.f1 (fun a b h1 h2 => by cases a; cases b; simp_all)
theorem isCmp_if : IsCmp cmpIf := by
  have h := isCmp_s.lex isCmp_int (α := ByteArray × Int) Prod.fst Prod.snd (fun a b h1 h2 => Prod.ext h1 h2)
  have h2 := isCmp_s.lex h S93.f0 (fun x => (x.f1, x.f2)) (fun a b h1 h2 => by cases a; cases b; simp_all)
  exact h2
theorem isCmp_se : IsCmp cmpSe := isCmp_on.list.lex isCmp_if.list S29.f0 S29.f1 (fun a b h1 h2 => by cases a; cases b; simp_all)
theorem less_cmp (a b : List UInt8) : (if (Op.bytesLess a b) = true then (some (-1)) else (if (Op.bytesLess b a) = true then (some 1) else (some 0))) = some (cmpBs a b) := by
  rw [bytesLess_eq, bytesLess_eq]
  unfold cmpBs
  by_cases h1 : a < b
  · simp [h1]
  · by_cases h2 : b < a <;> simp [h1, h2]
theorem compare_s (a b : ByteArray) : cmp_Compare_string.f a b = some (cmpS a b) := by
  unfold cmp_Compare_string.f cmp_isNaN_string.f
  simp only [Option.bind_some, bne_self_eq_false, Bool.false_eq_true, if_false]
  exact less_cmp _ _
theorem compare_i (a b : Int) : cmp_Compare_int.f a b = some (cmpInt a b) := by
  unfold cmp_Compare_int.f cmp_isNaN_int.f cmpInt
  simp only [Option.bind_some, bne_self_eq_false, Bool.false_eq_true, if_false]
  by_cases h1 : a < b
  · simp [h1]
  · by_cases h2 : b < a
    · simp [h1, h2]
    · simp [h1, h2]
theorem or2 (k : Nat) (a b : Int) : cmp_Or_int.f (k + 3) [a, b] = some (orC a b) := by
  unfold cmp_Or_int.f orC
  by_cases h1 : a = 0 <;> by_cases h2 : b = 0 <;> simp [cmp_Or_int.l0, rd, h1, h2, wrap64]
theorem or3 (k : Nat) (a b c : Int) : cmp_Or_int.f (k + 4) [a, b, c] = some (orC a (orC b c)) := by
  unfold cmp_Or_int.f orC
  by_cases h1 : a = 0 <;> by_cases h2 : b = 0 <;> by_cases h3 : c = 0 <;> simp [cmp_Or_int.l0, rd, h1, h2, h3, wrap64]
end Go.Proofs.YtpbembafpnknhaaGreat.Pr
namespace Go.Proofs.YtpbembafpnknhaaGreat.PrD
open Go.RowKit Sn Go.Proofs.YtpbembafpnknhaaGreatW.PrintWords Go.Proofs.YtpbembafpnknhaaGreat.Pr
theorem cmpOn_f (k : Nat) (x y : S78) : norm_cmpOn.f (k + 3) x.f0 x.f1 y.f0 y.f1 = some (cmpOn x y) := by
  unfold norm_cmpOn.f
  rw [compare_s, compare_i]
  simp only [Option.bind_some]
  rw [or2]
  rfl
theorem cmpIf_f (k : Nat) (x y : S93) : norm_cmpIf.f (k + 4) x.f0 x.f1 x.f2 y.f0 y.f1 y.f2 = some (cmpIf x y) := by
  unfold norm_cmpIf.f
  rw [compare_s, compare_s, compare_i]
  simp only [Option.bind_some]
  rw [or3]
  rfl
theorem compareOn_l (xs ys : List S78) (hx : xs.length ≤ 9223372036854775807) : ∀ (d k i : Nat), xs.length - i = d → i ≤ xs.length → d + 5 ≤ k → slices_CompareFunc_cmpOn.l0 k xs ys xs (xs.length : Int) (i : Int) = some (if i ≤ ys.length then cmpList cmpOn (xs.drop i) (ys.drop i) else 1) ∨ ys.length < i := by
  intro d
  induction d with
  | zero =>
    intro k i hd hi hk
    by_cases hy : ys.length < i
    · exact .inr hy
    · left
      obtain ⟨k, rfl⟩ : ∃ m, k = m + 1 := ⟨k - 1, by omega⟩
      have e1 : i = xs.length := by omega
      subst e1
      rw [if_pos (by omega)]
      simp only [slices_CompareFunc_cmpOn.l0]
      rw [if_neg (by omega), List.drop_length]
      by_cases h : xs.length < ys.length
      · rw [if_pos (by omega), List.drop_eq_getElem_cons h]
        rfl
      · rw [if_neg (by omega), List.drop_eq_nil_of_le (by omega)]
        rfl
  | succ d ih =>
    intro k i hd hi hk
    by_cases hy : ys.length < i
    · exact .inr hy
    · left
      obtain ⟨k, rfl⟩ : ∃ m, k = m + 1 := ⟨k - 1, by omega⟩
      have hlt : i < xs.length := by omega
      rw [if_pos (by omega)]
      simp only [slices_CompareFunc_cmpOn.l0]
      obtain ⟨k, rfl⟩ : ∃ m, k = m + 3 := ⟨k - 3, by omega⟩
      rw [if_pos (by omega), if_pos (by omega), if_pos (by omega), List.drop_eq_getElem_cons hlt]
      by_cases h : i < ys.length
      · rw [if_neg (by omega), if_pos (by omega), List.drop_eq_getElem_cons h]
        have e1 : rd_T78 xs (i : Int) = xs[i] := by simp [rd_T78, List.getD_eq_getElem?_getD, hlt]
        have e2 : rd_T78 ys (i : Int) = ys[i] := by simp [rd_T78, List.getD_eq_getElem?_getD, h]
        rw [e1, e2, cmpOn_f]
        simp only [Option.bind_some]
        unfold cmpList
        by_cases hc : cmpOn xs[i] ys[i] = 0
        · rw [if_pos hc, if_neg (by simp [hc])]
          have ew : wrap64 ((i : Int) + 1) = ((i + 1 : Nat) : Int) := by unfold wrap64; omega
          rw [ew]
          rcases ih (k + 3) (i + 1) (by omega) (by omega) (by omega) with h1 | h1
          · rw [h1, if_pos (by omega)]
          · omega
        · rw [if_neg hc, if_pos hc]
      · have e3 : ys.drop i = [] := List.drop_eq_nil_of_le (by omega)
        rw [if_pos (by omega), e3]
        rfl
theorem compareOn_f (k : Nat) (xs ys : List S78) (hx : xs.length ≤ 9223372036854775807) (hk : xs.length + 5 ≤ k) : slices_CompareFunc_cmpOn.f k xs ys = some (cmpList cmpOn xs ys) := by
  unfold slices_CompareFunc_cmpOn.f
  rcases compareOn_l xs ys hx xs.length k 0 (by omega) (by omega) hk with h | h
  · rw [if_pos (by omega)] at h
    exact h
  · omega
theorem compareIf_l (xs ys : List S93) (hx : xs.length ≤ 9223372036854775807) : ∀ (d k i : Nat), xs.length - i = d → i ≤ xs.length → d + 6 ≤ k → slices_CompareFunc_cmpIf.l0 k xs ys xs (xs.length : Int) (i : Int) = some (if i ≤ ys.length then cmpList cmpIf (xs.drop i) (ys.drop i) else 1) ∨ ys.length < i := by
  intro d
  induction d with
  | zero =>
    intro k i hd hi hk
    by_cases hy : ys.length < i
    · exact .inr hy
    · left
      obtain ⟨k, rfl⟩ : ∃ m, k = m + 1 := ⟨k - 1, by omega⟩
      have e1 : i = xs.length := by omega
      subst e1
      rw [if_pos (by omega)]
      simp only [slices_CompareFunc_cmpIf.l0]
      rw [if_neg (by omega), List.drop_length]
      by_cases h : xs.length < ys.length
      · rw [if_pos (by omega), List.drop_eq_getElem_cons h]
        rfl
      · rw [if_neg (by omega), List.drop_eq_nil_of_le (by omega)]
        rfl
  | succ d ih =>
    intro k i hd hi hk
    by_cases hy : ys.length < i
    · exact .inr hy
    · left
      obtain ⟨k, rfl⟩ : ∃ m, k = m + 1 := ⟨k - 1, by omega⟩
      have hlt : i < xs.length := by omega
      rw [if_pos (by omega)]
      simp only [slices_CompareFunc_cmpIf.l0]
      obtain ⟨k, rfl⟩ : ∃ m, k = m + 4 := ⟨k - 4, by omega⟩
      rw [if_pos (by omega), if_pos (by omega), if_pos (by omega), List.drop_eq_getElem_cons hlt]
      by_cases h : i < ys.length
      · rw [if_neg (by omega), if_pos (by omega), List.drop_eq_getElem_cons h]
        have e1 : rd_T93 xs (i : Int) = xs[i] := by simp [rd_T93, List.getD_eq_getElem?_getD, hlt]
        have e2 : rd_T93 ys (i : Int) = ys[i] := by simp [rd_T93, List.getD_eq_getElem?_getD, h]
        rw [e1, e2, cmpIf_f]
        simp only [Option.bind_some]
        unfold cmpList
        by_cases hc : cmpIf xs[i] ys[i] = 0
        · rw [if_pos hc, if_neg (by simp [hc])]
          have ew : wrap64 ((i : Int) + 1) = ((i + 1 : Nat) : Int) := by unfold wrap64; omega
          rw [ew]
          rcases ih (k + 4) (i + 1) (by omega) (by omega) (by omega) with h1 | h1
          · rw [h1, if_pos (by omega)]
          · omega
        · rw [if_neg hc, if_pos hc]
      · have e3 : ys.drop i = [] := List.drop_eq_nil_of_le (by omega)
        rw [if_pos (by omega), e3]
        rfl
theorem compareIf_f (k : Nat) (xs ys : List S93) (hx : xs.length ≤ 9223372036854775807) (hk : xs.length + 6 ≤ k) : slices_CompareFunc_cmpIf.f k xs ys = some (cmpList cmpIf xs ys) := by
  unfold slices_CompareFunc_cmpIf.f
  rcases compareIf_l xs ys hx xs.length k 0 (by omega) (by omega) hk with h | h
  · rw [if_pos (by omega)] at h
    exact h
  · omega
theorem cmpSe_f (k : Nat) (x y : S29) (h0 : x.f0.length ≤ 9223372036854775807) (h1 : x.f1.length ≤ 9223372036854775807) (hk : x.f0.length + x.f1.length + 9 ≤ k) : norm_CmpSentry.f k x.f0 x.f1 y.f0 y.f1 = some (cmpSe x y) := by
  unfold norm_CmpSentry.f
  rw [compareOn_f k _ _ h0 (by omega), compareIf_f k _ _ h1 (by omega)]
  simp only [Option.bind_some]
  obtain ⟨k, rfl⟩ : ∃ m, k = m + 3 := ⟨k - 3, by omega⟩
  rw [or2]
  rfl
end Go.Proofs.YtpbembafpnknhaaGreat.PrD
namespace Go.Proofs.YtpbembafpnknhaaGreat.Pr
open Go.RowKit Go.Proofs.YtpbembafpnknhaaGreatW.PrintWords Go.Proofs.YtpbembafpnknhaaGreatW.PrintLast Go.Proofs.YtpbembafpnknhaaGreatW.PrintMore
attribute [local go_sem] max2_int min2_int max_two min_two max_three min_three max_four min_four   -- for this text's walks alone
set_option linter.unusedVariables false
set_option linter.unusedSimpArgs false
def norm_cmpOn.f (k : Nat) (a0_0 : ByteArray) (a0_1 : Int) (a1_0 : ByteArray) (a1_1 : Int) : Option (Int) := (cmp_Compare_string.f a0_0 a1_0).bind fun t103 => ((cmp_Compare_int.f a0_1 a1_1).bind fun t104 => ((cmp_Or_int.f k (([t103, t104] : List Int))).bind fun t108 => (some t108)))
theorem norm_cmpOn.mono : ∀ a0 a1 a2 a3 k, LeO (norm_cmpOn.f k a0 a1 a2 a3) (norm_cmpOn.f (k + 1) a0 a1 a2 a3) := by
  intro a0 a1 a2 a3 k
  unfold norm_cmpOn.f
  repeat' first
      | (with_reducible exact cmp_Or_int.mono _ _)
      | (with_reducible exact LeO.refl _)
      | (with_reducible exact LeO.none _)
      | (with_reducible refine LeO.ite ?_ ?_)
      | (with_reducible refine LeO.bind ?_ (fun _ => ?_))
      | exact cmp_Or_int.mono _ _
      | exact LeO.none _
      | refine LeO.ite ?_ ?_
      | refine LeO.bind ?_ (fun _ => ?_)
def norm_cmpOn.T1 : Bool × List (List Nat × List Nat) := (true, [([], []), ([0], [0]), ([], []), ([2], [2]), ([1, 3], [1, 3]), ([], []), ([5], [5]), ([], []), ([7], [7]), ([6, 8, 4], [6, 8]), ([4, 9], [4, 9]), ([10, 9], [10]), ([11, 11, 0, 1, 2, 3, 4, 5, 6, 7, 8, 9, 10, 11], [11])])
def norm_cmpOn.B1 : List Nat := [0, 1, 0, 4, 15, 0, 32, 0, 128, 511, 1023, 2047, 4095]
theorem norm_cmpOn.tab1 : rtab .any (opsOf Tryz.f66 1) = norm_cmpOn.T1 := by kernel_rfl
theorem norm_cmpOn.bits1 : waitsOk norm_cmpOn.T1.2 norm_cmpOn.B1 = true := by kernel_rfl
set_option maxHeartbeats 8000000 in
set_option maxRecDepth 100000 in
theorem norm_cmpOn.calls (k : Nat) (a0_0 : ByteArray) (a0_1 : Int) (a1_0 : ByteArray) (a1_1 : Int) (r : Int) (w : World) (h : norm_cmpOn.f k a0_0 a0_1 a1_0 a1_1 = some r) :
    Calls Tryz.prog 66 #[.agg #[.string a0_0, .int .i64 a0_1], .agg #[.string a1_0, .int .i64 a1_1]] w fun e w' => e = .returned (.int .i64 r) ∧ Below w.heap.size w w' := by
  have hu78 := Tryz.underlying78
  have HB := am (Below.refl w.heap.size w)
  have H : ((cmp_Compare_string.f a0_0 a1_0).bind fun t103 => ((cmp_Compare_int.f a0_1 a1_1).bind fun t104 => ((cmp_Or_int.f k (([t103, t104] : List Int))).bind fun t108 => (some t108)))) = some r := h
  clear h
  replace H := Option.bind_eq_some_iff.mp H
  obtain ⟨t103, A30, H⟩ := H
  replace H : ((cmp_Compare_int.f a0_1 a1_1).bind fun t104 => ((cmp_Or_int.f k (([t103, t104] : List Int))).bind fun t108 => (some t108))) = some r := H
  have A3 := am A30
  clear A30
  replace H := Option.bind_eq_some_iff.mp H
  obtain ⟨t104, A40, H⟩ := H
  replace H : ((cmp_Or_int.f k (([t103, t104] : List Int))).bind fun t108 => (some t108)) = some r := H
  have A4 := am A40
  clear A40
  obtain ⟨y105, hy105⟩ : ∃ y_ : List Int, y_ = (([t103, t104] : List Int)) := ⟨_, rfl⟩
  replace H : ((cmp_Or_int.f k y105).bind fun t108 => (some t108)) = some r := by first | (rw [hy105]; with_reducible exact H) | (have H2_ := (Option.bind_some _ _).symm.trans H; rw [hy105]; with_reducible exact H2_) | (have H2_ := (Option.bind_some _ _).symm.trans H; with_reducible exact H2_) | with_reducible exact H | (rw [hy105]; exact H) | exact H
  have Ny105 := am hy105
  clear hy105
  replace H := Option.bind_eq_some_iff.mp H
  obtain ⟨t108, A50, H⟩ := H
  replace H : (some t108) = some r := H
  have A5 := am A50
  clear A50
  obtain rfl := Option.some.inj H
  go_enter Tryz.func66, Tryz.ntmps66
  try go_wp2_with (first | ((with_reducible refine gd_ 2 ?_); refine bx_ 2 #[.string a0_0, .int .i64 a0_1] 78 ?_; intro gb101 hg w6 hbox hb; have BK101 := am (hbox); have GW101 := am (zg : w.heap.size ≤ gb101); have GE101 := am (zg : w.heap.size ≤ gb101); replace HB := am (below_step (zb) hb); clear hb hbox hg) | ((with_reducible refine gd_ 3 ?_); refine bx_ 3 #[.string a1_0, .int .i64 a1_1] 78 ?_; intro gb102 hg w7 hbox hb; have BK102 := am (hbox); have GW102 := am (zg : w.heap.size ≤ gb102); have GE102 := am (zg : w.heap.size ≤ gb102); replace HB := am (below_step (zb) hb); have NB101_102 := am ((zn BK101.out : gb101 ≠ gb102)); have NB102_101 := am ((zm BK101.out : gb102 ≠ gb101)); replace BK101 := am (zw BK101.out hb); clear hb hbox hg))
  replace BK101 := am (blk_drew BK101.out)
  replace BK102 := am (blk_drew BK102.out)
  replace HB := am (below_drew1 HB.out)
  refine start_ (n := 13) (S := fun w' => w'.cell? ⟨gb101, 0, none⟩ = some (.string a0_0) ∧ w'.cell? ⟨gb101, 1, none⟩ = some (.int .i64 a0_1) ∧ w'.cell? ⟨gb102, 0, none⟩ = some (.string a1_0) ∧ w'.cell? ⟨gb102, 1, none⟩ = some (.int .i64 a1_1)) (ds := []) #[false, false, false, false, false, false, false, false, false, false, false, false, false] (by kernel_rfl) rfl rfl ⟨(blk_cell BK101.out 0).trans rfl, (blk_cell BK101.out 1).trans rfl, (blk_cell BK102.out 0).trans rfl, (blk_cell BK102.out 1).trans rfl⟩ (fun hHeld => ?_); refine with_tabW norm_cmpOn.tab1 norm_cmpOn.bits1 (fun HT_ HW_ => ?_)
  generalize w7.drew = w8 at BK101 BK102 HB hHeld ⊢
  refine pz_ 0 5 13 1 ?_
  refine pz_ 2 7 13 5 ?_
  refine pz_ 5 10 13 37 ?_
  refine pz_ 7 12 13 165 ?_
  refine tz_ 1 6 13 167 ?_
  refine tz_ 3 8 13 175 ?_
  refine tz_ 6 11 13 239 ?_
  refine tz_ 8 13 13 495 ?_
  refine one_ (i := 4) (N := some 9) #[true, true, true, true, true, true, true, true, true, false, false, false, false] rfl rfl (one_of HT_.out (by kernel_rfl)) (by decide) (fun K hK => ?_)
  refine goes_ Tryz.func116 (by kernel_rfl) rfl #[.string a0_0, .string a1_0] (by rfl) rfl rfl (za) ?_
  with_reducible refine (cmp_Compare_string.calls a0_0 a1_0 t103 _ A3.out).mono ?_
  rintro e w' ⟨rfl, ⟨nd, rfl⟩⟩
  refine ⟨_, rfl, ?_⟩
  refine hK.out _ _ ⟨(blk_cell BK101.out 0).trans rfl, (blk_cell BK101.out 1).trans rfl, (blk_cell BK102.out 0).trans rfl, (blk_cell BK102.out 1).trans rfl⟩ (fun hHeld => ?_)
  clear hK K
  refine nz_ 9 ?_
  refine one_ (i := 9) (N := some 14) #[true, true, true, true, true, true, true, true, true, true, false, false, false] rfl rfl (one_of HT_.out (by kernel_rfl)) (by decide) (fun K hK => ?_)
  refine goes_ Tryz.func117 (by kernel_rfl) rfl #[.int .i64 a0_1, .int .i64 a1_1] (by rfl) rfl rfl (za) ?_
  with_reducible refine (cmp_Compare_int.calls a0_1 a1_1 t104 _ A4.out).mono ?_
  rintro e w' ⟨rfl, ⟨nd, rfl⟩⟩
  refine ⟨_, rfl, ?_⟩
  refine hK.out _ _ ⟨(blk_cell BK101.out 0).trans rfl, (blk_cell BK101.out 1).trans rfl, (blk_cell BK102.out 0).trans rfl, (blk_cell BK102.out 1).trans rfl⟩ (fun hHeld => ?_)
  clear hK K
  refine nz_ 14 ?_
  refine one_ (i := 10) (N := some 15) #[true, true, true, true, true, true, true, true, true, true, true, false, false] rfl rfl (one_of HT_.out (by kernel_rfl)) (by decide) (fun K hK => ?_)
  refine Kd.R_lit_step (Kd.int .i64) _ 3 ?hg (N := 15) ?hd (xs := ([t103, t104] : List Int)) (inner := [.int .i64 t103, .int .i64 t104]) (ok := fun _ => True) (okp := fun _ => True) ?hr ?hp (fun _ hk => hk) trivial (Below.refl _ _) (Nat.le_refl _) (by simp) ?_; (case hd => rfl); (case hg => rfl); (case hr => first | (go_simp; done) | (go_simp; rfl)); (case hp => exact (Reps.one (show Kd.M (Kd.int .i64) _ _ _ t103 [.int .i64 t103] from rfl) (Reps.one (show Kd.M (Kd.int .i64) _ _ _ t104 [.int .i64 t104] from rfl) (Reps.none _ _))))
  intro v106 w9 ho10 hb hg_ hnew_
  clear hg_ hnew_
  (first | rw [← Ny105.out] at ho10 | (simp only [Int.reduceToNat] at ho10; rw [← Ny105.out] at ho10))
  have HO107 := am (Kd.R_lower ho10 (below_size (zb)))
  replace BK101 := am (zw BK101.out hb)
  replace BK102 := am (zw BK102.out hb)
  replace HB := am (below_step (zb) hb)
  clear hb ho10
  obtain ⟨Ao11, co11, eo11⟩ := Kd.R_slice HO107.out
  (first | subst eo11 | (injection eo11 with f1_ f2_ f3_; have f4_ := f1_.symm; have f5_ := f3_.symm; clear f1_ f2_ f3_; subst f4_; subst f5_))
  refine hK.out _ _ ⟨(blk_cell BK101.out 0).trans rfl, (blk_cell BK101.out 1).trans rfl, (blk_cell BK102.out 0).trans rfl, (blk_cell BK102.out 1).trans rfl⟩ (fun hHeld => ?_)
  clear hK K
  refine nz_ 15 ?_
  refine one_ (i := 11) (N := some 16) #[true, true, true, true, true, true, true, true, true, true, true, true, false] rfl rfl (one_of HT_.out (by kernel_rfl)) (by decide) (fun K hK => ?_)
  refine goes_ Tryz.func64 (by kernel_rfl) rfl #[.slice Ao11 y105.length co11] (by rfl) rfl rfl (za) ?_
  with_reducible refine (cmp_Or_int.calls k _ _ y105 t108 _ ?side1 ?side2 A5.out).mono ?_
  (case side1 => exact zc (Kd.R_reads' HO107.out).2.2)
  (case side2 => exact (Kd.R_reads' HO107.out).2.1)
  rintro e w' ⟨rfl, ⟨nd, rfl⟩⟩
  refine ⟨_, rfl, ?_⟩
  refine hK.out _ _ ⟨(blk_cell BK101.out 0).trans rfl, (blk_cell BK101.out 1).trans rfl, (blk_cell BK102.out 0).trans rfl, (blk_cell BK102.out 1).trans rfl⟩ (fun hHeld => ?_)
  clear hK K
  refine nz_ 16 ?_
  refine pz_ 12 4 13 8191 ?_
  refine done_ (done_of HT_.out (by kernel_rfl)) ?_
  try go_wp2
  go_ret
  exact ⟨zf, zb⟩
end Go.Proofs.YtpbembafpnknhaaGreat.Pr
namespace Go.Proofs.YtpbembafpnknhaaGreat.Pr
open Go.RowKit Go.Proofs.YtpbembafpnknhaaGreatW.PrintWords Go.Proofs.YtpbembafpnknhaaGreatW.PrintLast Go.Proofs.YtpbembafpnknhaaGreatW.PrintMore
attribute [local go_sem] max2_int min2_int max_two min_two max_three min_three max_four min_four   -- for this text's walks alone
set_option linter.unusedVariables false
set_option linter.unusedSimpArgs false
def slices_CompareFunc_cmpOn.l0 : Nat → List (S78) → List (S78) → List (S78) → Int → Int → Option (Int)
  | 0, _, _, _, _, _ => none
  | k + 1, x0, x1, x11, x12, x13 => if x13 < x12 then (if 0 ≤ x13 then (if x13 < (x11.length : Int) then (if x13 ≥ (x1.length : Int) then (some 1) else (if x13 < (x1.length : Int) then ((norm_cmpOn.f k ((rd_T78 x11 x13).f0) ((rd_T78 x11 x13).f1) ((rd_T78 x1 x13).f0) ((rd_T78 x1 x13).f1)).bind fun t105 => (if t105 = 0 then (slices_CompareFunc_cmpOn.l0 k x0 x1 x11 x12 (wrap64 (x13 + 1))) else (some t105))) else (none))) else (none)) else (none)) else (if (x0.length : Int) < (x1.length : Int) then (some (-1)) else (some 0))
def slices_CompareFunc_cmpOn.f (k : Nat) (l0 : List (S78)) (l1 : List (S78))  : Option (Int) := slices_CompareFunc_cmpOn.l0 k l0 l1 l0 (l0.length : Int) 0
theorem slices_CompareFunc_cmpOn.mono_l : ∀ k, (∀ y0 y1 y2 y3 y4, LeO (slices_CompareFunc_cmpOn.l0 k y0 y1 y2 y3 y4) (slices_CompareFunc_cmpOn.l0 (k + 1) y0 y1 y2 y3 y4))
  | 0 => fun _ _ _ _ _ r h => by simp [slices_CompareFunc_cmpOn.l0] at h
  | k + 1 => by
    have ih0 := slices_CompareFunc_cmpOn.mono_l k
    · intro y0 y1 y2 y3 y4
      unfold slices_CompareFunc_cmpOn.l0
      repeat' first
      | (with_reducible exact ih0 _ _ _ _ _)
      | (with_reducible exact norm_cmpOn.mono _ _ _ _ _)
      | (with_reducible exact LeO.refl _)
      | (with_reducible exact LeO.none _)
      | (with_reducible refine LeO.ite ?_ ?_)
      | (with_reducible refine LeO.bind ?_ (fun _ => ?_))
      | exact ih0 _ _ _ _ _
      | exact norm_cmpOn.mono _ _ _ _ _
      | exact LeO.none _
      | refine LeO.ite ?_ ?_
      | refine LeO.bind ?_ (fun _ => ?_)
theorem slices_CompareFunc_cmpOn.mono : ∀ a0 a1 k, LeO (slices_CompareFunc_cmpOn.f k a0 a1) (slices_CompareFunc_cmpOn.f (k + 1) a0 a1) := by
  intro a0 a1 k
  have ih0 := slices_CompareFunc_cmpOn.mono_l k
  unfold slices_CompareFunc_cmpOn.f
  repeat' first
      | (with_reducible exact ih0 _ _ _ _ _)
      | (with_reducible exact norm_cmpOn.mono _ _ _ _ _)
      | (with_reducible exact LeO.refl _)
      | (with_reducible exact LeO.none _)
      | (with_reducible refine LeO.ite ?_ ?_)
      | (with_reducible refine LeO.bind ?_ (fun _ => ?_))
      | exact ih0 _ _ _ _ _
      | exact norm_cmpOn.mono _ _ _ _ _
      | exact LeO.none _
      | refine LeO.ite ?_ ?_
      | refine LeO.bind ?_ (fun _ => ?_)
set_option maxHeartbeats 8000000 in
set_option maxRecDepth 100000 in
theorem slices_CompareFunc_cmpOn.calls (k : Nat) (A0 : Option Addr) (c0 : Nat) (l0 : List (S78)) (A1 : Option Addr) (c1 : Nat) (l1 : List (S78))  (r : Int) (w : World) (hr0 : Kd.C k78 w A0 l0.length l0) (hc0 : l0.length ≤ c0) (hr1 : Kd.C k78 w A1 l1.length l1) (hc1 : l1.length ≤ c1) (h : slices_CompareFunc_cmpOn.f k l0 l1 = some r) :
    Calls Tryz.prog 65 #[.slice A0 l0.length c0, .slice A1 l1.length c1, (.func (.func 66) #[] #[])] w fun e w' => e = .returned (.int .i64 r) ∧ Below w.heap.size w w' := by
  have hu78 := Tryz.underlying78
  have HR0 := am hr0
  have HC0 := am hc0
  clear hr0 hc0
  have HR1 := am hr1
  have HC1 := am hc1
  clear hr1 hc1
  have HB := am (Below.refl w.heap.size w)
  have H : (slices_CompareFunc_cmpOn.l0 k l0 l1 l0 (l0.length : Int) 0) = some r := h
  clear h
  have H' := am H
  clear H
  go_enter Tryz.func65, Tryz.ntmps65
  go_wp2
  go_loopg [13] k (fun kq v13 w' => ∃ (x13_1 : Int), v13 = .int .i64 x13_1 ∧ Aside0 (slices_CompareFunc_cmpOn.l0 kq l0 l1 l0 (l0.length : Int) x13_1 = some r) ∧ Aside0 (kq ≤ k) ∧ Aside0 (Below w.heap.size w w'))
  case atStart => exact ⟨(0), (ze), H', ⟨Nat.le_refl _⟩, ⟨zb⟩⟩
  case round =>
    clear H'
    try clear c1
    try clear p2
    try clear c3
    obtain ⟨x13_1, rfl, HA, HK1, HB⟩ := hrel
    cases gk with
    | zero => exact absurd HA.out (by simp [slices_CompareFunc_cmpOn.l0])
    | succ k1 =>
      have H := HA.out
      clear HA
      simp only [slices_CompareFunc_cmpOn.l0] at H
      by_cases c4 : x13_1 < (l0.length : Int)
      · rw [if_pos c4] at H
        have c4b0 : decide (x13_1 < (l0.length : Int)) = true := decide_eq_true c4
        clear c4
        by_cases c5 : 0 ≤ x13_1
        · rw [if_pos c5] at H
          have c5b0 : decide (0 ≤ x13_1) = true := decide_eq_true c5
          clear c5
          by_cases c6 : x13_1 < (l0.length : Int)
          · rw [if_pos c6] at H
            have c6b0 : decide (x13_1 < (l0.length : Int)) = true := decide_eq_true c6
            clear c6
            by_cases c7 : x13_1 ≥ (l1.length : Int)
            · rw [if_pos c7] at H
              have c7b0 : decide ((l1.length : Int) ≤ x13_1) = true := decide_eq_true c7
              clear c7
              obtain rfl := Option.some.inj H
              have p101 : 0 ≤ (x13_1 : Int) := of_decide_eq_true (zas)
              have q101 : x13_1 < (l0.length : Int) := of_decide_eq_true (zas)
              obtain ⟨ad101, e101, hx101_0, hx101_1⟩ := at_T78 HR0.out x13_1 p101 q101
              cases e101
              replace hx101_0 := ba HB hx101_0
              replace hx101_1 := ba HB hx101_1
              replace p101 := eq_true p101
              replace q101 := eq_true q101
              go_wp2_with (first | ((with_reducible refine gd_ 8 ?_); refine bx_ 8 #[.string (⟨#[]⟩ : ByteArray), .int .i64 0] 78 ?_; intro gb102 hg w8 hbox hb; have BK102 := am (hbox); have GW102 := am (zg : w.heap.size ≤ gb102); have GE102 := am (zg : w.heap.size ≤ gb102); replace HB := am (below_step (zb) hb); clear hb hbox hg; obtain ⟨hcz9_0, hcz9_1, hfz9_0, hfz9_1⟩ := cf2 BK102.out))
              go_ret
              exact ⟨zf, zb⟩
            · rw [if_neg c7] at H
              have c7b0 : decide ((l1.length : Int) ≤ x13_1) = false := decide_eq_false c7
              clear c7
              by_cases c10 : x13_1 < (l1.length : Int)
              · rw [if_pos c10] at H
                have c10b0 : decide (x13_1 < (l1.length : Int)) = true := decide_eq_true c10
                clear c10
                replace H := Option.bind_eq_some_iff.mp H
                obtain ⟨t105, A110, H⟩ := H
                replace H : (if t105 = 0 then (slices_CompareFunc_cmpOn.l0 k1 l0 l1 l0 (l0.length : Int) (wrap64 (x13_1 + 1))) else (some t105)) = some r := H
                have A11 := am A110
                clear A110
                by_cases c12 : t105 = 0
                · rw [if_pos c12] at H
                  have c12b0 : (t105 == 0) = true := beq_iff_eq.mpr c12
                  have c12b1 : (t105 != 0) = false := bne_eq_false_iff_eq.mpr c12
                  clear c12
                  have H' := am H
                  clear H
                  have p101 : 0 ≤ (x13_1 : Int) := of_decide_eq_true (zas)
                  have q101 : x13_1 < (l0.length : Int) := of_decide_eq_true (zas)
                  obtain ⟨ad101, e101, hx101_0, hx101_1⟩ := at_T78 HR0.out x13_1 p101 q101
                  cases e101
                  replace hx101_0 := ba HB hx101_0
                  replace hx101_1 := ba HB hx101_1
                  replace p101 := eq_true p101
                  replace q101 := eq_true q101
                  go_wp2_with (first | ((with_reducible refine gd_ 8 ?_); refine bx_ 8 #[.string (⟨#[]⟩ : ByteArray), .int .i64 0] 78 ?_; intro gb102 hg w13 hbox hb; have BK102 := am (hbox); have GW102 := am (zg : w.heap.size ≤ gb102); have GE102 := am (zg : w.heap.size ≤ gb102); replace HB := am (below_step (zb) hb); clear hb hbox hg; obtain ⟨hcz14_0, hcz14_1, hfz14_0, hfz14_1⟩ := cf2 BK102.out; have p103 : 0 ≤ (x13_1 : Int) := of_decide_eq_true (zas); have q103 : x13_1 < (l1.length : Int) := of_decide_eq_true (zas); obtain ⟨ad103, e103, hx103_0, hx103_1⟩ := at_T78 HR1.out x13_1 p103 q103; cases e103; have hn103_0 : ad103.block ≠ gb102 := Nat.ne_of_lt (Nat.lt_of_lt_of_le (zy hx103_0) GW102.out); have hn103_1 : ad103.block ≠ gb102 := Nat.ne_of_lt (Nat.lt_of_lt_of_le (zy hx103_0) GW102.out); replace hx103_0 := ba HB hx103_0; replace hx103_1 := ba HB hx103_1; replace hx103_0 := (cell_far (p := ⟨gb102, 0, none⟩) (zx hn103_0) (.string ((rd_T78 l0 x13_1).f0))).trans hx103_0; replace hx103_1 := (cell_far (p := ⟨gb102, 0, none⟩) (zx hn103_0) (.string ((rd_T78 l0 x13_1).f0))).trans hx103_1; replace hx103_0 := (cell_far (p := ⟨gb102, 1, none⟩) (zx hn103_1) (.int .i64 ((rd_T78 l0 x13_1).f1))).trans hx103_0; replace hx103_1 := (cell_far (p := ⟨gb102, 1, none⟩) (zx hn103_1) (.int .i64 ((rd_T78 l0 x13_1).f1))).trans hx103_1; clear hn103_0; clear hn103_1; replace p103 := eq_true p103; replace q103 := eq_true q103) | ((with_reducible refine gd_ 9 ?_); refine bx_ 9 #[.string (⟨#[]⟩ : ByteArray), .int .i64 0] 78 ?_; intro gb104 hg w15 hbox hb; have BK104 := am (hbox); have GW104 := am (zg : w.heap.size ≤ gb104); have GE104 := am (zg : w.heap.size ≤ gb104); replace HB := am (below_step (zb) hb); have NB102_104 := am ((by rw [hg]; exact Nat.ne_of_lt (blk_lt (g := gb102) (o := .cells #[.string ((rd_T78 l0 x13_1).f0), .int .i64 ((rd_T78 l0 x13_1).f1)] 78 (0, 0)) (by refine zl ?_; refine blk_put (cs := #[.string ((rd_T78 l0 x13_1).f0), .int .i64 0]) ?_ 1 _ rfl; refine zl ?_; refine blk_put (cs := #[.string (⟨#[]⟩ : ByteArray), .int .i64 0]) ?_ 0 _ rfl; refine zl ?_; exact BK102.out)) : gb102 ≠ gb104)); have NB104_102 := am ((by rw [hg]; exact Nat.ne_of_gt (blk_lt (g := gb102) (o := .cells #[.string ((rd_T78 l0 x13_1).f0), .int .i64 ((rd_T78 l0 x13_1).f1)] 78 (0, 0)) (by refine zl ?_; refine blk_put (cs := #[.string ((rd_T78 l0 x13_1).f0), .int .i64 0]) ?_ 1 _ rfl; refine zl ?_; refine blk_put (cs := #[.string (⟨#[]⟩ : ByteArray), .int .i64 0]) ?_ 0 _ rfl; refine zl ?_; exact BK102.out)) : gb104 ≠ gb102)); replace BK102 := am (blk_below (g := gb102) (o := .cells #[.string ((rd_T78 l0 x13_1).f0), .int .i64 ((rd_T78 l0 x13_1).f1)] 78 (0, 0)) (by refine zl ?_; refine blk_put (cs := #[.string ((rd_T78 l0 x13_1).f0), .int .i64 0]) ?_ 1 _ rfl; refine zl ?_; refine blk_put (cs := #[.string (⟨#[]⟩ : ByteArray), .int .i64 0]) ?_ 0 _ rfl; refine zl ?_; exact BK102.out) hb); clear hb hbox hg; have hnb16 := NB104_102.out; have hnc16 := NB102_104.out; obtain ⟨hcz17_0, hcz17_1, hfz17_0, hfz17_1⟩ := cf2 BK104.out; obtain ⟨hcz18_0, hcz18_1, hfz18_0, hfz18_1⟩ := cf2 BK102.out) | ((with_reducible refine gate_callee_d (f := 66) rfl ?_); refine goesLd_ (some 29) rfl rfl Tryz.func66 (by kernel_rfl) rfl #[.agg #[.string ((rd_T78 l0 x13_1).f0), .int .i64 ((rd_T78 l0 x13_1).f1)], .agg #[.string ((rd_T78 l1 x13_1).f0), .int .i64 ((rd_T78 l1 x13_1).f1)]] rfl (za) ?_; (with_reducible refine (norm_cmpOn.calls k1 ((rd_T78 l0 x13_1).f0) ((rd_T78 l0 x13_1).f1) ((rd_T78 l1 x13_1).f0) ((rd_T78 l1 x13_1).f1) t105 _ A11.out).mono ?_); rintro e w19 ⟨rfl, hb⟩; refine ⟨_, rfl, ?_⟩; replace BK102 := am (blk_below (g := gb102) (o := .cells #[.string ((rd_T78 l0 x13_1).f0), .int .i64 ((rd_T78 l0 x13_1).f1)] 78 (0, 0)) (by refine zl ?_; refine blk_far ?_ NB102_104.out _; refine zl ?_; refine blk_far ?_ NB102_104.out _; refine zl ?_; exact BK102.out) hb); replace BK104 := am (blk_below (g := gb104) (o := .cells #[.string ((rd_T78 l1 x13_1).f0), .int .i64 ((rd_T78 l1 x13_1).f1)] 78 (0, 0)) (by refine zl ?_; refine blk_put (cs := #[.string ((rd_T78 l1 x13_1).f0), .int .i64 0]) ?_ 1 _ rfl; refine zl ?_; refine blk_put (cs := #[.string (⟨#[]⟩ : ByteArray), .int .i64 0]) ?_ 0 _ rfl; refine zl ?_; exact BK104.out) hb); replace HB := am (below_step (zb) hb); (try clear hb); (try clear hb2); (try clear hk); (try clear hi)))
                  go_roundg k1
                  case measure => have := HK1.out; omega
                  case rel => exact ⟨(wrap64 (x13_1 + 1)), (ze), H', ⟨by have := HK1.out; omega⟩, ⟨zb⟩⟩
                · rw [if_neg c12] at H
                  have c12b0 : (t105 == 0) = false := beq_eq_false_iff_ne.mpr c12
                  have c12b1 : (t105 != 0) = true := bne_iff_ne.mpr c12
                  obtain rfl := Option.some.inj H
                  have p101 : 0 ≤ (x13_1 : Int) := of_decide_eq_true (zas)
                  have q101 : x13_1 < (l0.length : Int) := of_decide_eq_true (zas)
                  obtain ⟨ad101, e101, hx101_0, hx101_1⟩ := at_T78 HR0.out x13_1 p101 q101
                  cases e101
                  replace hx101_0 := ba HB hx101_0
                  replace hx101_1 := ba HB hx101_1
                  replace p101 := eq_true p101
                  replace q101 := eq_true q101
                  go_wp2_with (first | ((with_reducible refine gd_ 8 ?_); refine bx_ 8 #[.string (⟨#[]⟩ : ByteArray), .int .i64 0] 78 ?_; intro gb102 hg w20 hbox hb; have BK102 := am (hbox); have GW102 := am (zg : w.heap.size ≤ gb102); have GE102 := am (zg : w.heap.size ≤ gb102); replace HB := am (below_step (zb) hb); clear hb hbox hg; obtain ⟨hcz21_0, hcz21_1, hfz21_0, hfz21_1⟩ := cf2 BK102.out; have p103 : 0 ≤ (x13_1 : Int) := of_decide_eq_true (zas); have q103 : x13_1 < (l1.length : Int) := of_decide_eq_true (zas); obtain ⟨ad103, e103, hx103_0, hx103_1⟩ := at_T78 HR1.out x13_1 p103 q103; cases e103; have hn103_0 : ad103.block ≠ gb102 := Nat.ne_of_lt (Nat.lt_of_lt_of_le (zy hx103_0) GW102.out); have hn103_1 : ad103.block ≠ gb102 := Nat.ne_of_lt (Nat.lt_of_lt_of_le (zy hx103_0) GW102.out); replace hx103_0 := ba HB hx103_0; replace hx103_1 := ba HB hx103_1; replace hx103_0 := (cell_far (p := ⟨gb102, 0, none⟩) (zx hn103_0) (.string ((rd_T78 l0 x13_1).f0))).trans hx103_0; replace hx103_1 := (cell_far (p := ⟨gb102, 0, none⟩) (zx hn103_0) (.string ((rd_T78 l0 x13_1).f0))).trans hx103_1; replace hx103_0 := (cell_far (p := ⟨gb102, 1, none⟩) (zx hn103_1) (.int .i64 ((rd_T78 l0 x13_1).f1))).trans hx103_0; replace hx103_1 := (cell_far (p := ⟨gb102, 1, none⟩) (zx hn103_1) (.int .i64 ((rd_T78 l0 x13_1).f1))).trans hx103_1; clear hn103_0; clear hn103_1; replace p103 := eq_true p103; replace q103 := eq_true q103) | ((with_reducible refine gd_ 9 ?_); refine bx_ 9 #[.string (⟨#[]⟩ : ByteArray), .int .i64 0] 78 ?_; intro gb104 hg w22 hbox hb; have BK104 := am (hbox); have GW104 := am (zg : w.heap.size ≤ gb104); have GE104 := am (zg : w.heap.size ≤ gb104); replace HB := am (below_step (zb) hb); have NB102_104 := am ((by rw [hg]; exact Nat.ne_of_lt (blk_lt (g := gb102) (o := .cells #[.string ((rd_T78 l0 x13_1).f0), .int .i64 ((rd_T78 l0 x13_1).f1)] 78 (0, 0)) (by refine zl ?_; refine blk_put (cs := #[.string ((rd_T78 l0 x13_1).f0), .int .i64 0]) ?_ 1 _ rfl; refine zl ?_; refine blk_put (cs := #[.string (⟨#[]⟩ : ByteArray), .int .i64 0]) ?_ 0 _ rfl; refine zl ?_; exact BK102.out)) : gb102 ≠ gb104)); have NB104_102 := am ((by rw [hg]; exact Nat.ne_of_gt (blk_lt (g := gb102) (o := .cells #[.string ((rd_T78 l0 x13_1).f0), .int .i64 ((rd_T78 l0 x13_1).f1)] 78 (0, 0)) (by refine zl ?_; refine blk_put (cs := #[.string ((rd_T78 l0 x13_1).f0), .int .i64 0]) ?_ 1 _ rfl; refine zl ?_; refine blk_put (cs := #[.string (⟨#[]⟩ : ByteArray), .int .i64 0]) ?_ 0 _ rfl; refine zl ?_; exact BK102.out)) : gb104 ≠ gb102)); replace BK102 := am (blk_below (g := gb102) (o := .cells #[.string ((rd_T78 l0 x13_1).f0), .int .i64 ((rd_T78 l0 x13_1).f1)] 78 (0, 0)) (by refine zl ?_; refine blk_put (cs := #[.string ((rd_T78 l0 x13_1).f0), .int .i64 0]) ?_ 1 _ rfl; refine zl ?_; refine blk_put (cs := #[.string (⟨#[]⟩ : ByteArray), .int .i64 0]) ?_ 0 _ rfl; refine zl ?_; exact BK102.out) hb); clear hb hbox hg; have hnb23 := NB104_102.out; have hnc23 := NB102_104.out; obtain ⟨hcz24_0, hcz24_1, hfz24_0, hfz24_1⟩ := cf2 BK104.out; obtain ⟨hcz25_0, hcz25_1, hfz25_0, hfz25_1⟩ := cf2 BK102.out) | ((with_reducible refine gate_callee_d (f := 66) rfl ?_); refine goesLd_ (some 29) rfl rfl Tryz.func66 (by kernel_rfl) rfl #[.agg #[.string ((rd_T78 l0 x13_1).f0), .int .i64 ((rd_T78 l0 x13_1).f1)], .agg #[.string ((rd_T78 l1 x13_1).f0), .int .i64 ((rd_T78 l1 x13_1).f1)]] rfl (za) ?_; (with_reducible refine (norm_cmpOn.calls k1 ((rd_T78 l0 x13_1).f0) ((rd_T78 l0 x13_1).f1) ((rd_T78 l1 x13_1).f0) ((rd_T78 l1 x13_1).f1) t105 _ A11.out).mono ?_); rintro e w26 ⟨rfl, hb⟩; refine ⟨_, rfl, ?_⟩; replace BK102 := am (blk_below (g := gb102) (o := .cells #[.string ((rd_T78 l0 x13_1).f0), .int .i64 ((rd_T78 l0 x13_1).f1)] 78 (0, 0)) (by refine zl ?_; refine blk_far ?_ NB102_104.out _; refine zl ?_; refine blk_far ?_ NB102_104.out _; refine zl ?_; exact BK102.out) hb); replace BK104 := am (blk_below (g := gb104) (o := .cells #[.string ((rd_T78 l1 x13_1).f0), .int .i64 ((rd_T78 l1 x13_1).f1)] 78 (0, 0)) (by refine zl ?_; refine blk_put (cs := #[.string ((rd_T78 l1 x13_1).f0), .int .i64 0]) ?_ 1 _ rfl; refine zl ?_; refine blk_put (cs := #[.string (⟨#[]⟩ : ByteArray), .int .i64 0]) ?_ 0 _ rfl; refine zl ?_; exact BK104.out) hb); replace HB := am (below_step (zb) hb); (try clear hb); (try clear hb2); (try clear hk); (try clear hi)))
                  go_ret
                  exact ⟨zf, zb⟩
              · rw [if_neg c10] at H
                exact absurd H (by simp)
          · rw [if_neg c6] at H
            exact absurd H (by simp)
        · rw [if_neg c5] at H
          exact absurd H (by simp)
      · rw [if_neg c4] at H
        have c4b0 : decide (x13_1 < (l0.length : Int)) = false := decide_eq_false c4
        clear c4
        by_cases c27 : (l0.length : Int) < (l1.length : Int)
        · rw [if_pos c27] at H
          have c27b0 : decide ((l0.length : Int) < (l1.length : Int)) = true := decide_eq_true c27
          have c27b1 : decide (l0.length < l1.length) = true := decide_eq_true (Int.ofNat_lt.mp c27)
          clear c27
          obtain rfl := Option.some.inj H
          go_wp2
          go_ret
          exact ⟨zf, zb⟩
        · rw [if_neg c27] at H
          have c27b0 : decide ((l0.length : Int) < (l1.length : Int)) = false := decide_eq_false c27
          have c27b1 : decide (l0.length < l1.length) = false := decide_eq_false (fun h => c27 (Int.ofNat_lt.mpr h))
          clear c27
          obtain rfl := Option.some.inj H
          go_wp2
          go_ret
          exact ⟨zf, zb⟩
end Go.Proofs.YtpbembafpnknhaaGreat.Pr
namespace Go.Proofs.YtpbembafpnknhaaGreat.Pr
open Go.RowKit Go.Proofs.YtpbembafpnknhaaGreatW.PrintWords Go.Proofs.YtpbembafpnknhaaGreatW.PrintLast Go.Proofs.YtpbembafpnknhaaGreatW.PrintMore
attribute [local go_sem] max2_int min2_int max_two min_two max_three min_three max_four min_four   -- for this text's walks alone
set_option linter.unusedVariables false
set_option linter.unusedSimpArgs false
def norm_cmpIf.f (k : Nat) (a0_0 : ByteArray) (a0_1 : ByteArray) (a0_2 : Int) (a1_0 : ByteArray) (a1_1 : ByteArray) (a1_2 : Int) : Option (Int) := (cmp_Compare_string.f a0_0 a1_0).bind fun t103 => ((cmp_Compare_string.f a0_1 a1_1).bind fun t104 => ((cmp_Compare_int.f a0_2 a1_2).bind fun t105 => ((cmp_Or_int.f k (([t103, t104, t105] : List Int))).bind fun t109 => (some t109))))
theorem norm_cmpIf.mono : ∀ a0 a1 a2 a3 a4 a5 k, LeO (norm_cmpIf.f k a0 a1 a2 a3 a4 a5) (norm_cmpIf.f (k + 1) a0 a1 a2 a3 a4 a5) := by
  intro a0 a1 a2 a3 a4 a5 k
  unfold norm_cmpIf.f
  repeat' first
      | (with_reducible exact cmp_Or_int.mono _ _)
      | (with_reducible exact LeO.refl _)
      | (with_reducible exact LeO.none _)
      | (with_reducible refine LeO.ite ?_ ?_)
      | (with_reducible refine LeO.bind ?_ (fun _ => ?_))
      | exact cmp_Or_int.mono _ _
      | exact LeO.none _
      | refine LeO.ite ?_ ?_
      | refine LeO.bind ?_ (fun _ => ?_)
def norm_cmpIf.T1 : Bool × List (List Nat × List Nat) := (true, [([], []), ([0], [0]), ([], []), ([2], [2]), ([1, 3], [1, 3]), ([], []), ([5], [5]), ([], []), ([7], [7]), ([6, 8, 4], [6, 8]), ([], []), ([10], [10]), ([], []), ([12], [12]), ([11, 13, 9], [11, 13]), ([4, 9, 14], [4, 9, 14]), ([15, 14], [15]), ([16, 16, 0, 1, 2, 3, 4, 5, 6, 7, 8, 9, 10, 11, 12, 13, 14, 15, 16], [16])])
def norm_cmpIf.B1 : List Nat := [0, 1, 0, 4, 15, 0, 32, 0, 128, 511, 0, 1024, 0, 4096, 16383, 32767, 65535, 131071]
theorem norm_cmpIf.tab1 : rtab .any (opsOf Tryz.f68 1) = norm_cmpIf.T1 := by kernel_rfl
theorem norm_cmpIf.bits1 : waitsOk norm_cmpIf.T1.2 norm_cmpIf.B1 = true := by kernel_rfl
set_option maxHeartbeats 8000000 in
set_option maxRecDepth 100000 in
theorem norm_cmpIf.calls (k : Nat) (a0_0 : ByteArray) (a0_1 : ByteArray) (a0_2 : Int) (a1_0 : ByteArray) (a1_1 : ByteArray) (a1_2 : Int) (r : Int) (w : World) (h : norm_cmpIf.f k a0_0 a0_1 a0_2 a1_0 a1_1 a1_2 = some r) :
    Calls Tryz.prog 68 #[.agg #[.string a0_0, .string a0_1, .int .i64 a0_2], .agg #[.string a1_0, .string a1_1, .int .i64 a1_2]] w fun e w' => e = .returned (.int .i64 r) ∧ Below w.heap.size w w' := by
  have hu93 := Tryz.underlying93
  have HB := am (Below.refl w.heap.size w)
  have H : ((cmp_Compare_string.f a0_0 a1_0).bind fun t103 => ((cmp_Compare_string.f a0_1 a1_1).bind fun t104 => ((cmp_Compare_int.f a0_2 a1_2).bind fun t105 => ((cmp_Or_int.f k (([t103, t104, t105] : List Int))).bind fun t109 => (some t109))))) = some r := h
  clear h
  replace H := Option.bind_eq_some_iff.mp H
  obtain ⟨t103, A30, H⟩ := H
  replace H : ((cmp_Compare_string.f a0_1 a1_1).bind fun t104 => ((cmp_Compare_int.f a0_2 a1_2).bind fun t105 => ((cmp_Or_int.f k (([t103, t104, t105] : List Int))).bind fun t109 => (some t109)))) = some r := H
  have A3 := am A30
  clear A30
  replace H := Option.bind_eq_some_iff.mp H
  obtain ⟨t104, A40, H⟩ := H
  replace H : ((cmp_Compare_int.f a0_2 a1_2).bind fun t105 => ((cmp_Or_int.f k (([t103, t104, t105] : List Int))).bind fun t109 => (some t109))) = some r := H
  have A4 := am A40
  clear A40
  replace H := Option.bind_eq_some_iff.mp H
  obtain ⟨t105, A50, H⟩ := H
  replace H : ((cmp_Or_int.f k (([t103, t104, t105] : List Int))).bind fun t109 => (some t109)) = some r := H
  have A5 := am A50
  clear A50
  obtain ⟨y106, hy106⟩ : ∃ y_ : List Int, y_ = (([t103, t104, t105] : List Int)) := ⟨_, rfl⟩
  replace H : ((cmp_Or_int.f k y106).bind fun t109 => (some t109)) = some r := by first | (rw [hy106]; with_reducible exact H) | (have H2_ := (Option.bind_some _ _).symm.trans H; rw [hy106]; with_reducible exact H2_) | (have H2_ := (Option.bind_some _ _).symm.trans H; with_reducible exact H2_) | with_reducible exact H | (rw [hy106]; exact H) | exact H
  have Ny106 := am hy106
  clear hy106
  replace H := Option.bind_eq_some_iff.mp H
  obtain ⟨t109, A60, H⟩ := H
  replace H : (some t109) = some r := H
  have A6 := am A60
  clear A60
  obtain rfl := Option.some.inj H
  go_enter Tryz.func68, Tryz.ntmps68
  try go_wp2_with (first | ((with_reducible refine gd_ 2 ?_); refine bx_ 2 #[.string a0_0, .string a0_1, .int .i64 a0_2] 93 ?_; intro gb101 hg w7 hbox hb; have BK101 := am (hbox); have GW101 := am (zg : w.heap.size ≤ gb101); have GE101 := am (zg : w.heap.size ≤ gb101); replace HB := am (below_step (zb) hb); clear hb hbox hg) | ((with_reducible refine gd_ 3 ?_); refine bx_ 3 #[.string a1_0, .string a1_1, .int .i64 a1_2] 93 ?_; intro gb102 hg w8 hbox hb; have BK102 := am (hbox); have GW102 := am (zg : w.heap.size ≤ gb102); have GE102 := am (zg : w.heap.size ≤ gb102); replace HB := am (below_step (zb) hb); have NB101_102 := am ((zn BK101.out : gb101 ≠ gb102)); have NB102_101 := am ((zm BK101.out : gb102 ≠ gb101)); replace BK101 := am (zw BK101.out hb); clear hb hbox hg))
  replace BK101 := am (blk_drew BK101.out)
  replace BK102 := am (blk_drew BK102.out)
  replace HB := am (below_drew1 HB.out)
  refine start_ (n := 18) (S := fun w' => w'.cell? ⟨gb101, 0, none⟩ = some (.string a0_0) ∧ w'.cell? ⟨gb101, 1, none⟩ = some (.string a0_1) ∧ w'.cell? ⟨gb101, 2, none⟩ = some (.int .i64 a0_2) ∧ w'.cell? ⟨gb102, 0, none⟩ = some (.string a1_0) ∧ w'.cell? ⟨gb102, 1, none⟩ = some (.string a1_1) ∧ w'.cell? ⟨gb102, 2, none⟩ = some (.int .i64 a1_2)) (ds := []) #[false, false, false, false, false, false, false, false, false, false, false, false, false, false, false, false, false, false] (by kernel_rfl) rfl rfl ⟨(blk_cell BK101.out 0).trans rfl, (blk_cell BK101.out 1).trans rfl, (blk_cell BK101.out 2).trans rfl, (blk_cell BK102.out 0).trans rfl, (blk_cell BK102.out 1).trans rfl, (blk_cell BK102.out 2).trans rfl⟩ (fun hHeld => ?_); refine with_tabW norm_cmpIf.tab1 norm_cmpIf.bits1 (fun HT_ HW_ => ?_)
  generalize w8.drew = w9 at BK101 BK102 HB hHeld ⊢
  refine pz_ 0 5 18 1 ?_
  refine pz_ 2 7 18 5 ?_
  refine pz_ 5 10 18 37 ?_
  refine pz_ 7 12 18 165 ?_
  refine pz_ 10 15 18 1189 ?_
  refine pz_ 12 17 18 5285 ?_
  refine tz_ 1 6 18 5287 ?_
  refine tz_ 3 8 18 5295 ?_
  refine tz_ 6 11 18 5359 ?_
  refine tz_ 8 13 18 5615 ?_
  refine tz_ 11 16 18 7663 ?_
  refine tz_ 13 18 18 15855 ?_
  refine one_ (i := 4) (N := some 9) #[true, true, true, true, true, true, true, true, true, false, true, true, true, true, false, false, false, false] rfl rfl (one_of HT_.out (by kernel_rfl)) (by decide) (fun K hK => ?_)
  refine goes_ Tryz.func116 (by kernel_rfl) rfl #[.string a0_0, .string a1_0] (by rfl) rfl rfl (za) ?_
  with_reducible refine (cmp_Compare_string.calls a0_0 a1_0 t103 _ A3.out).mono ?_
  rintro e w' ⟨rfl, ⟨nd, rfl⟩⟩
  refine ⟨_, rfl, ?_⟩
  refine hK.out _ _ ⟨(blk_cell BK101.out 0).trans rfl, (blk_cell BK101.out 1).trans rfl, (blk_cell BK101.out 2).trans rfl, (blk_cell BK102.out 0).trans rfl, (blk_cell BK102.out 1).trans rfl, (blk_cell BK102.out 2).trans rfl⟩ (fun hHeld => ?_)
  clear hK K
  refine nz_ 9 ?_
  refine one_ (i := 9) (N := some 14) #[true, true, true, true, true, true, true, true, true, true, true, true, true, true, false, false, false, false] rfl rfl (one_of HT_.out (by kernel_rfl)) (by decide) (fun K hK => ?_)
  refine goes_ Tryz.func116 (by kernel_rfl) rfl #[.string a0_1, .string a1_1] (by rfl) rfl rfl (za) ?_
  with_reducible refine (cmp_Compare_string.calls a0_1 a1_1 t104 _ A4.out).mono ?_
  rintro e w' ⟨rfl, ⟨nd, rfl⟩⟩
  refine ⟨_, rfl, ?_⟩
  refine hK.out _ _ ⟨(blk_cell BK101.out 0).trans rfl, (blk_cell BK101.out 1).trans rfl, (blk_cell BK101.out 2).trans rfl, (blk_cell BK102.out 0).trans rfl, (blk_cell BK102.out 1).trans rfl, (blk_cell BK102.out 2).trans rfl⟩ (fun hHeld => ?_)
  clear hK K
  refine nz_ 14 ?_
  refine one_ (i := 14) (N := some 19) #[true, true, true, true, true, true, true, true, true, true, true, true, true, true, true, false, false, false] rfl rfl (one_of HT_.out (by kernel_rfl)) (by decide) (fun K hK => ?_)
  refine goes_ Tryz.func117 (by kernel_rfl) rfl #[.int .i64 a0_2, .int .i64 a1_2] (by rfl) rfl rfl (za) ?_
  with_reducible refine (cmp_Compare_int.calls a0_2 a1_2 t105 _ A5.out).mono ?_
  rintro e w' ⟨rfl, ⟨nd, rfl⟩⟩
  refine ⟨_, rfl, ?_⟩
  refine hK.out _ _ ⟨(blk_cell BK101.out 0).trans rfl, (blk_cell BK101.out 1).trans rfl, (blk_cell BK101.out 2).trans rfl, (blk_cell BK102.out 0).trans rfl, (blk_cell BK102.out 1).trans rfl, (blk_cell BK102.out 2).trans rfl⟩ (fun hHeld => ?_)
  clear hK K
  refine nz_ 19 ?_
  refine one_ (i := 15) (N := some 20) #[true, true, true, true, true, true, true, true, true, true, true, true, true, true, true, true, false, false] rfl rfl (one_of HT_.out (by kernel_rfl)) (by decide) (fun K hK => ?_)
  refine Kd.R_lit_step (Kd.int .i64) _ 3 ?hg (N := 20) ?hd (xs := ([t103, t104, t105] : List Int)) (inner := [.int .i64 t103, .int .i64 t104, .int .i64 t105]) (ok := fun _ => True) (okp := fun _ => True) ?hr ?hp (fun _ hk => hk) trivial (Below.refl _ _) (Nat.le_refl _) (by simp) ?_; (case hd => rfl); (case hg => rfl); (case hr => first | (go_simp; done) | (go_simp; rfl)); (case hp => exact (Reps.one (show Kd.M (Kd.int .i64) _ _ _ t103 [.int .i64 t103] from rfl) (Reps.one (show Kd.M (Kd.int .i64) _ _ _ t104 [.int .i64 t104] from rfl) (Reps.one (show Kd.M (Kd.int .i64) _ _ _ t105 [.int .i64 t105] from rfl) (Reps.none _ _)))))
  intro v107 w10 ho11 hb hg_ hnew_
  clear hg_ hnew_
  (first | rw [← Ny106.out] at ho11 | (simp only [Int.reduceToNat] at ho11; rw [← Ny106.out] at ho11))
  have HO108 := am (Kd.R_lower ho11 (below_size (zb)))
  replace BK101 := am (zw BK101.out hb)
  replace BK102 := am (zw BK102.out hb)
  replace HB := am (below_step (zb) hb)
  clear hb ho11
  obtain ⟨Ao12, co12, eo12⟩ := Kd.R_slice HO108.out
  (first | subst eo12 | (injection eo12 with f1_ f2_ f3_; have f4_ := f1_.symm; have f5_ := f3_.symm; clear f1_ f2_ f3_; subst f4_; subst f5_))
  refine hK.out _ _ ⟨(blk_cell BK101.out 0).trans rfl, (blk_cell BK101.out 1).trans rfl, (blk_cell BK101.out 2).trans rfl, (blk_cell BK102.out 0).trans rfl, (blk_cell BK102.out 1).trans rfl, (blk_cell BK102.out 2).trans rfl⟩ (fun hHeld => ?_)
  clear hK K
  refine nz_ 20 ?_
  refine one_ (i := 16) (N := some 21) #[true, true, true, true, true, true, true, true, true, true, true, true, true, true, true, true, true, false] rfl rfl (one_of HT_.out (by kernel_rfl)) (by decide) (fun K hK => ?_)
  refine goes_ Tryz.func64 (by kernel_rfl) rfl #[.slice Ao12 y106.length co12] (by rfl) rfl rfl (za) ?_
  with_reducible refine (cmp_Or_int.calls k _ _ y106 t109 _ ?side1 ?side2 A6.out).mono ?_
  (case side1 => exact zc (Kd.R_reads' HO108.out).2.2)
  (case side2 => exact (Kd.R_reads' HO108.out).2.1)
  rintro e w' ⟨rfl, ⟨nd, rfl⟩⟩
  refine ⟨_, rfl, ?_⟩
  refine hK.out _ _ ⟨(blk_cell BK101.out 0).trans rfl, (blk_cell BK101.out 1).trans rfl, (blk_cell BK101.out 2).trans rfl, (blk_cell BK102.out 0).trans rfl, (blk_cell BK102.out 1).trans rfl, (blk_cell BK102.out 2).trans rfl⟩ (fun hHeld => ?_)
  clear hK K
  refine nz_ 21 ?_
  refine pz_ 17 4 18 262143 ?_
  refine done_ (done_of HT_.out (by kernel_rfl)) ?_
  try go_wp2
  go_ret
  exact ⟨zf, zb⟩
end Go.Proofs.YtpbembafpnknhaaGreat.Pr
namespace Go.Proofs.YtpbembafpnknhaaGreat.Pr
open Go.RowKit Go.Proofs.YtpbembafpnknhaaGreatW.PrintWords Go.Proofs.YtpbembafpnknhaaGreatW.PrintLast Go.Proofs.YtpbembafpnknhaaGreatW.PrintMore
attribute [local go_sem] max2_int min2_int max_two min_two max_three min_three max_four min_four   -- for this text's walks alone
set_option linter.unusedVariables false
set_option linter.unusedSimpArgs false
def slices_CompareFunc_cmpIf.l0 : Nat → List (S93) → List (S93) → List (S93) → Int → Int → Option (Int)
  | 0, _, _, _, _, _ => none
  | k + 1, x0, x1, x11, x12, x13 => if x13 < x12 then (if 0 ≤ x13 then (if x13 < (x11.length : Int) then (if x13 ≥ (x1.length : Int) then (some 1) else (if x13 < (x1.length : Int) then ((norm_cmpIf.f k ((rd_T93 x11 x13).f0) ((rd_T93 x11 x13).f1) ((rd_T93 x11 x13).f2) ((rd_T93 x1 x13).f0) ((rd_T93 x1 x13).f1) ((rd_T93 x1 x13).f2)).bind fun t105 => (if t105 = 0 then (slices_CompareFunc_cmpIf.l0 k x0 x1 x11 x12 (wrap64 (x13 + 1))) else (some t105))) else (none))) else (none)) else (none)) else (if (x0.length : Int) < (x1.length : Int) then (some (-1)) else (some 0))
def slices_CompareFunc_cmpIf.f (k : Nat) (l0 : List (S93)) (l1 : List (S93))  : Option (Int) := slices_CompareFunc_cmpIf.l0 k l0 l1 l0 (l0.length : Int) 0
theorem slices_CompareFunc_cmpIf.mono_l : ∀ k, (∀ y0 y1 y2 y3 y4, LeO (slices_CompareFunc_cmpIf.l0 k y0 y1 y2 y3 y4) (slices_CompareFunc_cmpIf.l0 (k + 1) y0 y1 y2 y3 y4))
  | 0 => fun _ _ _ _ _ r h => by simp [slices_CompareFunc_cmpIf.l0] at h
  | k + 1 => by
    have ih0 := slices_CompareFunc_cmpIf.mono_l k
    · intro y0 y1 y2 y3 y4
      unfold slices_CompareFunc_cmpIf.l0
      repeat' first
      | (with_reducible exact ih0 _ _ _ _ _)
      | (with_reducible exact norm_cmpIf.mono _ _ _ _ _ _ _)
      | (with_reducible exact LeO.refl _)
      | (with_reducible exact LeO.none _)
      | (with_reducible refine LeO.ite ?_ ?_)
      | (with_reducible refine LeO.bind ?_ (fun _ => ?_))
      | exact ih0 _ _ _ _ _
      | exact norm_cmpIf.mono _ _ _ _ _ _ _
      | exact LeO.none _
      | refine LeO.ite ?_ ?_
      | refine LeO.bind ?_ (fun _ => ?_)
theorem slices_CompareFunc_cmpIf.mono : ∀ a0 a1 k, LeO (slices_CompareFunc_cmpIf.f k a0 a1) (slices_CompareFunc_cmpIf.f (k + 1) a0 a1) := by
  intro a0 a1 k
  have ih0 := slices_CompareFunc_cmpIf.mono_l k
  unfold slices_CompareFunc_cmpIf.f
  repeat' first
      | (with_reducible exact ih0 _ _ _ _ _)
      | (with_reducible exact norm_cmpIf.mono _ _ _ _ _ _ _)
      | (with_reducible exact LeO.refl _)
      | (with_reducible exact LeO.none _)
      | (with_reducible refine LeO.ite ?_ ?_)
      | (with_reducible refine LeO.bind ?_ (fun _ => ?_))
      | exact ih0 _ _ _ _ _
      | exact norm_cmpIf.mono _ _ _ _ _ _ _
      | exact LeO.none _
      | refine LeO.ite ?_ ?_
      | refine LeO.bind ?_ (fun _ => ?_)
set_option maxHeartbeats 8000000 in
set_option maxRecDepth 100000 in
theorem slices_CompareFunc_cmpIf.calls (k : Nat) (A0 : Option Addr) (c0 : Nat) (l0 : List (S93)) (A1 : Option Addr) (c1 : Nat) (l1 : List (S93))  (r : Int) (w : World) (hr0 : Kd.C k93 w A0 l0.length l0) (hc0 : l0.length ≤ c0) (hr1 : Kd.C k93 w A1 l1.length l1) (hc1 : l1.length ≤ c1) (h : slices_CompareFunc_cmpIf.f k l0 l1 = some r) :
    Calls Tryz.prog 67 #[.slice A0 l0.length c0, .slice A1 l1.length c1, (.func (.func 68) #[] #[])] w fun e w' => e = .returned (.int .i64 r) ∧ Below w.heap.size w w' := by
  have hu93 := Tryz.underlying93
  have HR0 := am hr0
  have HC0 := am hc0
  clear hr0 hc0
  have HR1 := am hr1
  have HC1 := am hc1
  clear hr1 hc1
  have HB := am (Below.refl w.heap.size w)
  have H : (slices_CompareFunc_cmpIf.l0 k l0 l1 l0 (l0.length : Int) 0) = some r := h
  clear h
  have H' := am H
  clear H
  go_enter Tryz.func67, Tryz.ntmps67
  go_wp2
  go_loopg [13] k (fun kq v13 w' => ∃ (x13_1 : Int), v13 = .int .i64 x13_1 ∧ Aside0 (slices_CompareFunc_cmpIf.l0 kq l0 l1 l0 (l0.length : Int) x13_1 = some r) ∧ Aside0 (kq ≤ k) ∧ Aside0 (Below w.heap.size w w'))
  case atStart => exact ⟨(0), (ze), H', ⟨Nat.le_refl _⟩, ⟨zb⟩⟩
  case round =>
    clear H'
    try clear c1
    try clear p2
    try clear c3
    obtain ⟨x13_1, rfl, HA, HK1, HB⟩ := hrel
    cases gk with
    | zero => exact absurd HA.out (by simp [slices_CompareFunc_cmpIf.l0])
    | succ k1 =>
      have H := HA.out
      clear HA
      simp only [slices_CompareFunc_cmpIf.l0] at H
      by_cases c4 : x13_1 < (l0.length : Int)
      · rw [if_pos c4] at H
        have c4b0 : decide (x13_1 < (l0.length : Int)) = true := decide_eq_true c4
        clear c4
        by_cases c5 : 0 ≤ x13_1
        · rw [if_pos c5] at H
          have c5b0 : decide (0 ≤ x13_1) = true := decide_eq_true c5
          clear c5
          by_cases c6 : x13_1 < (l0.length : Int)
          · rw [if_pos c6] at H
            have c6b0 : decide (x13_1 < (l0.length : Int)) = true := decide_eq_true c6
            clear c6
            by_cases c7 : x13_1 ≥ (l1.length : Int)
            · rw [if_pos c7] at H
              have c7b0 : decide ((l1.length : Int) ≤ x13_1) = true := decide_eq_true c7
              clear c7
              obtain rfl := Option.some.inj H
              have p101 : 0 ≤ (x13_1 : Int) := of_decide_eq_true (zas)
              have q101 : x13_1 < (l0.length : Int) := of_decide_eq_true (zas)
              obtain ⟨ad101, e101, hx101_0, hx101_1, hx101_2⟩ := at_T93 HR0.out x13_1 p101 q101
              cases e101
              replace hx101_0 := ba HB hx101_0
              replace hx101_1 := ba HB hx101_1
              replace hx101_2 := ba HB hx101_2
              replace p101 := eq_true p101
              replace q101 := eq_true q101
              go_wp2_with (first | ((with_reducible refine gd_ 8 ?_); refine bx_ 8 #[.string (⟨#[]⟩ : ByteArray), .string (⟨#[]⟩ : ByteArray), .int .i64 0] 93 ?_; intro gb102 hg w8 hbox hb; have BK102 := am (hbox); have GW102 := am (zg : w.heap.size ≤ gb102); have GE102 := am (zg : w.heap.size ≤ gb102); replace HB := am (below_step (zb) hb); clear hb hbox hg; obtain ⟨hcz9_0, hcz9_1, hcz9_2, hfz9_0, hfz9_1, hfz9_2⟩ := cf3 BK102.out))
              go_ret
              exact ⟨zf, zb⟩
            · rw [if_neg c7] at H
              have c7b0 : decide ((l1.length : Int) ≤ x13_1) = false := decide_eq_false c7
              clear c7
              by_cases c10 : x13_1 < (l1.length : Int)
              · rw [if_pos c10] at H
                have c10b0 : decide (x13_1 < (l1.length : Int)) = true := decide_eq_true c10
                clear c10
                replace H := Option.bind_eq_some_iff.mp H
                obtain ⟨t105, A110, H⟩ := H
                replace H : (if t105 = 0 then (slices_CompareFunc_cmpIf.l0 k1 l0 l1 l0 (l0.length : Int) (wrap64 (x13_1 + 1))) else (some t105)) = some r := H
                have A11 := am A110
                clear A110
                by_cases c12 : t105 = 0
                · rw [if_pos c12] at H
                  have c12b0 : (t105 == 0) = true := beq_iff_eq.mpr c12
                  have c12b1 : (t105 != 0) = false := bne_eq_false_iff_eq.mpr c12
                  clear c12
                  have H' := am H
                  clear H
                  have p101 : 0 ≤ (x13_1 : Int) := of_decide_eq_true (zas)
                  have q101 : x13_1 < (l0.length : Int) := of_decide_eq_true (zas)
                  obtain ⟨ad101, e101, hx101_0, hx101_1, hx101_2⟩ := at_T93 HR0.out x13_1 p101 q101
                  cases e101
                  replace hx101_0 := ba HB hx101_0
                  replace hx101_1 := ba HB hx101_1
                  replace hx101_2 := ba HB hx101_2
                  replace p101 := eq_true p101
                  replace q101 := eq_true q101
                  go_wp2_with (first | ((with_reducible refine gd_ 8 ?_); refine bx_ 8 #[.string (⟨#[]⟩ : ByteArray), .string (⟨#[]⟩ : ByteArray), .int .i64 0] 93 ?_; intro gb102 hg w13 hbox hb; have BK102 := am (hbox); have GW102 := am (zg : w.heap.size ≤ gb102); have GE102 := am (zg : w.heap.size ≤ gb102); replace HB := am (below_step (zb) hb); clear hb hbox hg; obtain ⟨hcz14_0, hcz14_1, hcz14_2, hfz14_0, hfz14_1, hfz14_2⟩ := cf3 BK102.out; have p103 : 0 ≤ (x13_1 : Int) := of_decide_eq_true (zas); have q103 : x13_1 < (l1.length : Int) := of_decide_eq_true (zas); obtain ⟨ad103, e103, hx103_0, hx103_1, hx103_2⟩ := at_T93 HR1.out x13_1 p103 q103; cases e103; have hn103_0 : ad103.block ≠ gb102 := Nat.ne_of_lt (Nat.lt_of_lt_of_le (zy hx103_0) GW102.out); have hn103_1 : ad103.block ≠ gb102 := Nat.ne_of_lt (Nat.lt_of_lt_of_le (zy hx103_0) GW102.out); have hn103_2 : ad103.block ≠ gb102 := Nat.ne_of_lt (Nat.lt_of_lt_of_le (zy hx103_0) GW102.out); replace hx103_0 := ba HB hx103_0; replace hx103_1 := ba HB hx103_1; replace hx103_2 := ba HB hx103_2; replace hx103_0 := (cell_far (p := ⟨gb102, 0, none⟩) (zx hn103_0) (.string ((rd_T93 l0 x13_1).f0))).trans hx103_0; replace hx103_1 := (cell_far (p := ⟨gb102, 0, none⟩) (zx hn103_0) (.string ((rd_T93 l0 x13_1).f0))).trans hx103_1; replace hx103_2 := (cell_far (p := ⟨gb102, 0, none⟩) (zx hn103_0) (.string ((rd_T93 l0 x13_1).f0))).trans hx103_2; replace hx103_0 := (cell_far (p := ⟨gb102, 1, none⟩) (zx hn103_1) (.string ((rd_T93 l0 x13_1).f1))).trans hx103_0; replace hx103_1 := (cell_far (p := ⟨gb102, 1, none⟩) (zx hn103_1) (.string ((rd_T93 l0 x13_1).f1))).trans hx103_1; replace hx103_2 := (cell_far (p := ⟨gb102, 1, none⟩) (zx hn103_1) (.string ((rd_T93 l0 x13_1).f1))).trans hx103_2; replace hx103_0 := (cell_far (p := ⟨gb102, 2, none⟩) (zx hn103_2) (.int .i64 ((rd_T93 l0 x13_1).f2))).trans hx103_0; replace hx103_1 := (cell_far (p := ⟨gb102, 2, none⟩) (zx hn103_2) (.int .i64 ((rd_T93 l0 x13_1).f2))).trans hx103_1; replace hx103_2 := (cell_far (p := ⟨gb102, 2, none⟩) (zx hn103_2) (.int .i64 ((rd_T93 l0 x13_1).f2))).trans hx103_2; clear hn103_0; clear hn103_1; clear hn103_2; replace p103 := eq_true p103; replace q103 := eq_true q103) | ((with_reducible refine gd_ 9 ?_); refine bx_ 9 #[.string (⟨#[]⟩ : ByteArray), .string (⟨#[]⟩ : ByteArray), .int .i64 0] 93 ?_; intro gb104 hg w15 hbox hb; have BK104 := am (hbox); have GW104 := am (zg : w.heap.size ≤ gb104); have GE104 := am (zg : w.heap.size ≤ gb104); replace HB := am (below_step (zb) hb); have NB102_104 := am ((by rw [hg]; exact Nat.ne_of_lt (blk_lt (g := gb102) (o := .cells #[.string ((rd_T93 l0 x13_1).f0), .string ((rd_T93 l0 x13_1).f1), .int .i64 ((rd_T93 l0 x13_1).f2)] 93 (0, 0)) (by refine zl ?_; refine blk_put (cs := #[.string ((rd_T93 l0 x13_1).f0), .string ((rd_T93 l0 x13_1).f1), .int .i64 0]) ?_ 2 _ rfl; refine zl ?_; refine blk_put (cs := #[.string ((rd_T93 l0 x13_1).f0), .string (⟨#[]⟩ : ByteArray), .int .i64 0]) ?_ 1 _ rfl; refine zl ?_; refine blk_put (cs := #[.string (⟨#[]⟩ : ByteArray), .string (⟨#[]⟩ : ByteArray), .int .i64 0]) ?_ 0 _ rfl; refine zl ?_; exact BK102.out)) : gb102 ≠ gb104)); have NB104_102 := am ((by rw [hg]; exact Nat.ne_of_gt (blk_lt (g := gb102) (o := .cells #[.string ((rd_T93 l0 x13_1).f0), .string ((rd_T93 l0 x13_1).f1), .int .i64 ((rd_T93 l0 x13_1).f2)] 93 (0, 0)) (by refine zl ?_; refine blk_put (cs := #[.string ((rd_T93 l0 x13_1).f0), .string ((rd_T93 l0 x13_1).f1), .int .i64 0]) ?_ 2 _ rfl; refine zl ?_; refine blk_put (cs := #[.string ((rd_T93 l0 x13_1).f0), .string (⟨#[]⟩ : ByteArray), .int .i64 0]) ?_ 1 _ rfl; refine zl ?_; refine blk_put (cs := #[.string (⟨#[]⟩ : ByteArray), .string (⟨#[]⟩ : ByteArray), .int .i64 0]) ?_ 0 _ rfl; refine zl ?_; exact BK102.out)) : gb104 ≠ gb102)); replace BK102 := am (blk_below (g := gb102) (o := .cells #[.string ((rd_T93 l0 x13_1).f0), .string ((rd_T93 l0 x13_1).f1), .int .i64 ((rd_T93 l0 x13_1).f2)] 93 (0, 0)) (by refine zl ?_; refine blk_put (cs := #[.string ((rd_T93 l0 x13_1).f0), .string ((rd_T93 l0 x13_1).f1), .int .i64 0]) ?_ 2 _ rfl; refine zl ?_; refine blk_put (cs := #[.string ((rd_T93 l0 x13_1).f0), .string (⟨#[]⟩ : ByteArray), .int .i64 0]) ?_ 1 _ rfl; refine zl ?_; refine blk_put (cs := #[.string (⟨#[]⟩ : ByteArray), .string (⟨#[]⟩ : ByteArray), .int .i64 0]) ?_ 0 _ rfl; refine zl ?_; exact BK102.out) hb); clear hb hbox hg; have hnb16 := NB104_102.out; have hnc16 := NB102_104.out; obtain ⟨hcz17_0, hcz17_1, hcz17_2, hfz17_0, hfz17_1, hfz17_2⟩ := cf3 BK104.out; obtain ⟨hcz18_0, hcz18_1, hcz18_2, hfz18_0, hfz18_1, hfz18_2⟩ := cf3 BK102.out) | ((with_reducible refine gate_callee_d (f := 68) rfl ?_); refine goesLd_ (some 29) rfl rfl Tryz.func68 (by kernel_rfl) rfl #[.agg #[.string ((rd_T93 l0 x13_1).f0), .string ((rd_T93 l0 x13_1).f1), .int .i64 ((rd_T93 l0 x13_1).f2)], .agg #[.string ((rd_T93 l1 x13_1).f0), .string ((rd_T93 l1 x13_1).f1), .int .i64 ((rd_T93 l1 x13_1).f2)]] rfl (za) ?_; (with_reducible refine (norm_cmpIf.calls k1 ((rd_T93 l0 x13_1).f0) ((rd_T93 l0 x13_1).f1) ((rd_T93 l0 x13_1).f2) ((rd_T93 l1 x13_1).f0) ((rd_T93 l1 x13_1).f1) ((rd_T93 l1 x13_1).f2) t105 _ A11.out).mono ?_); rintro e w19 ⟨rfl, hb⟩; refine ⟨_, rfl, ?_⟩; replace BK102 := am (blk_below (g := gb102) (o := .cells #[.string ((rd_T93 l0 x13_1).f0), .string ((rd_T93 l0 x13_1).f1), .int .i64 ((rd_T93 l0 x13_1).f2)] 93 (0, 0)) (by refine zl ?_; refine blk_far ?_ NB102_104.out _; refine zl ?_; refine blk_far ?_ NB102_104.out _; refine zl ?_; refine blk_far ?_ NB102_104.out _; refine zl ?_; exact BK102.out) hb); replace BK104 := am (blk_below (g := gb104) (o := .cells #[.string ((rd_T93 l1 x13_1).f0), .string ((rd_T93 l1 x13_1).f1), .int .i64 ((rd_T93 l1 x13_1).f2)] 93 (0, 0)) (by refine zl ?_; refine blk_put (cs := #[.string ((rd_T93 l1 x13_1).f0), .string ((rd_T93 l1 x13_1).f1), .int .i64 0]) ?_ 2 _ rfl; refine zl ?_; refine blk_put (cs := #[.string ((rd_T93 l1 x13_1).f0), .string (⟨#[]⟩ : ByteArray), .int .i64 0]) ?_ 1 _ rfl; refine zl ?_; refine blk_put (cs := #[.string (⟨#[]⟩ : ByteArray), .string (⟨#[]⟩ : ByteArray), .int .i64 0]) ?_ 0 _ rfl; refine zl ?_; exact BK104.out) hb); replace HB := am (below_step (zb) hb); (try clear hb); (try clear hb2); (try clear hk); (try clear hi)))
                  go_roundg k1
                  case measure => have := HK1.out; omega
                  case rel => exact ⟨(wrap64 (x13_1 + 1)), (ze), H', ⟨by have := HK1.out; omega⟩, ⟨zb⟩⟩
                · rw [if_neg c12] at H
                  have c12b0 : (t105 == 0) = false := beq_eq_false_iff_ne.mpr c12
                  have c12b1 : (t105 != 0) = true := bne_iff_ne.mpr c12
                  obtain rfl := Option.some.inj H
                  have p101 : 0 ≤ (x13_1 : Int) := of_decide_eq_true (zas)
                  have q101 : x13_1 < (l0.length : Int) := of_decide_eq_true (zas)
                  obtain ⟨ad101, e101, hx101_0, hx101_1, hx101_2⟩ := at_T93 HR0.out x13_1 p101 q101
                  cases e101
                  replace hx101_0 := ba HB hx101_0
                  replace hx101_1 := ba HB hx101_1
                  replace hx101_2 := ba HB hx101_2
                  replace p101 := eq_true p101
                  replace q101 := eq_true q101
                  go_wp2_with (first | ((with_reducible refine gd_ 8 ?_); refine bx_ 8 #[.string (⟨#[]⟩ : ByteArray), .string (⟨#[]⟩ : ByteArray), .int .i64 0] 93 ?_; intro gb102 hg w20 hbox hb; have BK102 := am (hbox); have GW102 := am (zg : w.heap.size ≤ gb102); have GE102 := am (zg : w.heap.size ≤ gb102); replace HB := am (below_step (zb) hb); clear hb hbox hg; obtain ⟨hcz21_0, hcz21_1, hcz21_2, hfz21_0, hfz21_1, hfz21_2⟩ := cf3 BK102.out; have p103 : 0 ≤ (x13_1 : Int) := of_decide_eq_true (zas); have q103 : x13_1 < (l1.length : Int) := of_decide_eq_true (zas); obtain ⟨ad103, e103, hx103_0, hx103_1, hx103_2⟩ := at_T93 HR1.out x13_1 p103 q103; cases e103; have hn103_0 : ad103.block ≠ gb102 := Nat.ne_of_lt (Nat.lt_of_lt_of_le (zy hx103_0) GW102.out); have hn103_1 : ad103.block ≠ gb102 := Nat.ne_of_lt (Nat.lt_of_lt_of_le (zy hx103_0) GW102.out); have hn103_2 : ad103.block ≠ gb102 := Nat.ne_of_lt (Nat.lt_of_lt_of_le (zy hx103_0) GW102.out); replace hx103_0 := ba HB hx103_0; replace hx103_1 := ba HB hx103_1; replace hx103_2 := ba HB hx103_2; replace hx103_0 := (cell_far (p := ⟨gb102, 0, none⟩) (zx hn103_0) (.string ((rd_T93 l0 x13_1).f0))).trans hx103_0; replace hx103_1 := (cell_far (p := ⟨gb102, 0, none⟩) (zx hn103_0) (.string ((rd_T93 l0 x13_1).f0))).trans hx103_1; replace hx103_2 := (cell_far (p := ⟨gb102, 0, none⟩) (zx hn103_0) (.string ((rd_T93 l0 x13_1).f0))).trans hx103_2; replace hx103_0 := (cell_far (p := ⟨gb102, 1, none⟩) (zx hn103_1) (.string ((rd_T93 l0 x13_1).f1))).trans hx103_0; replace hx103_1 := (cell_far (p := ⟨gb102, 1, none⟩) (zx hn103_1) (.string ((rd_T93 l0 x13_1).f1))).trans hx103_1; replace hx103_2 := (cell_far (p := ⟨gb102, 1, none⟩) (zx hn103_1) (.string ((rd_T93 l0 x13_1).f1))).trans hx103_2; replace hx103_0 := (cell_far (p := ⟨gb102, 2, none⟩) (zx hn103_2) (.int .i64 ((rd_T93 l0 x13_1).f2))).trans hx103_0; replace hx103_1 := (cell_far (p := ⟨gb102, 2, none⟩) (zx hn103_2) (.int .i64 ((rd_T93 l0 x13_1).f2))).trans hx103_1; replace hx103_2 := (cell_far (p := ⟨gb102, 2, none⟩) (zx hn103_2) (.int .i64 ((rd_T93 l0 x13_1).f2))).trans hx103_2; clear hn103_0; clear hn103_1; clear hn103_2; replace p103 := eq_true p103; replace q103 := eq_true q103) | ((with_reducible refine gd_ 9 ?_); refine bx_ 9 #[.string (⟨#[]⟩ : ByteArray), .string (⟨#[]⟩ : ByteArray), .int .i64 0] 93 ?_; intro gb104 hg w22 hbox hb; have BK104 := am (hbox); have GW104 := am (zg : w.heap.size ≤ gb104); have GE104 := am (zg : w.heap.size ≤ gb104); replace HB := am (below_step (zb) hb); have NB102_104 := am ((by rw [hg]; exact Nat.ne_of_lt (blk_lt (g := gb102) (o := .cells #[.string ((rd_T93 l0 x13_1).f0), .string ((rd_T93 l0 x13_1).f1), .int .i64 ((rd_T93 l0 x13_1).f2)] 93 (0, 0)) (by refine zl ?_; refine blk_put (cs := #[.string ((rd_T93 l0 x13_1).f0), .string ((rd_T93 l0 x13_1).f1), .int .i64 0]) ?_ 2 _ rfl; refine zl ?_; refine blk_put (cs := #[.string ((rd_T93 l0 x13_1).f0), .string (⟨#[]⟩ : ByteArray), .int .i64 0]) ?_ 1 _ rfl; refine zl ?_; refine blk_put (cs := #[.string (⟨#[]⟩ : ByteArray), .string (⟨#[]⟩ : ByteArray), .int .i64 0]) ?_ 0 _ rfl; refine zl ?_; exact BK102.out)) : gb102 ≠ gb104)); have NB104_102 := am ((by rw [hg]; exact Nat.ne_of_gt (blk_lt (g := gb102) (o := .cells #[.string ((rd_T93 l0 x13_1).f0), .string ((rd_T93 l0 x13_1).f1), .int .i64 ((rd_T93 l0 x13_1).f2)] 93 (0, 0)) (by refine zl ?_; refine blk_put (cs := #[.string ((rd_T93 l0 x13_1).f0), .string ((rd_T93 l0 x13_1).f1), .int .i64 0]) ?_ 2 _ rfl; refine zl ?_; refine blk_put (cs := #[.string ((rd_T93 l0 x13_1).f0), .string (⟨#[]⟩ : ByteArray), .int .i64 0]) ?_ 1 _ rfl; refine zl ?_; refine blk_put (cs := #[.string (⟨#[]⟩ : ByteArray), .string (⟨#[]⟩ : ByteArray), .int .i64 0]) ?_ 0 _ rfl; refine zl ?_; exact BK102.out)) : gb104 ≠ gb102)); replace BK102 := am (blk_below (g := gb102) (o := .cells #[.string ((rd_T93 l0 x13_1).f0), .string ((rd_T93 l0 x13_1).f1), .int .i64 ((rd_T93 l0 x13_1).f2)] 93 (0, 0)) (by refine zl ?_; refine blk_put (cs := #[.string ((rd_T93 l0 x13_1).f0), .string ((rd_T93 l0 x13_1).f1), .int .i64 0]) ?_ 2 _ rfl; refine zl ?_; refine blk_put (cs := #[.string ((rd_T93 l0 x13_1).f0), .string (⟨#[]⟩ : ByteArray), .int .i64 0]) ?_ 1 _ rfl; refine zl ?_; refine blk_put (cs := #[.string (⟨#[]⟩ : ByteArray), .string (⟨#[]⟩ : ByteArray), .int .i64 0]) ?_ 0 _ rfl; refine zl ?_; exact BK102.out) hb); clear hb hbox hg; have hnb23 := NB104_102.out; have hnc23 := NB102_104.out; obtain ⟨hcz24_0, hcz24_1, hcz24_2, hfz24_0, hfz24_1, hfz24_2⟩ := cf3 BK104.out; obtain ⟨hcz25_0, hcz25_1, hcz25_2, hfz25_0, hfz25_1, hfz25_2⟩ := cf3 BK102.out) | ((with_reducible refine gate_callee_d (f := 68) rfl ?_); refine goesLd_ (some 29) rfl rfl Tryz.func68 (by kernel_rfl) rfl #[.agg #[.string ((rd_T93 l0 x13_1).f0), .string ((rd_T93 l0 x13_1).f1), .int .i64 ((rd_T93 l0 x13_1).f2)], .agg #[.string ((rd_T93 l1 x13_1).f0), .string ((rd_T93 l1 x13_1).f1), .int .i64 ((rd_T93 l1 x13_1).f2)]] rfl (za) ?_; (with_reducible refine (norm_cmpIf.calls k1 ((rd_T93 l0 x13_1).f0) ((rd_T93 l0 x13_1).f1) ((rd_T93 l0 x13_1).f2) ((rd_T93 l1 x13_1).f0) ((rd_T93 l1 x13_1).f1) ((rd_T93 l1 x13_1).f2) t105 _ A11.out).mono ?_); rintro e w26 ⟨rfl, hb⟩; refine ⟨_, rfl, ?_⟩; replace BK102 := am (blk_below (g := gb102) (o := .cells #[.string ((rd_T93 l0 x13_1).f0), .string ((rd_T93 l0 x13_1).f1), .int .i64 ((rd_T93 l0 x13_1).f2)] 93 (0, 0)) (by refine zl ?_; refine blk_far ?_ NB102_104.out _; refine zl ?_; refine blk_far ?_ NB102_104.out _; refine zl ?_; refine blk_far ?_ NB102_104.out _; refine zl ?_; exact BK102.out) hb); replace BK104 := am (blk_below (g := gb104) (o := .cells #[.string ((rd_T93 l1 x13_1).f0), .string ((rd_T93 l1 x13_1).f1), .int .i64 ((rd_T93 l1 x13_1).f2)] 93 (0, 0)) (by refine zl ?_; refine blk_put (cs := #[.string ((rd_T93 l1 x13_1).f0), .string ((rd_T93 l1 x13_1).f1), .int .i64 0]) ?_ 2 _ rfl; refine zl ?_; refine blk_put (cs := #[.string ((rd_T93 l1 x13_1).f0), .string (⟨#[]⟩ : ByteArray), .int .i64 0]) ?_ 1 _ rfl; refine zl ?_; refine blk_put (cs := #[.string (⟨#[]⟩ : ByteArray), .string (⟨#[]⟩ : ByteArray), .int .i64 0]) ?_ 0 _ rfl; refine zl ?_; exact BK104.out) hb); replace HB := am (below_step (zb) hb); (try clear hb); (try clear hb2); (try clear hk); (try clear hi)))
                  go_ret
                  exact ⟨zf, zb⟩
              · rw [if_neg c10] at H
                exact absurd H (by simp)
          · rw [if_neg c6] at H
            exact absurd H (by simp)
        · rw [if_neg c5] at H
          exact absurd H (by simp)
      · rw [if_neg c4] at H
        have c4b0 : decide (x13_1 < (l0.length : Int)) = false := decide_eq_false c4
        clear c4
        by_cases c27 : (l0.length : Int) < (l1.length : Int)
        · rw [if_pos c27] at H
          have c27b0 : decide ((l0.length : Int) < (l1.length : Int)) = true := decide_eq_true c27
          have c27b1 : decide (l0.length < l1.length) = true := decide_eq_true (Int.ofNat_lt.mp c27)
          clear c27
          obtain rfl := Option.some.inj H
          go_wp2
          go_ret
          exact ⟨zf, zb⟩
        · rw [if_neg c27] at H
          have c27b0 : decide ((l0.length : Int) < (l1.length : Int)) = false := decide_eq_false c27
          have c27b1 : decide (l0.length < l1.length) = false := decide_eq_false (fun h => c27 (Int.ofNat_lt.mpr h))
          clear c27
          obtain rfl := Option.some.inj H
          go_wp2
          go_ret
          exact ⟨zf, zb⟩
end Go.Proofs.YtpbembafpnknhaaGreat.Pr
namespace Go.Proofs.YtpbembafpnknhaaGreat.Pr
open Go.RowKit Go.Proofs.YtpbembafpnknhaaGreatW.PrintWords Go.Proofs.YtpbembafpnknhaaGreatW.PrintLast Go.Proofs.YtpbembafpnknhaaGreatW.PrintMore
attribute [local go_sem] max2_int min2_int max_two min_two max_three min_three max_four min_four   -- for this text's walks alone
set_option linter.unusedVariables false
set_option linter.unusedSimpArgs false
def norm_CmpSentry.f (k : Nat) (l0_0 : List (S78)) (l0_1 : List (S93)) (l1_0 : List (S78)) (l1_1 : List (S93)) : Option (Int) := (slices_CompareFunc_cmpOn.f k l0_0 l1_0).bind fun t103 => ((slices_CompareFunc_cmpIf.f k l0_1 l1_1).bind fun t104 => ((cmp_Or_int.f k (([t103, t104] : List Int))).bind fun t108 => (some t108)))
theorem norm_CmpSentry.mono : ∀ a0 a1 a2 a3 k, LeO (norm_CmpSentry.f k a0 a1 a2 a3) (norm_CmpSentry.f (k + 1) a0 a1 a2 a3) := by
  intro a0 a1 a2 a3 k
  unfold norm_CmpSentry.f
  repeat' first
      | (with_reducible exact cmp_Or_int.mono _ _)
      | (with_reducible exact slices_CompareFunc_cmpIf.mono _ _ _)
      | (with_reducible exact slices_CompareFunc_cmpOn.mono _ _ _)
      | (with_reducible exact LeO.refl _)
      | (with_reducible exact LeO.none _)
      | (with_reducible refine LeO.ite ?_ ?_)
      | (with_reducible refine LeO.bind ?_ (fun _ => ?_))
      | exact cmp_Or_int.mono _ _
      | exact slices_CompareFunc_cmpIf.mono _ _ _
      | exact slices_CompareFunc_cmpOn.mono _ _ _
      | exact LeO.none _
      | refine LeO.ite ?_ ?_
      | refine LeO.bind ?_ (fun _ => ?_)
def norm_CmpSentry.T1 : Bool × List (List Nat × List Nat) := (true, [([], []), ([0], [0]), ([], []), ([2], [2]), ([1, 3], [1, 3]), ([], []), ([5], [5]), ([], []), ([7], [7]), ([6, 8, 4], [6, 8]), ([4, 9], [4, 9]), ([10, 9], [10]), ([11, 11, 0, 1, 2, 3, 4, 5, 6, 7, 8, 9, 10, 11], [11])])
def norm_CmpSentry.B1 : List Nat := [0, 1, 0, 4, 15, 0, 32, 0, 128, 511, 1023, 2047, 4095]
theorem norm_CmpSentry.tab1 : rtab .any (opsOf Tryz.f32 1) = norm_CmpSentry.T1 := by kernel_rfl
theorem norm_CmpSentry.bits1 : waitsOk norm_CmpSentry.T1.2 norm_CmpSentry.B1 = true := by kernel_rfl
set_option maxHeartbeats 8000000 in
set_option maxRecDepth 100000 in
theorem norm_CmpSentry.calls (k : Nat) (A0_0 : Option Addr) (c0_0 : Nat) (l0_0 : List (S78)) (A0_1 : Option Addr) (c0_1 : Nat) (l0_1 : List (S93)) (A1_0 : Option Addr) (c1_0 : Nat) (l1_0 : List (S78)) (A1_1 : Option Addr) (c1_1 : Nat) (l1_1 : List (S93)) (r : Int) (w : World) (hr0_0 : Kd.C k78 w A0_0 l0_0.length l0_0) (hc0_0 : l0_0.length ≤ c0_0) (hr0_1 : Kd.C k93 w A0_1 l0_1.length l0_1) (hc0_1 : l0_1.length ≤ c0_1) (hr1_0 : Kd.C k78 w A1_0 l1_0.length l1_0) (hc1_0 : l1_0.length ≤ c1_0) (hr1_1 : Kd.C k93 w A1_1 l1_1.length l1_1) (hc1_1 : l1_1.length ≤ c1_1) (h : norm_CmpSentry.f k l0_0 l0_1 l1_0 l1_1 = some r) :
    Calls Tryz.prog 32 #[.agg #[.slice A0_0 l0_0.length c0_0, .slice A0_1 l0_1.length c0_1], .agg #[.slice A1_0 l1_0.length c1_0, .slice A1_1 l1_1.length c1_1]] w fun e w' => e = .returned (.int .i64 r) ∧ Below w.heap.size w w' := by
  have hu29 := Tryz.underlying29
  have HR0_0 := am hr0_0
  have HC0_0 := am hc0_0
  clear hr0_0 hc0_0
  have HR0_1 := am hr0_1
  have HC0_1 := am hc0_1
  clear hr0_1 hc0_1
  have HR1_0 := am hr1_0
  have HC1_0 := am hc1_0
  clear hr1_0 hc1_0
  have HR1_1 := am hr1_1
  have HC1_1 := am hc1_1
  clear hr1_1 hc1_1
  have HB := am (Below.refl w.heap.size w)
  have H : ((slices_CompareFunc_cmpOn.f k l0_0 l1_0).bind fun t103 => ((slices_CompareFunc_cmpIf.f k l0_1 l1_1).bind fun t104 => ((cmp_Or_int.f k (([t103, t104] : List Int))).bind fun t108 => (some t108)))) = some r := h
  clear h
  replace H := Option.bind_eq_some_iff.mp H
  obtain ⟨t103, A30, H⟩ := H
  replace H : ((slices_CompareFunc_cmpIf.f k l0_1 l1_1).bind fun t104 => ((cmp_Or_int.f k (([t103, t104] : List Int))).bind fun t108 => (some t108))) = some r := H
  have A3 := am A30
  clear A30
  replace H := Option.bind_eq_some_iff.mp H
  obtain ⟨t104, A40, H⟩ := H
  replace H : ((cmp_Or_int.f k (([t103, t104] : List Int))).bind fun t108 => (some t108)) = some r := H
  have A4 := am A40
  clear A40
  obtain ⟨y105, hy105⟩ : ∃ y_ : List Int, y_ = (([t103, t104] : List Int)) := ⟨_, rfl⟩
  replace H : ((cmp_Or_int.f k y105).bind fun t108 => (some t108)) = some r := by first | (rw [hy105]; with_reducible exact H) | (have H2_ := (Option.bind_some _ _).symm.trans H; rw [hy105]; with_reducible exact H2_) | (have H2_ := (Option.bind_some _ _).symm.trans H; with_reducible exact H2_) | with_reducible exact H | (rw [hy105]; exact H) | exact H
  have Ny105 := am hy105
  clear hy105
  replace H := Option.bind_eq_some_iff.mp H
  obtain ⟨t108, A50, H⟩ := H
  replace H : (some t108) = some r := H
  have A5 := am A50
  clear A50
  obtain rfl := Option.some.inj H
  go_enter Tryz.func32, Tryz.ntmps32
  try go_wp2_with (first | ((with_reducible refine gd_ 2 ?_); refine bx_ 2 #[.slice A0_0 l0_0.length c0_0, .slice A0_1 l0_1.length c0_1] 29 ?_; intro gb101 hg w6 hbox hb; have BK101 := am (hbox); have GW101 := am (zg : w.heap.size ≤ gb101); have GE101 := am (zg : w.heap.size ≤ gb101); replace HB := am (below_step (zb) hb); clear hb hbox hg) | ((with_reducible refine gd_ 3 ?_); refine bx_ 3 #[.slice A1_0 l1_0.length c1_0, .slice A1_1 l1_1.length c1_1] 29 ?_; intro gb102 hg w7 hbox hb; have BK102 := am (hbox); have GW102 := am (zg : w.heap.size ≤ gb102); have GE102 := am (zg : w.heap.size ≤ gb102); replace HB := am (below_step (zb) hb); have NB101_102 := am ((zn BK101.out : gb101 ≠ gb102)); have NB102_101 := am ((zm BK101.out : gb102 ≠ gb101)); replace BK101 := am (zw BK101.out hb); clear hb hbox hg))
  replace BK101 := am (blk_drew BK101.out)
  replace BK102 := am (blk_drew BK102.out)
  replace HB := am (below_drew1 HB.out)
  refine start_ (n := 13) (S := fun w' => w'.cell? ⟨gb101, 0, none⟩ = some (.slice A0_0 l0_0.length c0_0) ∧ w'.cell? ⟨gb101, 1, none⟩ = some (.slice A0_1 l0_1.length c0_1) ∧ w'.cell? ⟨gb102, 0, none⟩ = some (.slice A1_0 l1_0.length c1_0) ∧ w'.cell? ⟨gb102, 1, none⟩ = some (.slice A1_1 l1_1.length c1_1)) (ds := []) #[false, false, false, false, false, false, false, false, false, false, false, false, false] (by kernel_rfl) rfl rfl ⟨(blk_cell BK101.out 0).trans rfl, (blk_cell BK101.out 1).trans rfl, (blk_cell BK102.out 0).trans rfl, (blk_cell BK102.out 1).trans rfl⟩ (fun hHeld => ?_); refine with_tabW norm_CmpSentry.tab1 norm_CmpSentry.bits1 (fun HT_ HW_ => ?_)
  generalize w7.drew = w8 at BK101 BK102 HB hHeld ⊢
  refine pz_ 0 5 13 1 ?_
  refine pz_ 2 7 13 5 ?_
  refine pz_ 5 10 13 37 ?_
  refine pz_ 7 12 13 165 ?_
  refine tz_ 1 6 13 167 ?_
  refine tz_ 3 8 13 175 ?_
  refine tz_ 6 11 13 239 ?_
  refine tz_ 8 13 13 495 ?_
  refine one_ (i := 4) (N := some 9) #[true, true, true, true, true, true, true, true, true, false, false, false, false] rfl rfl (one_of HT_.out (by kernel_rfl)) (by decide) (fun K hK => ?_)
  refine goes_ Tryz.func65 (by kernel_rfl) rfl #[.slice A0_0 l0_0.length c0_0, .slice A1_0 l1_0.length c1_0, (.func (.func 66) #[] #[])] (by rfl) rfl rfl (za) ?_
  with_reducible refine (slices_CompareFunc_cmpOn.calls k _ _ l0_0 _ _ l1_0 t103 _ ?side1 ?side2 ?side3 ?side4 A3.out).mono ?_
  (case side1 => exact zc (Kd.C_below HR0_0.out HB.out))
  (case side2 => exact HC0_0.out)
  (case side3 => exact zc (Kd.C_below HR1_0.out HB.out))
  (case side4 => exact HC1_0.out)
  rintro e w9 ⟨rfl, hb⟩
  refine ⟨_, rfl, ?_⟩
  replace BK101 := am (zw BK101.out hb)
  replace BK102 := am (zw BK102.out hb)
  replace HB := am (below_step (zb) hb)
  (try clear hb)
  (try clear hb2)
  (try clear hk)
  (try clear hi)
  refine hK.out _ _ ⟨(blk_cell BK101.out 0).trans rfl, (blk_cell BK101.out 1).trans rfl, (blk_cell BK102.out 0).trans rfl, (blk_cell BK102.out 1).trans rfl⟩ (fun hHeld => ?_)
  clear hK K
  refine nz_ 9 ?_
  refine one_ (i := 9) (N := some 14) #[true, true, true, true, true, true, true, true, true, true, false, false, false] rfl rfl (one_of HT_.out (by kernel_rfl)) (by decide) (fun K hK => ?_)
  refine goes_ Tryz.func67 (by kernel_rfl) rfl #[.slice A0_1 l0_1.length c0_1, .slice A1_1 l1_1.length c1_1, (.func (.func 68) #[] #[])] (by rfl) rfl rfl (za) ?_
  with_reducible refine (slices_CompareFunc_cmpIf.calls k _ _ l0_1 _ _ l1_1 t104 _ ?side1 ?side2 ?side3 ?side4 A4.out).mono ?_
  (case side1 => exact zc (Kd.C_below HR0_1.out HB.out))
  (case side2 => exact HC0_1.out)
  (case side3 => exact zc (Kd.C_below HR1_1.out HB.out))
  (case side4 => exact HC1_1.out)
  rintro e w10 ⟨rfl, hb⟩
  refine ⟨_, rfl, ?_⟩
  replace BK101 := am (zw BK101.out hb)
  replace BK102 := am (zw BK102.out hb)
  replace HB := am (below_step (zb) hb)
  (try clear hb)
  (try clear hb2)
  (try clear hk)
  (try clear hi)
  refine hK.out _ _ ⟨(blk_cell BK101.out 0).trans rfl, (blk_cell BK101.out 1).trans rfl, (blk_cell BK102.out 0).trans rfl, (blk_cell BK102.out 1).trans rfl⟩ (fun hHeld => ?_)
  clear hK K
  refine nz_ 14 ?_
  refine one_ (i := 10) (N := some 15) #[true, true, true, true, true, true, true, true, true, true, true, false, false] rfl rfl (one_of HT_.out (by kernel_rfl)) (by decide) (fun K hK => ?_)
  refine Kd.R_lit_step (Kd.int .i64) _ 3 ?hg (N := 15) ?hd (xs := ([t103, t104] : List Int)) (inner := [.int .i64 t103, .int .i64 t104]) (ok := fun _ => True) (okp := fun _ => True) ?hr ?hp (fun _ hk => hk) trivial (Below.refl _ _) (Nat.le_refl _) (by simp) ?_; (case hd => rfl); (case hg => rfl); (case hr => first | (go_simp; done) | (go_simp; rfl)); (case hp => exact (Reps.one (show Kd.M (Kd.int .i64) _ _ _ t103 [.int .i64 t103] from rfl) (Reps.one (show Kd.M (Kd.int .i64) _ _ _ t104 [.int .i64 t104] from rfl) (Reps.none _ _))))
  intro v106 w11 ho12 hb hg_ hnew_
  clear hg_ hnew_
  (first | rw [← Ny105.out] at ho12 | (simp only [Int.reduceToNat] at ho12; rw [← Ny105.out] at ho12))
  have HO107 := am (Kd.R_lower ho12 (below_size (zb)))
  replace BK101 := am (zw BK101.out hb)
  replace BK102 := am (zw BK102.out hb)
  replace HB := am (below_step (zb) hb)
  clear hb ho12
  obtain ⟨Ao13, co13, eo13⟩ := Kd.R_slice HO107.out
  (first | subst eo13 | (injection eo13 with f1_ f2_ f3_; have f4_ := f1_.symm; have f5_ := f3_.symm; clear f1_ f2_ f3_; subst f4_; subst f5_))
  refine hK.out _ _ ⟨(blk_cell BK101.out 0).trans rfl, (blk_cell BK101.out 1).trans rfl, (blk_cell BK102.out 0).trans rfl, (blk_cell BK102.out 1).trans rfl⟩ (fun hHeld => ?_)
  clear hK K
  refine nz_ 15 ?_
  refine one_ (i := 11) (N := some 16) #[true, true, true, true, true, true, true, true, true, true, true, true, false] rfl rfl (one_of HT_.out (by kernel_rfl)) (by decide) (fun K hK => ?_)
  refine goes_ Tryz.func64 (by kernel_rfl) rfl #[.slice Ao13 y105.length co13] (by rfl) rfl rfl (za) ?_
  with_reducible refine (cmp_Or_int.calls k _ _ y105 t108 _ ?side1 ?side2 A5.out).mono ?_
  (case side1 => exact zc (Kd.R_reads' HO107.out).2.2)
  (case side2 => exact (Kd.R_reads' HO107.out).2.1)
  rintro e w' ⟨rfl, ⟨nd, rfl⟩⟩
  refine ⟨_, rfl, ?_⟩
  refine hK.out _ _ ⟨(blk_cell BK101.out 0).trans rfl, (blk_cell BK101.out 1).trans rfl, (blk_cell BK102.out 0).trans rfl, (blk_cell BK102.out 1).trans rfl⟩ (fun hHeld => ?_)
  clear hK K
  refine nz_ 16 ?_
  refine pz_ 12 4 13 8191 ?_
  refine done_ (done_of HT_.out (by kernel_rfl)) ?_
  try go_wp2
  go_ret
  exact ⟨zf, zb⟩
end Go.Proofs.YtpbembafpnknhaaGreat.Pr
namespace Go.Proofs.YtpbembafpnknhaaGreat.Pr
open Go.RowKit Go.Proofs.YtpbembafpnknhaaGreatW.PrintWords Go.Proofs.YtpbembafpnknhaaGreatW.PrintLast Go.Proofs.YtpbembafpnknhaaGreatW.PrintMore
attribute [local go_sem] max2_int min2_int max_two min_two max_three min_three max_four min_four   -- for this text's walks alone
set_option linter.unusedVariables false
set_option linter.unusedSimpArgs false
def name_isLetter.f (a0 : Int) : Option (Bool) := if a0 ≥ 97 then (if a0 ≤ 122 then (some true) else (if a0 ≥ 65 then (if a0 ≤ 90 then (some true) else (some (a0 == 95))) else (some (a0 == 95)))) else (if a0 ≥ 65 then (if a0 ≤ 90 then (some true) else (some (a0 == 95))) else (some (a0 == 95)))
set_option maxHeartbeats 8000000 in
set_option maxRecDepth 100000 in
theorem name_isLetter.calls (a0 : Int) (r : Bool) (w : World) (h : name_isLetter.f a0 = some r) :
    Calls Tryz.prog 208 #[.int .u8 a0] w fun e w' => e = .returned (.bool r) ∧ Drawn0 w w' := by
  have H : (if a0 ≥ 97 then (if a0 ≤ 122 then (some true) else (if a0 ≥ 65 then (if a0 ≤ 90 then (some true) else (some (a0 == 95))) else (some (a0 == 95)))) else (if a0 ≥ 65 then (if a0 ≤ 90 then (some true) else (some (a0 == 95))) else (some (a0 == 95)))) = some r := h
  clear h
  by_cases c2 : a0 ≥ 97
  · rw [if_pos c2] at H
    have c2b0 : decide (97 ≤ a0) = true := decide_eq_true c2
    clear c2
    by_cases c3 : a0 ≤ 122
    · rw [if_pos c3] at H
      have c3b0 : decide (a0 ≤ 122) = true := decide_eq_true c3
      clear c3
      obtain rfl := Option.some.inj H
      go_enter Tryz.func208, Tryz.ntmps208
      go_wp2
      go_ret
      exact ⟨ze, zd⟩
    · rw [if_neg c3] at H
      have c3b0 : decide (a0 ≤ 122) = false := decide_eq_false c3
      clear c3
      by_cases c4 : a0 ≥ 65
      · rw [if_pos c4] at H
        have c4b0 : decide (65 ≤ a0) = true := decide_eq_true c4
        clear c4
        by_cases c5 : a0 ≤ 90
        · rw [if_pos c5] at H
          have c5b0 : decide (a0 ≤ 90) = true := decide_eq_true c5
          clear c5
          obtain rfl := Option.some.inj H
          go_enter Tryz.func208, Tryz.ntmps208
          go_wp2
          go_ret
          exact ⟨ze, zd⟩
        · rw [if_neg c5] at H
          have c5b0 : decide (a0 ≤ 90) = false := decide_eq_false c5
          clear c5
          obtain rfl := Option.some.inj H
          go_enter Tryz.func208, Tryz.ntmps208
          go_wp2
          go_ret
          exact ⟨ze, zd⟩
      · rw [if_neg c4] at H
        have c4b0 : decide (65 ≤ a0) = false := decide_eq_false c4
        clear c4
        obtain rfl := Option.some.inj H
        go_enter Tryz.func208, Tryz.ntmps208
        go_wp2
        go_ret
        exact ⟨ze, zd⟩
  · rw [if_neg c2] at H
    have c2b0 : decide (97 ≤ a0) = false := decide_eq_false c2
    clear c2
    by_cases c6 : a0 ≥ 65
    · rw [if_pos c6] at H
      have c6b0 : decide (65 ≤ a0) = true := decide_eq_true c6
      clear c6
      by_cases c7 : a0 ≤ 90
      · rw [if_pos c7] at H
        have c7b0 : decide (a0 ≤ 90) = true := decide_eq_true c7
        clear c7
        obtain rfl := Option.some.inj H
        go_enter Tryz.func208, Tryz.ntmps208
        go_wp2
        go_ret
        exact ⟨ze, zd⟩
      · rw [if_neg c7] at H
        have c7b0 : decide (a0 ≤ 90) = false := decide_eq_false c7
        clear c7
        obtain rfl := Option.some.inj H
        go_enter Tryz.func208, Tryz.ntmps208
        go_wp2
        go_ret
        exact ⟨ze, zd⟩
    · rw [if_neg c6] at H
      have c6b0 : decide (65 ≤ a0) = false := decide_eq_false c6
      clear c6
      obtain rfl := Option.some.inj H
      go_enter Tryz.func208, Tryz.ntmps208
      go_wp2
      go_ret
      exact ⟨ze, zd⟩
end Go.Proofs.YtpbembafpnknhaaGreat.Pr
namespace Go.Proofs.YtpbembafpnknhaaGreat.Pr
open Go.RowKit Go.Proofs.YtpbembafpnknhaaGreatW.PrintWords Go.Proofs.YtpbembafpnknhaaGreatW.PrintLast Go.Proofs.YtpbembafpnknhaaGreatW.PrintMore
attribute [local go_sem] max2_int min2_int max_two min_two max_three min_three max_four min_four   -- for this text's walks alone
set_option linter.unusedVariables false
set_option linter.unusedSimpArgs false
def name_isMore.f (a0 : Int) : Option (Bool) := (name_isLetter.f a0).bind fun t101 => (if t101 = true then (some true) else (if a0 ≥ 48 then (if a0 ≤ 57 then (some true) else (if a0 = 45 then (some true) else (some (a0 == 46)))) else (if a0 = 45 then (some true) else (some (a0 == 46)))))
set_option maxHeartbeats 8000000 in
set_option maxRecDepth 100000 in
theorem name_isMore.calls (a0 : Int) (r : Bool) (w : World) (h : name_isMore.f a0 = some r) :
    Calls Tryz.prog 209 #[.int .u8 a0] w fun e w' => e = .returned (.bool r) ∧ Drawn0 w w' := by
  have H : ((name_isLetter.f a0).bind fun t101 => (if t101 = true then (some true) else (if a0 ≥ 48 then (if a0 ≤ 57 then (some true) else (if a0 = 45 then (some true) else (some (a0 == 46)))) else (if a0 = 45 then (some true) else (some (a0 == 46)))))) = some r := h
  clear h
  replace H := Option.bind_eq_some_iff.mp H
  obtain ⟨t101, A20, H⟩ := H
  replace H : (if t101 = true then (some true) else (if a0 ≥ 48 then (if a0 ≤ 57 then (some true) else (if a0 = 45 then (some true) else (some (a0 == 46)))) else (if a0 = 45 then (some true) else (some (a0 == 46))))) = some r := H
  have A2 := am A20
  clear A20
  by_cases c3 : t101 = true
  · subst c3
    have H1 : (some true) = some r := by rw [if_pos rfl] at H; exact H
    clear H
    have H := H1
    clear H1
    obtain rfl := Option.some.inj H
    go_enter Tryz.func209, Tryz.ntmps209
    go_wp2_with (first | ((with_reducible refine gc_ 208 ?_); refine goesL_ (some 4) rfl rfl Tryz.func208 (by kernel_rfl) rfl #[.int .u8 a0] rfl (za) ?_; (with_reducible refine (name_isLetter.calls a0 true _ A2.out).mono ?_); rintro e w' ⟨rfl, ⟨nd, rfl⟩⟩; refine ⟨_, rfl, ?_⟩))
    go_ret
    exact ⟨ze, zd⟩
  · replace c3 := Bool.eq_false_iff.mpr c3
    subst c3
    have H1 : (if a0 ≥ 48 then (if a0 ≤ 57 then (some true) else (if a0 = 45 then (some true) else (some (a0 == 46)))) else (if a0 = 45 then (some true) else (some (a0 == 46)))) = some r := by rw [if_neg (show ¬ (false = true) by decide)] at H; exact H
    clear H
    have H := H1
    clear H1
    by_cases c4 : a0 ≥ 48
    · rw [if_pos c4] at H
      have c4b0 : decide (48 ≤ a0) = true := decide_eq_true c4
      clear c4
      by_cases c5 : a0 ≤ 57
      · rw [if_pos c5] at H
        have c5b0 : decide (a0 ≤ 57) = true := decide_eq_true c5
        clear c5
        obtain rfl := Option.some.inj H
        go_enter Tryz.func209, Tryz.ntmps209
        go_wp2_with (first | ((with_reducible refine gc_ 208 ?_); refine goesL_ (some 4) rfl rfl Tryz.func208 (by kernel_rfl) rfl #[.int .u8 a0] rfl (za) ?_; (with_reducible refine (name_isLetter.calls a0 false _ A2.out).mono ?_); rintro e w' ⟨rfl, ⟨nd, rfl⟩⟩; refine ⟨_, rfl, ?_⟩))
        go_ret
        exact ⟨ze, zd⟩
      · rw [if_neg c5] at H
        have c5b0 : decide (a0 ≤ 57) = false := decide_eq_false c5
        clear c5
        by_cases c6 : a0 = 45
        · rw [if_pos c6] at H
          have c6b0 : (a0 == 45) = true := beq_iff_eq.mpr c6
          have c6b1 : (a0 != 45) = false := bne_eq_false_iff_eq.mpr c6
          clear c6
          obtain rfl := Option.some.inj H
          go_enter Tryz.func209, Tryz.ntmps209
          go_wp2_with (first | ((with_reducible refine gc_ 208 ?_); refine goesL_ (some 4) rfl rfl Tryz.func208 (by kernel_rfl) rfl #[.int .u8 a0] rfl (za) ?_; (with_reducible refine (name_isLetter.calls a0 false _ A2.out).mono ?_); rintro e w' ⟨rfl, ⟨nd, rfl⟩⟩; refine ⟨_, rfl, ?_⟩))
          go_ret
          exact ⟨ze, zd⟩
        · rw [if_neg c6] at H
          have c6b0 : (a0 == 45) = false := beq_eq_false_iff_ne.mpr c6
          have c6b1 : (a0 != 45) = true := bne_iff_ne.mpr c6
          obtain rfl := Option.some.inj H
          go_enter Tryz.func209, Tryz.ntmps209
          go_wp2_with (first | ((with_reducible refine gc_ 208 ?_); refine goesL_ (some 4) rfl rfl Tryz.func208 (by kernel_rfl) rfl #[.int .u8 a0] rfl (za) ?_; (with_reducible refine (name_isLetter.calls a0 false _ A2.out).mono ?_); rintro e w' ⟨rfl, ⟨nd, rfl⟩⟩; refine ⟨_, rfl, ?_⟩))
          go_ret
          exact ⟨ze, zd⟩
    · rw [if_neg c4] at H
      have c4b0 : decide (48 ≤ a0) = false := decide_eq_false c4
      clear c4
      by_cases c7 : a0 = 45
      · rw [if_pos c7] at H
        have c7b0 : (a0 == 45) = true := beq_iff_eq.mpr c7
        have c7b1 : (a0 != 45) = false := bne_eq_false_iff_eq.mpr c7
        clear c7
        obtain rfl := Option.some.inj H
        go_enter Tryz.func209, Tryz.ntmps209
        go_wp2_with (first | ((with_reducible refine gc_ 208 ?_); refine goesL_ (some 4) rfl rfl Tryz.func208 (by kernel_rfl) rfl #[.int .u8 a0] rfl (za) ?_; (with_reducible refine (name_isLetter.calls a0 false _ A2.out).mono ?_); rintro e w' ⟨rfl, ⟨nd, rfl⟩⟩; refine ⟨_, rfl, ?_⟩))
        go_ret
        exact ⟨ze, zd⟩
      · rw [if_neg c7] at H
        have c7b0 : (a0 == 45) = false := beq_eq_false_iff_ne.mpr c7
        have c7b1 : (a0 != 45) = true := bne_iff_ne.mpr c7
        obtain rfl := Option.some.inj H
        go_enter Tryz.func209, Tryz.ntmps209
        go_wp2_with (first | ((with_reducible refine gc_ 208 ?_); refine goesL_ (some 4) rfl rfl Tryz.func208 (by kernel_rfl) rfl #[.int .u8 a0] rfl (za) ?_; (with_reducible refine (name_isLetter.calls a0 false _ A2.out).mono ?_); rintro e w' ⟨rfl, ⟨nd, rfl⟩⟩; refine ⟨_, rfl, ?_⟩))
        go_ret
        exact ⟨ze, zd⟩
end Go.Proofs.YtpbembafpnknhaaGreat.Pr
namespace Go.Proofs.YtpbembafpnknhaaGreat.Pr
open Go.RowKit Go.Proofs.YtpbembafpnknhaaGreatW.PrintWords Go.Proofs.YtpbembafpnknhaaGreatW.PrintLast Go.Proofs.YtpbembafpnknhaaGreatW.PrintMore
def isL (c : Int) : Bool := (name_isLetter.f c).getD false
def isM (c : Int) : Bool := (name_isMore.f c).getD false
theorem isL_f (c : Int) : name_isLetter.f c = some (isL c) := by
  unfold isL name_isLetter.f
  repeat' split
  all_goals rfl
theorem isM_f (c : Int) : name_isMore.f c = some (isM c) := by
  unfold isM name_isMore.f
  rw [isL_f]
  simp only [Option.bind_some]
  repeat' split
  all_goals rfl
theorem isL_calls (a : Int) (w : World) : Calls Tryz.prog 208 #[.int .u8 a] w fun e w' => e = .returned (.bool (isL a)) ∧ Drawn0 w w' := name_isLetter.calls a _ w (isL_f a)
theorem isM_calls (a : Int) (w : World) : Calls Tryz.prog 209 #[.int .u8 a] w fun e w' => e = .returned (.bool (isM a)) ∧ Drawn0 w w' := name_isMore.calls a _ w (isM_f a)
theorem size0 {s : ByteArray} : s.toList = [] ↔ s.size = 0 := by
  rw [ByteArray.toList_eq]
  exact ⟨fun h => by have := congrArg List.length h; simpa using this, fun h => List.eq_nil_of_length_eq_zero (by simpa using h)⟩
set_option maxHeartbeats 800000 in
theorem nameIs_none (s : ByteArray) (w : World) (h0 : s.size = 0) : Calls Tryz.prog 154 #[.string s] w fun e w' => e = .returned (.bool false) ∧ Below w.heap.size w w' := by
  have he : s.toList = [] := size0.2 h0
  go_enter Tryz.func154, Tryz.ntmps154
  go_wp2
  go_ret
  exact ⟨rfl, Below.refl _ _⟩
set_option maxHeartbeats 800000 in
theorem nameIs_long (s : ByteArray) (w : World) (h0 : ¬ s.size = 0) (h1 : 12 < s.size) : Calls Tryz.prog 154 #[.string s] w fun e w' => e = .returned (.bool false) ∧ Below w.heap.size w w' := by
  have h2 : ((12 : Int) < (s.size : Int)) := by omega
  have he : ¬ s.toList = [] := fun h => h0 (size0.1 h)
  go_enter Tryz.func154, Tryz.ntmps154
  go_wp2
  go_ret
  exact ⟨rfl, Below.refl _ _⟩
set_option maxHeartbeats 800000 in
set_option maxRecDepth 100000 in
theorem nameIs_first (s : ByteArray) (w : World) (h0 : ¬ s.size = 0) (h1 : ¬ 12 < s.size) (h3 : isL (bt s 0) = false) : Calls Tryz.prog 154 #[.string s] w fun e w' => e = .returned (.bool false) ∧ Below w.heap.size w w' := by
  have h2a : decide ((12 : Int) < (s.size : Int)) = false := decide_eq_false (by omega)
  have h2b : decide (12 < s.size) = false := decide_eq_false (by omega)
  have he : s.toList.isEmpty = false := by
    cases h : s.toList with
    | nil => exact absurd (size0.1 h) h0
    | cons _ _ => rfl
  have q6 : 0 < s.size := by omega
  have qi6 : (0 < (s.size : Int)) = True := eq_true (by omega)
  have hx6 : ∀ h : 0 < s.size, ((s[0]'h).toNat : Int) = bt s 0 := bt_at s 0
  replace q6 := eq_true q6
  clear h0 h1
  go_enter Tryz.func154, Tryz.ntmps154
  go_wp2_with (first | (go_at_call 208; refine (isL_calls (bt s 0) _).mono ?_; rintro e w' ⟨rfl, ⟨nd, rfl⟩⟩))
  go_ret
  exact ⟨rfl, pw_below_drewN (Below.refl _ _) _⟩
theorem bytes_below (w : World) (nd : Nat) (s : ByteArray) : Below w.heap.size w (Lib.bytesWorld (w.drewN nd) 5 s) where
  os := rfl
  tape := rfl
  output := rfl
  size := by rw [Lib.bytesWorld_size]; exact Nat.le_succ _
  block := fun k hk => Lib.bytesWorld_at_old (w.drewN nd) 5 s k hk
theorem bytes_cells (w : World) (s : ByteArray) (j : Nat) (hj : j < s.size) : (Lib.bytesCells w 5 s)[j]? = some (.int .u8 (bt s j)) := by
  unfold Lib.bytesCells
  rw [Array.getElem?_append_left (by simpa using hj)]
  simp [bt, hj]
  rfl
theorem all_bytes (s : ByteArray) : (s.data.toList.all fun c => isM c.toNat) = true ↔ ∀ j : Nat, j < s.size → isM (bt s j) = true := by
  rw [List.all_eq_true]
  constructor
  · intro h j hj
    have h2 := h s.data[j] (by simp)
    have e : bt s j = (s.data[j].toNat : Int) := by simp [bt, hj]; rfl
    rw [e]; exact h2
  · intro h c hc
    obtain ⟨j, hj, rfl⟩ := List.getElem_of_mem hc
    have hj : j < s.size := by simpa using hj
    have := h j hj
    have e : bt s j = (s.data[j].toNat : Int) := by simp [bt, hj]; rfl
    rw [e] at this
    simpa using this
set_option maxHeartbeats 800000 in
set_option maxRecDepth 100000 in
theorem nameIs_rest (s : ByteArray) (w : World) (h0 : ¬ s.size = 0) (h1 : ¬ 12 < s.size) (h3 : isL (bt s 0) = true) : Calls Tryz.prog 154 #[.string s] w fun e w' => e = .returned (.bool (s.data.toList.all fun c => isM c.toNat)) ∧ Below w.heap.size w w' := by
  have h2a : decide ((12 : Int) < (s.size : Int)) = false := decide_eq_false (by omega)
  have h2b : decide (12 < s.size) = false := decide_eq_false (by omega)
  have he : s.toList.isEmpty = false := by
    cases h : s.toList with
    | nil => exact absurd (size0.1 h) h0
    | cons _ _ => rfl
  have q6 : 0 < s.size := by omega
  have qi6 : (0 < (s.size : Int)) = True := eq_true (by omega)
  have hx6 : ∀ h : 0 < s.size, ((s[0]'h).toNat : Int) = bt s 0 := bt_at s 0
  replace q6 := eq_true q6
  clear h0 h1
  have hcv := fun W : World => Go.Lib.run_convert_string_bytes (P := Tryz.prog) W 9 207 5 s Tryz.underlying9 Tryz.underlying207 Tryz.underlying5
  go_enter Tryz.func154, Tryz.ntmps154
  go_wp2_with (first | (go_at_call 208; refine (isL_calls (bt s 0) _).mono ?_; rintro e w' ⟨rfl, ⟨nd, rfl⟩⟩))
  have HB := am (bytes_below w nd s)
  have HK := am (show (Lib.bytesWorld (w.drewN nd) 5 s).heap[w.heap.size]? = _ from Lib.bytesWorld_at_new (w.drewN nd) 5 s)
  have HC := am (bytes_cells (w.drewN nd) s)
  generalize Lib.bytesWorld (w.drewN nd) 5 s = W0 at HB HK ⊢
  generalize Lib.bytesCells (w.drewN nd) 5 s = cs at HK HC
  generalize grownCap (w.drewN nd) s.size 0 5 = cap
  clear hcv
  go_loopg [21] s.size (fun gk v21 w' => ∃ i : Nat, v21 = .int .i64 (i : Int) ∧ Aside0 (i ≤ s.size ∧ s.size - i ≤ gk) ∧ Aside0 (∀ j : Nat, j < i → isM (bt s j) = true) ∧ Aside0 (w'.heap[w.heap.size]? = some (.cells cs 5 (cs.size, cs.size + 1))) ∧ Aside0 (Below w.heap.size w w'))
  case atStart => exact ⟨0, rfl, ⟨⟨Nat.zero_le _, by omega⟩⟩, ⟨fun j hj => absurd hj (by omega)⟩, HK, HB⟩
  case round =>
    clear HK HB
    obtain ⟨i, rfl, HI, HM, HK, HB⟩ := hrel
    by_cases hi : i < s.size
    · have c0 : decide ((i : Int) < (s.size : Int)) = true := decide_eq_true (by omega)
      have c0b : decide (i < s.size) = true := decide_eq_true hi
      have c1 : (0 : Int) ≤ (i : Int) := by omega
      have c2 : (i : Int) < (s.size : Int) := by omega
      have hcell : wr.cell? ⟨w.heap.size, i, none⟩ = some (.int .u8 (bt s i)) := by have h := HC.out i hi; simp [World.cell?, HK.out, h]
      cases gk with
      | zero => have := HI.out; omega
      | succ k1 =>
      cases hm : isM (bt s i) with
      | true =>
        go_wp2_with (first | (go_at_call 209; refine (isM_calls (bt s i) _).mono ?_; rintro e w' ⟨rfl, ⟨nd, rfl⟩⟩))
        go_roundg k1
        case measure => omega
        case rel =>
          have hw : wrap64 ((i : Int) + 1) = ((i + 1 : Nat) : Int) := by have h12 := of_decide_eq_false h2b; unfold wrap64; omega
          rw [hw]
          exact ⟨i + 1, rfl, ⟨by have := HI.out; omega⟩, ⟨fun j hj => (Nat.lt_succ_iff_lt_or_eq.1 hj).elim (HM.out j) (fun e => by rw [e]; exact hm)⟩, ⟨HK.out⟩, ⟨pw_below_drewN HB.out _⟩⟩
      | false =>
        go_wp2_with (first | (go_at_call 209; refine (isM_calls (bt s i) _).mono ?_; rintro e w' ⟨rfl, ⟨nd, rfl⟩⟩))
        go_ret
        refine ⟨?_, pw_below_drewN HB.out _⟩
        have hf : (s.data.toList.all fun c => isM c.toNat) = false := by
          rw [Bool.eq_false_iff]
          intro h
          have := (all_bytes s).1 h i hi
          rw [hm] at this
          cases this
        rw [hf]; rfl
    · have c0 : decide ((i : Int) < (s.size : Int)) = false := decide_eq_false (by omega)
      have c0b : decide (i < s.size) = false := decide_eq_false hi
      go_wp2
      go_ret
      refine ⟨?_, HB.out⟩
      have hf : (s.data.toList.all fun c => isM c.toNat) = true := (all_bytes s).2 (fun j hj => HM.out j (by have := HI.out; omega))
      rw [hf]; rfl
def nameIs (s : ByteArray) : Bool := if s.size = 0 then false else if 12 < s.size then false else if isL (bt s 0) then (s.data.toList.all fun c => isM c.toNat) else false
def name_Is.f (s : ByteArray) : Option Bool := some (nameIs s)
theorem name_Is.calls (a0 : ByteArray) (r : Bool) (w : World) (h : name_Is.f a0 = some r) : Calls Tryz.prog 154 #[.string a0] w fun e w' => e = .returned (.bool r) ∧ Below w.heap.size w w' := by
  obtain rfl := Option.some.inj h
  unfold nameIs
  by_cases h0 : a0.size = 0
  · rw [if_pos h0]; exact nameIs_none a0 w h0
  · rw [if_neg h0]
    by_cases h1 : 12 < a0.size
    · rw [if_pos h1]; exact nameIs_long a0 w h0 h1
    · rw [if_neg h1]
      cases h3 : isL (bt a0 0) with
      | true => exact nameIs_rest a0 w h0 h1 h3
      | false => exact nameIs_first a0 w h0 h1 h3
end Go.Proofs.YtpbembafpnknhaaGreat.Pr
namespace Go.Proofs.YtpbembafpnknhaaGreat.Pr
open Go.RowKit Go.Proofs.YtpbembafpnknhaaGreatW.PrintWords Go.Proofs.YtpbembafpnknhaaGreatW.PrintLast Go.Proofs.YtpbembafpnknhaaGreatW.PrintMore
attribute [local go_sem] max2_int min2_int max_two min_two max_three min_three max_four min_four   -- for this text's walks alone
set_option linter.unusedVariables false
set_option linter.unusedSimpArgs false
def slices_Index_string_string.l0 : Nat → List ByteArray → ByteArray → Int → Int → Option (Int)
  | 0, _, _, _, _ => none
  | k + 1, x0, x1, x7, x8 => if x8 < x7 then (if 0 ≤ x8 then (if x8 < (x0.length : Int) then (if x1.toList = (rdOf ByteArray.empty x0 x8).toList then (some x8) else (slices_Index_string_string.l0 k x0 x1 x7 (wrap64 (x8 + 1)))) else (none)) else (none)) else (some (-1))
def slices_Index_string_string.f (k : Nat) (l0 : List ByteArray) (a1 : ByteArray) : Option (Int) := slices_Index_string_string.l0 k l0 a1 (l0.length : Int) 0
theorem slices_Index_string_string.mono_l : ∀ k, (∀ y0 y1 y2 y3, LeO (slices_Index_string_string.l0 k y0 y1 y2 y3) (slices_Index_string_string.l0 (k + 1) y0 y1 y2 y3))
  | 0 => fun _ _ _ _ r h => by simp [slices_Index_string_string.l0] at h
  | k + 1 => by
    have ih0 := slices_Index_string_string.mono_l k
    · intro y0 y1 y2 y3
      unfold slices_Index_string_string.l0
      repeat' first
      | (with_reducible exact ih0 _ _ _ _)
      | (with_reducible exact LeO.refl _)
      | (with_reducible exact LeO.none _)
      | (with_reducible refine LeO.ite ?_ ?_)
      | (with_reducible refine LeO.bind ?_ (fun _ => ?_))
      | exact ih0 _ _ _ _
      | exact LeO.none _
      | refine LeO.ite ?_ ?_
      | refine LeO.bind ?_ (fun _ => ?_)
theorem slices_Index_string_string.mono : ∀ a0 a1 k, LeO (slices_Index_string_string.f k a0 a1) (slices_Index_string_string.f (k + 1) a0 a1) := by
  intro a0 a1 k
  have ih0 := slices_Index_string_string.mono_l k
  unfold slices_Index_string_string.f
  repeat' first
      | (with_reducible exact ih0 _ _ _ _)
      | (with_reducible exact LeO.refl _)
      | (with_reducible exact LeO.none _)
      | (with_reducible refine LeO.ite ?_ ?_)
      | (with_reducible refine LeO.bind ?_ (fun _ => ?_))
      | exact ih0 _ _ _ _
      | exact LeO.none _
      | refine LeO.ite ?_ ?_
      | refine LeO.bind ?_ (fun _ => ?_)
set_option maxHeartbeats 8000000 in
set_option maxRecDepth 100000 in
theorem slices_Index_string_string.calls (k : Nat) (A0 : Option Addr) (c0 : Nat) (l0 : List ByteArray) (a1 : ByteArray) (r : Int) (w : World) (hr0 : Kd.C Kd.string w A0 l0.length l0) (hc0 : l0.length ≤ c0) (h : slices_Index_string_string.f k l0 a1 = some r) :
    Calls Tryz.prog 141 #[.slice A0 l0.length c0, .string a1] w fun e w' => e = .returned (.int .i64 r) ∧ Drawn0 w w' := by
  have HR0 := am hr0
  have HC0 := am hc0
  clear hr0 hc0
  have H : (slices_Index_string_string.l0 k l0 a1 (l0.length : Int) 0) = some r := h
  clear h
  have H' := am H
  clear H
  go_enter Tryz.func141, Tryz.ntmps141
  go_wp2
  go_loopg [8] k (fun kq v8 w' => ∃ (x8_1 : Int), v8 = .int .i64 x8_1 ∧ Aside0 (slices_Index_string_string.l0 kq l0 a1 (l0.length : Int) x8_1 = some r) ∧ Aside0 (kq ≤ k) ∧ Drawn0 w w')
  case atStart => exact ⟨(0), (ze), H', ⟨Nat.le_refl _⟩, zd⟩
  case round =>
    clear H'
    try clear c1
    try clear p2
    obtain ⟨x8_1, rfl, HA, HK1, ⟨m1, rfl⟩⟩ := hrel
    cases gk with
    | zero => exact absurd HA.out (by simp [slices_Index_string_string.l0])
    | succ k1 =>
      have H := HA.out
      clear HA
      simp only [slices_Index_string_string.l0] at H
      by_cases c3 : x8_1 < (l0.length : Int)
      · rw [if_pos c3] at H
        have c3b0 : decide (x8_1 < (l0.length : Int)) = true := decide_eq_true c3
        clear c3
        by_cases c4 : 0 ≤ x8_1
        · rw [if_pos c4] at H
          have c4b0 : decide (0 ≤ x8_1) = true := decide_eq_true c4
          clear c4
          by_cases c5 : x8_1 < (l0.length : Int)
          · rw [if_pos c5] at H
            have c5b0 : decide (x8_1 < (l0.length : Int)) = true := decide_eq_true c5
            clear c5
            by_cases c6 : a1.toList = (rdOf ByteArray.empty l0 x8_1).toList
            · rw [if_pos c6] at H
              have c6b0 : (a1.toList == (rdOf ByteArray.empty l0 x8_1).toList) = true := beq_iff_eq.mpr c6
              have c6b1 : (a1.toList != (rdOf ByteArray.empty l0 x8_1).toList) = false := bne_eq_false_iff_eq.mpr c6
              clear c6
              obtain rfl := Option.some.inj H
              have p101 : 0 ≤ (x8_1 : Int) := of_decide_eq_true (zas)
              have q101 : x8_1 < (l0.length : Int) := of_decide_eq_true (zas)
              obtain ⟨ad101, e101, hx101_0⟩ := Kd.at_string HR0.out x8_1 p101 q101
              cases e101
              replace p101 := eq_true p101
              replace q101 := eq_true q101
              go_wp2
              go_ret
              exact ⟨ze, zd⟩
            · rw [if_neg c6] at H
              have c6b0 : (a1.toList == (rdOf ByteArray.empty l0 x8_1).toList) = false := beq_eq_false_iff_ne.mpr c6
              have c6b1 : (a1.toList != (rdOf ByteArray.empty l0 x8_1).toList) = true := bne_iff_ne.mpr c6
              have H' := am H
              clear H
              have p101 : 0 ≤ (x8_1 : Int) := of_decide_eq_true (zas)
              have q101 : x8_1 < (l0.length : Int) := of_decide_eq_true (zas)
              obtain ⟨ad101, e101, hx101_0⟩ := Kd.at_string HR0.out x8_1 p101 q101
              cases e101
              replace p101 := eq_true p101
              replace q101 := eq_true q101
              go_wp2
              go_roundg k1
              case measure => have := HK1.out; omega
              case rel => exact ⟨(wrap64 (x8_1 + 1)), (ze), H', ⟨by have := HK1.out; omega⟩, zd⟩
          · rw [if_neg c5] at H
            exact absurd H (by simp)
        · rw [if_neg c4] at H
          exact absurd H (by simp)
      · rw [if_neg c3] at H
        have c3b0 : decide (x8_1 < (l0.length : Int)) = false := decide_eq_false c3
        clear c3
        obtain rfl := Option.some.inj H
        go_wp2
        go_ret
        exact ⟨ze, zd⟩
end Go.Proofs.YtpbembafpnknhaaGreat.Pr
namespace Go.Proofs.YtpbembafpnknhaaGreat.Pr
open Go.RowKit Go.Proofs.YtpbembafpnknhaaGreatW.PrintWords Go.Proofs.YtpbembafpnknhaaGreatW.PrintLast Go.Proofs.YtpbembafpnknhaaGreatW.PrintMore
attribute [local go_sem] max2_int min2_int max_two min_two max_three min_three max_four min_four   -- for this text's walks alone
set_option linter.unusedVariables false
set_option linter.unusedSimpArgs false
def slices_Contains_string_string.f (k : Nat) (l0 : List ByteArray) (a1 : ByteArray) : Option (Bool) := (slices_Index_string_string.f k l0 a1).bind fun t101 => (some (decide (t101 ≥ 0)))
theorem slices_Contains_string_string.mono : ∀ a0 a1 k, LeO (slices_Contains_string_string.f k a0 a1) (slices_Contains_string_string.f (k + 1) a0 a1) := by
  intro a0 a1 k
  unfold slices_Contains_string_string.f
  repeat' first
      | (with_reducible exact slices_Index_string_string.mono _ _ _)
      | (with_reducible exact LeO.refl _)
      | (with_reducible exact LeO.none _)
      | (with_reducible refine LeO.ite ?_ ?_)
      | (with_reducible refine LeO.bind ?_ (fun _ => ?_))
      | exact slices_Index_string_string.mono _ _ _
      | exact LeO.none _
      | refine LeO.ite ?_ ?_
      | refine LeO.bind ?_ (fun _ => ?_)
set_option maxHeartbeats 8000000 in
set_option maxRecDepth 100000 in
theorem slices_Contains_string_string.calls (k : Nat) (A0 : Option Addr) (c0 : Nat) (l0 : List ByteArray) (a1 : ByteArray) (r : Bool) (w : World) (hr0 : Kd.C Kd.string w A0 l0.length l0) (hc0 : l0.length ≤ c0) (h : slices_Contains_string_string.f k l0 a1 = some r) :
    Calls Tryz.prog 92 #[.slice A0 l0.length c0, .string a1] w fun e w' => e = .returned (.bool r) ∧ Drawn0 w w' := by
  have HR0 := am hr0
  have HC0 := am hc0
  clear hr0 hc0
  have H : ((slices_Index_string_string.f k l0 a1).bind fun t101 => (some (decide (t101 ≥ 0)))) = some r := h
  clear h
  replace H := Option.bind_eq_some_iff.mp H
  obtain ⟨t101, A30, H⟩ := H
  replace H : (some (decide (t101 ≥ 0))) = some r := H
  have A3 := am A30
  clear A30
  obtain rfl := Option.some.inj H
  go_enter Tryz.func92, Tryz.ntmps92
  go_wp2_with (first | ((with_reducible refine gc_ 141 ?_); refine goesL_ (some 7) rfl rfl Tryz.func141 (by kernel_rfl) rfl #[.slice A0 l0.length c0, .string a1] rfl (za) ?_; (with_reducible refine (slices_Index_string_string.calls k _ _ l0 a1 t101 _ ?side1 ?side2 A3.out).mono ?_); (case side1 => exact zc HR0.out); (case side2 => exact HC0.out); rintro e w' ⟨rfl, ⟨nd, rfl⟩⟩; refine ⟨_, rfl, ?_⟩))
  go_ret
  exact ⟨ze, zd⟩
end Go.Proofs.YtpbembafpnknhaaGreat.Pr
namespace Go.Proofs.YtpbembafpnknhaaGreat.Pr
open Go.RowKit Go.Proofs.YtpbembafpnknhaaGreatW.PrintWords Go.Proofs.YtpbembafpnknhaaGreatW.PrintLast Go.Proofs.YtpbembafpnknhaaGreatW.PrintMore
attribute [local go_sem] max2_int min2_int max_two min_two max_three min_three max_four min_four   -- for this text's walks alone
set_option linter.unusedVariables false
set_option linter.unusedSimpArgs false
theorem contains_take {k n c : Nat} {A : Option Addr} {l : List ByteArray} {s : ByteArray} {r : Bool} {w : World} (hn : n ≤ l.length) (hC : Kd.C Kd.string w A (l.take n).length (l.take n)) (hc : (l.take n).length ≤ c) (h : slices_Contains_string_string.f k (l.take n) s = some r) :
    Calls Tryz.prog 92 #[.slice A n c, .string s] w fun e w' => e = .returned (.bool r) ∧ Drawn0 w w' := by
  have h2 := slices_Contains_string_string.calls k A c (l.take n) s r w hC hc h
  rwa [show (l.take n).length = n by rw [List.length_take]; omega] at h2
def model_areNames.l0 : Nat → List ByteArray → List ByteArray → Int → Int → Option (Bool)
  | 0, _, _, _, _ => none
  | k + 1, x0, x5, x6, x7 => if x7 < x6 then (if 0 ≤ x7 then (if x7 < (x5.length : Int) then ((name_Is.f (rdOf ByteArray.empty x5 x7)).bind fun t102 => (if t102 = true then (if x7 ≤ (x0.length : Int) then ((slices_Contains_string_string.f k (x0.take (x7 : Int).toNat) (rdOf ByteArray.empty x5 x7)).bind fun t104 => (if t104 = true then (some false) else (model_areNames.l0 k x0 x5 x6 (wrap64 (x7 + 1))))) else (none)) else (some false))) else (none)) else (none)) else (some true)
def model_areNames.f (k : Nat) (l0 : List ByteArray) : Option (Bool) := model_areNames.l0 k l0 l0 (l0.length : Int) 0
theorem model_areNames.mono_l : ∀ k, (∀ y0 y1 y2 y3, LeO (model_areNames.l0 k y0 y1 y2 y3) (model_areNames.l0 (k + 1) y0 y1 y2 y3))
  | 0 => fun _ _ _ _ r h => by simp [model_areNames.l0] at h
  | k + 1 => by
    have ih0 := model_areNames.mono_l k
    · intro y0 y1 y2 y3
      unfold model_areNames.l0
      repeat' first
      | (with_reducible exact ih0 _ _ _ _)
      | (with_reducible exact slices_Contains_string_string.mono _ _ _)
      | (with_reducible exact LeO.refl _)
      | (with_reducible exact LeO.none _)
      | (with_reducible refine LeO.ite ?_ ?_)
      | (with_reducible refine LeO.bind ?_ (fun _ => ?_))
      | exact ih0 _ _ _ _
      | exact slices_Contains_string_string.mono _ _ _
      | exact LeO.none _
      | refine LeO.ite ?_ ?_
      | refine LeO.bind ?_ (fun _ => ?_)
theorem model_areNames.mono : ∀ a0 k, LeO (model_areNames.f k a0) (model_areNames.f (k + 1) a0) := by
  intro a0 k
  have ih0 := model_areNames.mono_l k
  unfold model_areNames.f
  repeat' first
      | (with_reducible exact ih0 _ _ _ _)
      | (with_reducible exact slices_Contains_string_string.mono _ _ _)
      | (with_reducible exact LeO.refl _)
      | (with_reducible exact LeO.none _)
      | (with_reducible refine LeO.ite ?_ ?_)
      | (with_reducible refine LeO.bind ?_ (fun _ => ?_))
      | exact ih0 _ _ _ _
      | exact slices_Contains_string_string.mono _ _ _
      | exact LeO.none _
      | refine LeO.ite ?_ ?_
      | refine LeO.bind ?_ (fun _ => ?_)
set_option maxHeartbeats 8000000 in
set_option maxRecDepth 100000 in
theorem model_areNames.calls (k : Nat) (A0 : Option Addr) (c0 : Nat) (l0 : List ByteArray) (r : Bool) (w : World) (hr0 : Kd.C Kd.string w A0 l0.length l0) (hc0 : l0.length ≤ c0) (h : model_areNames.f k l0 = some r) :
    Calls Tryz.prog 106 #[.slice A0 l0.length c0] w fun e w' => e = .returned (.bool r) ∧ Below w.heap.size w w' := by
  have HR0 := am hr0
  have HC0 := am hc0
  clear hr0 hc0
  have HB := am (Below.refl w.heap.size w)
  have H : (model_areNames.l0 k l0 l0 (l0.length : Int) 0) = some r := h
  clear h
  have H' := am H
  clear H
  go_enter Tryz.func106, Tryz.ntmps106
  go_wp2
  go_loopg [7] k (fun kq v7 w' => ∃ (x7_1 : Int), v7 = .int .i64 x7_1 ∧ Aside0 (model_areNames.l0 kq l0 l0 (l0.length : Int) x7_1 = some r) ∧ Aside0 (kq ≤ k) ∧ Aside0 (Below w.heap.size w w'))
  case atStart => exact ⟨(0), (ze), H', ⟨Nat.le_refl _⟩, ⟨zb⟩⟩
  case round =>
    clear H'
    try clear c1
    obtain ⟨x7_1, rfl, HA, HK1, HB⟩ := hrel
    cases gk with
    | zero => exact absurd HA.out (by simp [model_areNames.l0])
    | succ k1 =>
      have H := HA.out
      clear HA
      simp only [model_areNames.l0] at H
      by_cases c2 : x7_1 < (l0.length : Int)
      · rw [if_pos c2] at H
        have c2b0 : decide (x7_1 < (l0.length : Int)) = true := decide_eq_true c2
        clear c2
        by_cases c3 : 0 ≤ x7_1
        · rw [if_pos c3] at H
          have c3b0 : decide (0 ≤ x7_1) = true := decide_eq_true c3
          clear c3
          by_cases c4 : x7_1 < (l0.length : Int)
          · rw [if_pos c4] at H
            have c4b0 : decide (x7_1 < (l0.length : Int)) = true := decide_eq_true c4
            clear c4
            replace H := Option.bind_eq_some_iff.mp H
            obtain ⟨t102, A50, H⟩ := H
            replace H : (if t102 = true then (if x7_1 ≤ (l0.length : Int) then ((slices_Contains_string_string.f k1 (l0.take (x7_1 : Int).toNat) (rdOf ByteArray.empty l0 x7_1)).bind fun t104 => (if t104 = true then (some false) else (model_areNames.l0 k1 l0 l0 (l0.length : Int) (wrap64 (x7_1 + 1))))) else (none)) else (some false)) = some r := H
            have A5 := am A50
            clear A50
            by_cases c6 : t102 = true
            · subst c6
              have H1 : (if x7_1 ≤ (l0.length : Int) then ((slices_Contains_string_string.f k1 (l0.take (x7_1 : Int).toNat) (rdOf ByteArray.empty l0 x7_1)).bind fun t104 => (if t104 = true then (some false) else (model_areNames.l0 k1 l0 l0 (l0.length : Int) (wrap64 (x7_1 + 1))))) else (none)) = some r := by rw [if_pos rfl] at H; exact H
              clear H
              have H := H1
              clear H1
              have c7b0 := eq_true (of_decide_eq_true (zas) : 0 ≤ x7_1)
              by_cases c8 : x7_1 ≤ (l0.length : Int)
              · rw [if_pos c8] at H
                have c8b0 := eq_true c8
                have c8b1 : decide (x7_1 ≤ (l0.length : Int)) = true := decide_eq_true c8
                clear c8
                replace H := Option.bind_eq_some_iff.mp H
                obtain ⟨t104, A90, H⟩ := H
                replace H : (if t104 = true then (some false) else (model_areNames.l0 k1 l0 l0 (l0.length : Int) (wrap64 (x7_1 + 1)))) = some r := H
                have A9 := am A90
                clear A90
                by_cases c10 : t104 = true
                · subst c10
                  have H1 : (some false) = some r := by rw [if_pos rfl] at H; exact H
                  clear H
                  have H := H1
                  clear H1
                  obtain rfl := Option.some.inj H
                  have p101 : 0 ≤ (x7_1 : Int) := of_decide_eq_true (zas)
                  have q101 : x7_1 < (l0.length : Int) := of_decide_eq_true (zas)
                  obtain ⟨ad101, e101, hx101_0⟩ := Kd.at_string HR0.out x7_1 p101 q101
                  cases e101
                  replace hx101_0 := ba HB hx101_0
                  replace p101 := eq_true p101
                  replace q101 := eq_true q101
                  go_wp2_with (first | ((with_reducible refine gc_ 154 ?_); refine goesL_ (some 13) rfl rfl Tryz.func154 (by kernel_rfl) rfl #[.string (rdOf ByteArray.empty l0 x7_1)] rfl (za) ?_; (with_reducible refine (name_Is.calls (rdOf ByteArray.empty l0 x7_1) true _ A5.out).mono ?_); rintro e w11 ⟨rfl, hb⟩; refine ⟨_, rfl, ?_⟩; replace HB := am (below_step (zb) hb); (try clear hb); (try clear hb2); (try clear hk); (try clear hi); obtain ⟨i012, hi012, _, hsz12, _⟩ := info_parts info9; obtain ⟨hcut12, hA12, hC12⟩ := print_take_of (P := Tryz.prog) Value.string (⟨#[]⟩ : ByteArray) 22 9 .i64 Tryz.underlying22 hi012 hsz12 (some ad101) c0 l0 x7_1 (of_decide_eq_true (zas)) (of_decide_eq_true (zas)) HC0.out; have HR103 := am (Kd.C_of_reads (h1 := fun _ => rfl) (hA12 _ (Kd.reads_of_C HR0.out))); have HC103 := am hC12; clear hA12 hC12 hi012 hsz12) | (go_at_call 92; (refine (contains_take (by have h1 := of_eq_true q101; omega) ?side1 ?side2 A9.out).mono ?_); (case side1 => exact zc (Kd.C_below HR103.out HB.out)); (case side2 => exact HC103.out); rintro e w' ⟨rfl, ⟨nd, rfl⟩⟩))
                  go_ret
                  exact ⟨zf, zb⟩
                · replace c10 := Bool.eq_false_iff.mpr c10
                  subst c10
                  have H1 : (model_areNames.l0 k1 l0 l0 (l0.length : Int) (wrap64 (x7_1 + 1))) = some r := by rw [if_neg (show ¬ (false = true) by decide)] at H; exact H
                  clear H
                  have H := H1
                  clear H1
                  have H' := am H
                  clear H
                  have p101 : 0 ≤ (x7_1 : Int) := of_decide_eq_true (zas)
                  have q101 : x7_1 < (l0.length : Int) := of_decide_eq_true (zas)
                  obtain ⟨ad101, e101, hx101_0⟩ := Kd.at_string HR0.out x7_1 p101 q101
                  cases e101
                  replace hx101_0 := ba HB hx101_0
                  replace p101 := eq_true p101
                  replace q101 := eq_true q101
                  go_wp2_with (first | ((with_reducible refine gc_ 154 ?_); refine goesL_ (some 13) rfl rfl Tryz.func154 (by kernel_rfl) rfl #[.string (rdOf ByteArray.empty l0 x7_1)] rfl (za) ?_; (with_reducible refine (name_Is.calls (rdOf ByteArray.empty l0 x7_1) true _ A5.out).mono ?_); rintro e w13 ⟨rfl, hb⟩; refine ⟨_, rfl, ?_⟩; replace HB := am (below_step (zb) hb); (try clear hb); (try clear hb2); (try clear hk); (try clear hi); obtain ⟨i014, hi014, _, hsz14, _⟩ := info_parts info9; obtain ⟨hcut14, hA14, hC14⟩ := print_take_of (P := Tryz.prog) Value.string (⟨#[]⟩ : ByteArray) 22 9 .i64 Tryz.underlying22 hi014 hsz14 (some ad101) c0 l0 x7_1 (of_decide_eq_true (zas)) (of_decide_eq_true (zas)) HC0.out; have HR103 := am (Kd.C_of_reads (h1 := fun _ => rfl) (hA14 _ (Kd.reads_of_C HR0.out))); have HC103 := am hC14; clear hA14 hC14 hi014 hsz14) | (go_at_call 92; (refine (contains_take (by have h1 := of_eq_true q101; omega) ?side1 ?side2 A9.out).mono ?_); (case side1 => exact zc (Kd.C_below HR103.out HB.out)); (case side2 => exact HC103.out); rintro e w' ⟨rfl, ⟨nd, rfl⟩⟩))
                  go_roundg k1
                  case measure => have := HK1.out; omega
                  case rel => exact ⟨(wrap64 (x7_1 + 1)), (ze), H', ⟨by have := HK1.out; omega⟩, ⟨zb⟩⟩
              · rw [if_neg c8] at H
                exact absurd H (by simp)
            · replace c6 := Bool.eq_false_iff.mpr c6
              subst c6
              have H1 : (some false) = some r := by rw [if_neg (show ¬ (false = true) by decide)] at H; exact H
              clear H
              have H := H1
              clear H1
              obtain rfl := Option.some.inj H
              have p101 : 0 ≤ (x7_1 : Int) := of_decide_eq_true (zas)
              have q101 : x7_1 < (l0.length : Int) := of_decide_eq_true (zas)
              obtain ⟨ad101, e101, hx101_0⟩ := Kd.at_string HR0.out x7_1 p101 q101
              cases e101
              replace hx101_0 := ba HB hx101_0
              replace p101 := eq_true p101
              replace q101 := eq_true q101
              go_wp2_with (first | ((with_reducible refine gc_ 154 ?_); refine goesL_ (some 13) rfl rfl Tryz.func154 (by kernel_rfl) rfl #[.string (rdOf ByteArray.empty l0 x7_1)] rfl (za) ?_; (with_reducible refine (name_Is.calls (rdOf ByteArray.empty l0 x7_1) false _ A5.out).mono ?_); rintro e w15 ⟨rfl, hb⟩; refine ⟨_, rfl, ?_⟩; replace HB := am (below_step (zb) hb); (try clear hb); (try clear hb2); (try clear hk); (try clear hi)))
              go_ret
              exact ⟨zf, zb⟩
          · rw [if_neg c4] at H
            exact absurd H (by simp)
        · rw [if_neg c3] at H
          exact absurd H (by simp)
      · rw [if_neg c2] at H
        have c2b0 : decide (x7_1 < (l0.length : Int)) = false := decide_eq_false c2
        clear c2
        obtain rfl := Option.some.inj H
        go_wp2
        go_ret
        exact ⟨zf, zb⟩
end Go.Proofs.YtpbembafpnknhaaGreat.Pr
namespace Go.Proofs.YtpbembafpnknhaaGreat.Pr
open Go.RowKit Go.Proofs.YtpbembafpnknhaaGreatW.PrintWords Go.Proofs.YtpbembafpnknhaaGreatW.PrintLast Go.Proofs.YtpbembafpnknhaaGreatW.PrintMore
def firstAt (p : Nat → Bool) (n : Nat) : Int := match (List.range n).find? p with | some j => j | none => -1
theorem firstAt_hit {p : Nat → Bool} {n k : Nat} (hk : k < n) (hp : p k = true) (hb : ∀ j, j < k → p j = false) : firstAt p n = k := by
  have : (List.range n).find? p = some k := by
    rw [List.find?_eq_some_iff_append]
    refine ⟨hp, List.range k, (List.range n).drop (k + 1), ?_, fun j hj => by rw [hb j (List.mem_range.1 hj)]; rfl⟩
    apply List.ext_getElem?
    intro i
    by_cases h1 : i < k
    · rw [List.getElem?_append_left (by simpa using h1), List.getElem?_range (by omega), List.getElem?_range h1]
    · rw [List.getElem?_append_right (by simp; omega), List.length_range]
      by_cases h2 : i = k
      · subst h2; simp [hk]
      · have e : i - k = (i - k - 1) + 1 := by omega
        rw [e, List.getElem?_cons_succ, List.getElem?_drop]
        congr 1; omega
  unfold firstAt
  rw [this]
theorem firstAt_miss {p : Nat → Bool} {n : Nat} (hb : ∀ j, j < n → p j = false) : firstAt p n = -1 := by
  have : (List.range n).find? p = none := by
    rw [List.find?_eq_none]
    intro j hj
    rw [hb j (List.mem_range.1 hj)]
    decide
  unfold firstAt
  rw [this]
theorem firstAt_pos {p : Nat → Bool} {n : Nat} : decide (0 ≤ firstAt p n) = (List.range n).any p := by
  unfold firstAt
  cases h : (List.range n).find? p with
  | some j =>
    have h1 := List.find?_some h
    have h2 := List.mem_of_find?_eq_some h
    have h3 : (List.range n).any p = true := List.any_eq_true.2 ⟨j, h2, h1⟩
    rw [h3]
    exact decide_eq_true (Int.natCast_nonneg j)
  | none =>
    have h3 : (List.range n).any p = false := by
      rw [List.any_eq_false]
      exact List.find?_eq_none.1 h
    rw [h3]
    rfl
set_option maxHeartbeats 1600000 in
set_option maxRecDepth 100000 in
theorem indexFuncItem (A : Option Addr) (n c : Nat) (g : Nat) (lb : Array Value) (eg : ∀ args w, (callFunc g args).run Tryz.prog w = .ok (.enter g args) w) (p : Nat → Bool) (cs : Nat → List Value) (w : World) (hbig : n ≤ 9223372036854775807)
    (hp : ∀ j, j < n → ∀ W, Below w.heap.size w W → Calls Tryz.prog g (#[.agg (cs j).toArray] ++ lb) W fun e w' => e = .returned (.bool (p j)) ∧ Below w.heap.size w w')
    (hk : ∀ j, j < n → (cs j).length = 7) (hc : 0 < n → ∃ ad, A = some ad ∧ ∀ j, j < n → ∀ i u, (cs j)[i]? = some u → w.cell? (ad.add (j * 7 + i)) = some u) :
    Calls Tryz.prog 155 #[.slice A n c, .func (.func g) #[] lb] w fun e w' => e = .returned (.int .i64 (firstAt p n)) ∧ Below w.heap.size w w' := by
  have HC := am hc
  have HP := am hp
  have HK := am hk
  have EG := am eg
  clear hc hp hk eg
  go_enter Tryz.func155, Tryz.ntmps155
  go_wp2
  go_loopg [8] n (fun gk v8 w' => ∃ i : Nat, v8 = .int .i64 (i : Int) ∧ Aside0 (i ≤ n ∧ n - i ≤ gk) ∧ Aside0 (∀ j, j < i → p j = false) ∧ Aside0 (Below w.heap.size w w'))
  case atStart => exact ⟨0, rfl, ⟨⟨Nat.zero_le _, by omega⟩⟩, ⟨fun j hj => absurd hj (Nat.not_lt_zero _)⟩, ⟨Below.refl _ w⟩⟩
  case round =>
    obtain ⟨i, rfl, HI, HM, HB⟩ := hrel
    by_cases hi : i < n
    · have c0 : (i : Int) < (n : Int) := by omega
      obtain ⟨ad, rfl, hcell⟩ := HC.out (by omega)
      have hcl := HK.out i hi
      have HL := am (HP.out i hi)
      have hcell := hcell i hi
      generalize cs i = q at hcl HL hcell
      obtain ⟨q0, q1, q2, q3, q4, q5, q6, rfl⟩ : ∃ q0 q1 q2 q3 q4 q5 q6, q = [q0, q1, q2, q3, q4, q5, q6] := by
        match q, hcl with
        | [q0, q1, q2, q3, q4, q5, q6], _ => exact ⟨q0, q1, q2, q3, q4, q5, q6, rfl⟩
      have x0 := (HB.out.cell (World.block_lt_of_cell? w _ (hcell 0 _ rfl))).trans (hcell 0 _ rfl)
      rw [Nat.add_zero] at x0
      have x1 := (HB.out.cell (World.block_lt_of_cell? w _ (hcell 1 _ rfl))).trans (hcell 1 _ rfl)
      rw [add_field _ _ 1 (by omega)] at x1
      have x2 := (HB.out.cell (World.block_lt_of_cell? w _ (hcell 2 _ rfl))).trans (hcell 2 _ rfl)
      rw [add_field _ _ 2 (by omega)] at x2
      have x3 := (HB.out.cell (World.block_lt_of_cell? w _ (hcell 3 _ rfl))).trans (hcell 3 _ rfl)
      rw [add_field _ _ 3 (by omega)] at x3
      have x4 := (HB.out.cell (World.block_lt_of_cell? w _ (hcell 4 _ rfl))).trans (hcell 4 _ rfl)
      rw [add_field _ _ 4 (by omega)] at x4
      have x5 := (HB.out.cell (World.block_lt_of_cell? w _ (hcell 5 _ rfl))).trans (hcell 5 _ rfl)
      rw [add_field _ _ 5 (by omega)] at x5
      have x6 := (HB.out.cell (World.block_lt_of_cell? w _ (hcell 6 _ rfl))).trans (hcell 6 _ rfl)
      rw [add_field _ _ 6 (by omega)] at x6
      clear hcell
      cases gk with
      | zero => have := HI.out; omega
      | succ k1 =>
      cases hm : p i with
      | true =>
        rw [hm] at HL
        go_wp2
        rw [EG.out, Oper.upon_enter]
        refine (HL.out _ HB.out).mono ?_
        rintro e w' ⟨rfl, hb'⟩
        go_wp2
        go_ret
        exact ⟨by rw [firstAt_hit hi hm HM.out]; rfl, hb'⟩
      | false =>
        rw [hm] at HL
        go_wp2
        rw [EG.out, Oper.upon_enter]
        refine (HL.out _ HB.out).mono ?_
        rintro e w' ⟨rfl, hb'⟩
        go_wp2
        go_roundg k1
        case measure => omega
        case rel =>
          exact ⟨i + 1, by rw [show ((i : Int) + 1) = ((i + 1 : Nat) : Int) by omega], ⟨by have := HI.out; omega⟩, ⟨fun j hj => (Nat.lt_succ_iff_lt_or_eq.1 hj).elim (HM.out j) (fun e => by rw [e]; exact hm)⟩, ⟨hb'⟩⟩
    · have c0 : ¬ (i : Int) < (n : Int) := by omega
      go_wp2
      go_ret
      exact ⟨by rw [firstAt_miss (fun j hj => HM.out j (by have := HI.out; omega))]; rfl, HB.out⟩
theorem containsFuncItem (A : Option Addr) (n c : Nat) (g : Nat) (lb : Array Value) (eg : ∀ args w, (callFunc g args).run Tryz.prog w = .ok (.enter g args) w) (p : Nat → Bool) (cs : Nat → List Value) (w : World) (hbig : n ≤ 9223372036854775807)
    (hp : ∀ j, j < n → ∀ W, Below w.heap.size w W → Calls Tryz.prog g (#[.agg (cs j).toArray] ++ lb) W fun e w' => e = .returned (.bool (p j)) ∧ Below w.heap.size w w')
    (hk : ∀ j, j < n → (cs j).length = 7) (hc : 0 < n → ∃ ad, A = some ad ∧ ∀ j, j < n → ∀ i u, (cs j)[i]? = some u → w.cell? (ad.add (j * 7 + i)) = some u) :
    Calls Tryz.prog 110 #[.slice A n c, .func (.func g) #[] lb] w fun e w' => e = .returned (.bool ((List.range n).any p)) ∧ Below w.heap.size w w' := by
  have HI := indexFuncItem A n c g lb eg p cs w hbig hp hk hc
  clear hc hp hk eg
  rw [← firstAt_pos]
  generalize firstAt p n = r at HI
  go_enter Tryz.func110, Tryz.ntmps110
  go_wp2_with (first | (go_at_call 155; refine HI.mono ?_; rintro e w' ⟨rfl, hb'⟩))
  go_ret
  exact ⟨rfl, hb'⟩
set_option maxHeartbeats 1600000 in
set_option maxRecDepth 100000 in
theorem indexFuncSe (A : Option Addr) (n c : Nat) (g : Nat) (lb : Array Value) (eg : ∀ args w, (callFunc g args).run Tryz.prog w = .ok (.enter g args) w) (p : Nat → Bool) (cs : Nat → List Value) (w : World) (hbig : n ≤ 9223372036854775807)
    (hp : ∀ j, j < n → ∀ W, Below w.heap.size w W → Calls Tryz.prog g (#[.agg (cs j).toArray] ++ lb) W fun e w' => e = .returned (.bool (p j)) ∧ Below w.heap.size w w')
    (hk : ∀ j, j < n → (cs j).length = 2) (hc : 0 < n → ∃ ad, A = some ad ∧ ∀ j, j < n → ∀ i u, (cs j)[i]? = some u → w.cell? (ad.add (j * 2 + i)) = some u) :
    Calls Tryz.prog 235 #[.slice A n c, .func (.func g) #[] lb] w fun e w' => e = .returned (.int .i64 (firstAt p n)) ∧ Below w.heap.size w w' := by
  have HC := am hc
  have HP := am hp
  have HK := am hk
  have EG := am eg
  clear hc hp hk eg
  go_enter Tryz.func235, Tryz.ntmps235
  go_wp2
  go_loopg [8] n (fun gk v8 w' => ∃ i : Nat, v8 = .int .i64 (i : Int) ∧ Aside0 (i ≤ n ∧ n - i ≤ gk) ∧ Aside0 (∀ j, j < i → p j = false) ∧ Aside0 (Below w.heap.size w w'))
  case atStart => exact ⟨0, rfl, ⟨⟨Nat.zero_le _, by omega⟩⟩, ⟨fun j hj => absurd hj (Nat.not_lt_zero _)⟩, ⟨Below.refl _ w⟩⟩
  case round =>
    obtain ⟨i, rfl, HI, HM, HB⟩ := hrel
    by_cases hi : i < n
    · have c0 : (i : Int) < (n : Int) := by omega
      obtain ⟨ad, rfl, hcell⟩ := HC.out (by omega)
      have hcl := HK.out i hi
      have HL := am (HP.out i hi)
      have hcell := hcell i hi
      generalize cs i = q at hcl HL hcell
      obtain ⟨q0, q1, rfl⟩ : ∃ q0 q1, q = [q0, q1] := by
        match q, hcl with
        | [q0, q1], _ => exact ⟨q0, q1, rfl⟩
      have x0 := (HB.out.cell (World.block_lt_of_cell? w _ (hcell 0 _ rfl))).trans (hcell 0 _ rfl)
      rw [Nat.add_zero] at x0
      have x1 := (HB.out.cell (World.block_lt_of_cell? w _ (hcell 1 _ rfl))).trans (hcell 1 _ rfl)
      rw [add_field _ _ 1 (by omega)] at x1
      clear hcell
      cases gk with
      | zero => have := HI.out; omega
      | succ k1 =>
      cases hm : p i with
      | true =>
        rw [hm] at HL
        go_wp2
        rw [EG.out, Oper.upon_enter]
        refine (HL.out _ HB.out).mono ?_
        rintro e w' ⟨rfl, hb'⟩
        go_wp2
        go_ret
        exact ⟨by rw [firstAt_hit hi hm HM.out]; rfl, hb'⟩
      | false =>
        rw [hm] at HL
        go_wp2
        rw [EG.out, Oper.upon_enter]
        refine (HL.out _ HB.out).mono ?_
        rintro e w' ⟨rfl, hb'⟩
        go_wp2
        go_roundg k1
        case measure => omega
        case rel =>
          exact ⟨i + 1, by rw [show ((i : Int) + 1) = ((i + 1 : Nat) : Int) by omega], ⟨by have := HI.out; omega⟩, ⟨fun j hj => (Nat.lt_succ_iff_lt_or_eq.1 hj).elim (HM.out j) (fun e => by rw [e]; exact hm)⟩, ⟨hb'⟩⟩
    · have c0 : ¬ (i : Int) < (n : Int) := by omega
      go_wp2
      go_ret
      exact ⟨by rw [firstAt_miss (fun j hj => HM.out j (by have := HI.out; omega))]; rfl, HB.out⟩
theorem containsFuncSe (A : Option Addr) (n c : Nat) (g : Nat) (lb : Array Value) (eg : ∀ args w, (callFunc g args).run Tryz.prog w = .ok (.enter g args) w) (p : Nat → Bool) (cs : Nat → List Value) (w : World) (hbig : n ≤ 9223372036854775807)
    (hp : ∀ j, j < n → ∀ W, Below w.heap.size w W → Calls Tryz.prog g (#[.agg (cs j).toArray] ++ lb) W fun e w' => e = .returned (.bool (p j)) ∧ Below w.heap.size w w')
    (hk : ∀ j, j < n → (cs j).length = 2) (hc : 0 < n → ∃ ad, A = some ad ∧ ∀ j, j < n → ∀ i u, (cs j)[i]? = some u → w.cell? (ad.add (j * 2 + i)) = some u) :
    Calls Tryz.prog 210 #[.slice A n c, .func (.func g) #[] lb] w fun e w' => e = .returned (.bool ((List.range n).any p)) ∧ Below w.heap.size w w' := by
  have HI := indexFuncSe A n c g lb eg p cs w hbig hp hk hc
  clear hc hp hk eg
  rw [← firstAt_pos]
  generalize firstAt p n = r at HI
  go_enter Tryz.func210, Tryz.ntmps210
  go_wp2_with (first | (go_at_call 235; refine HI.mono ?_; rintro e w' ⟨rfl, hb'⟩))
  go_ret
  exact ⟨rfl, hb'⟩
set_option maxHeartbeats 1600000 in
set_option maxRecDepth 100000 in
theorem indexFuncIf (A : Option Addr) (n c : Nat) (g : Nat) (lb : Array Value) (eg : ∀ args w, (callFunc g args).run Tryz.prog w = .ok (.enter g args) w) (p : Nat → Bool) (cs : Nat → List Value) (w : World) (hbig : n ≤ 9223372036854775807)
    (hp : ∀ j, j < n → ∀ W, Below w.heap.size w W → Calls Tryz.prog g (#[.agg (cs j).toArray] ++ lb) W fun e w' => e = .returned (.bool (p j)) ∧ Below w.heap.size w w')
    (hk : ∀ j, j < n → (cs j).length = 3) (hc : 0 < n → ∃ ad, A = some ad ∧ ∀ j, j < n → ∀ i u, (cs j)[i]? = some u → w.cell? (ad.add (j * 3 + i)) = some u) :
    Calls Tryz.prog 273 #[.slice A n c, .func (.func g) #[] lb] w fun e w' => e = .returned (.int .i64 (firstAt p n)) ∧ Below w.heap.size w w' := by
  have HC := am hc
  have HP := am hp
  have HK := am hk
  have EG := am eg
  clear hc hp hk eg
  go_enter Tryz.func273, Tryz.ntmps273
  go_wp2
  go_loopg [8] n (fun gk v8 w' => ∃ i : Nat, v8 = .int .i64 (i : Int) ∧ Aside0 (i ≤ n ∧ n - i ≤ gk) ∧ Aside0 (∀ j, j < i → p j = false) ∧ Aside0 (Below w.heap.size w w'))
  case atStart => exact ⟨0, rfl, ⟨⟨Nat.zero_le _, by omega⟩⟩, ⟨fun j hj => absurd hj (Nat.not_lt_zero _)⟩, ⟨Below.refl _ w⟩⟩
  case round =>
    obtain ⟨i, rfl, HI, HM, HB⟩ := hrel
    by_cases hi : i < n
    · have c0 : (i : Int) < (n : Int) := by omega
      obtain ⟨ad, rfl, hcell⟩ := HC.out (by omega)
      have hcl := HK.out i hi
      have HL := am (HP.out i hi)
      have hcell := hcell i hi
      generalize cs i = q at hcl HL hcell
      obtain ⟨q0, q1, q2, rfl⟩ : ∃ q0 q1 q2, q = [q0, q1, q2] := by
        match q, hcl with
        | [q0, q1, q2], _ => exact ⟨q0, q1, q2, rfl⟩
      have x0 := (HB.out.cell (World.block_lt_of_cell? w _ (hcell 0 _ rfl))).trans (hcell 0 _ rfl)
      rw [Nat.add_zero] at x0
      have x1 := (HB.out.cell (World.block_lt_of_cell? w _ (hcell 1 _ rfl))).trans (hcell 1 _ rfl)
      rw [add_field _ _ 1 (by omega)] at x1
      have x2 := (HB.out.cell (World.block_lt_of_cell? w _ (hcell 2 _ rfl))).trans (hcell 2 _ rfl)
      rw [add_field _ _ 2 (by omega)] at x2
      clear hcell
      cases gk with
      | zero => have := HI.out; omega
      | succ k1 =>
      cases hm : p i with
      | true =>
        rw [hm] at HL
        go_wp2
        rw [EG.out, Oper.upon_enter]
        refine (HL.out _ HB.out).mono ?_
        rintro e w' ⟨rfl, hb'⟩
        go_wp2
        go_ret
        exact ⟨by rw [firstAt_hit hi hm HM.out]; rfl, hb'⟩
      | false =>
        rw [hm] at HL
        go_wp2
        rw [EG.out, Oper.upon_enter]
        refine (HL.out _ HB.out).mono ?_
        rintro e w' ⟨rfl, hb'⟩
        go_wp2
        go_roundg k1
        case measure => omega
        case rel =>
          exact ⟨i + 1, by rw [show ((i : Int) + 1) = ((i + 1 : Nat) : Int) by omega], ⟨by have := HI.out; omega⟩, ⟨fun j hj => (Nat.lt_succ_iff_lt_or_eq.1 hj).elim (HM.out j) (fun e => by rw [e]; exact hm)⟩, ⟨hb'⟩⟩
    · have c0 : ¬ (i : Int) < (n : Int) := by omega
      go_wp2
      go_ret
      exact ⟨by rw [firstAt_miss (fun j hj => HM.out j (by have := HI.out; omega))]; rfl, HB.out⟩
theorem containsFuncIf (A : Option Addr) (n c : Nat) (g : Nat) (lb : Array Value) (eg : ∀ args w, (callFunc g args).run Tryz.prog w = .ok (.enter g args) w) (p : Nat → Bool) (cs : Nat → List Value) (w : World) (hbig : n ≤ 9223372036854775807)
    (hp : ∀ j, j < n → ∀ W, Below w.heap.size w W → Calls Tryz.prog g (#[.agg (cs j).toArray] ++ lb) W fun e w' => e = .returned (.bool (p j)) ∧ Below w.heap.size w w')
    (hk : ∀ j, j < n → (cs j).length = 3) (hc : 0 < n → ∃ ad, A = some ad ∧ ∀ j, j < n → ∀ i u, (cs j)[i]? = some u → w.cell? (ad.add (j * 3 + i)) = some u) :
    Calls Tryz.prog 238 #[.slice A n c, .func (.func g) #[] lb] w fun e w' => e = .returned (.bool ((List.range n).any p)) ∧ Below w.heap.size w w' := by
  have HI := indexFuncIf A n c g lb eg p cs w hbig hp hk hc
  clear hc hp hk eg
  rw [← firstAt_pos]
  generalize firstAt p n = r at HI
  go_enter Tryz.func238, Tryz.ntmps238
  go_wp2_with (first | (go_at_call 273; refine HI.mono ?_; rintro e w' ⟨rfl, hb'⟩))
  go_ret
  exact ⟨rfl, hb'⟩
end Go.Proofs.YtpbembafpnknhaaGreat.Pr
