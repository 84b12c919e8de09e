/- Proof texts of one seat, in one file: the walks of functions and the lemmas under them, printed by programs and typed by hand. Put together by wip/bundle.py. -/
import Derived.Test.YtpbembafpnknhaaGreatRows
import Derived.ArgAppend
import Derived.Below
import Derived.BigQuiet
import Derived.ChangeArms
import Derived.ChangeOld
import Derived.ChangeSlices
import Derived.Deep.AppendLies
import Derived.Deep.CutBlock
import Derived.Deep.DeepCutAuto
import Derived.Deep.Draws
import Derived.Deep.LoopGhost
import Derived.Deep.OwnRows
import Derived.Deep.QuietTactic
import Derived.Deep.RegionHeld3
import Derived.Deep.RegionLawGrows
import Derived.Deep.Upon
import Derived.Ground.Names2Prog
import Derived.Ground.SlgfProg
import Derived.Ground.SlgnProg
import Derived.Ground.SlsfProg
import Derived.JoinedOf
import Derived.KernelRfl
import Derived.Laws.BitsLemmas
import Derived.Laws.BytesArg
import Derived.Laws.IdiomCopy
import Derived.Laws.MakeOwn
import Derived.Laws.OwnMore
import Derived.Laws.Rows
import Derived.Laws.Slices
import Derived.Laws.StructEq
import Derived.Lib.AppendStr
import Derived.Lib.ConvBytes
import Derived.Lib.Hide
import Derived.Maps.AppendAt
import Derived.OpenShut
import Derived.OrdersHeld
import Derived.OwnWalk
import Derived.ProofKit
import Derived.RowKit
import Derived.RowKit3
import Derived.Shelf.GgSortFunc.InsertionK
import Derived.Shelf.SlGeneric
import Derived.Shelf.SlSortCmp.NoneTotal
import Derived.Shelf.Slices.In.SortNone
import Derived.Shelf.SlicesE.Clone
import Derived.Shelf.SlicesQ.IndexFunc
import Derived.Shelf.Sort.Plain
import Derived.ShutString
import Derived.SizedLaws
import Derived.Sort.Grow
import Derived.Sort.Walk0
import Derived.StillTailTactics
import Derived.Tactics
import Derived.WalkKit
import Derived.WalkSpells
import Derived.WideLaws
import Derived.Test.YtpbembafpnknhaaGreatBNormOrders0
import Derived.Test.YtpbembafpnknhaaGreatBNormOrders1
import Derived.Test.YtpbembafpnknhaaGreatBNormOrders2
namespace Go.Proofs.YtpbembafpnknhaaGreat.Pr
open Go.RowKit Go.Proofs.YtpbembafpnknhaaGreatW.PrintWords Go.Proofs.YtpbembafpnknhaaGreatW.PrintLast Go.Proofs.YtpbembafpnknhaaGreatW.PrintMore
set_option linter.unusedVariables false
theorem C_cells {β : Type} {d : Kd β} {w : World} {A : Option Addr} {n : Nat} {xs : List β} (z : β) (h : d.C w A n xs) : ∃ cs : Nat → List Value, (∀ j, j < n → (cs j).length = d.sz) ∧ (∀ j, j < n → d.K w (xs.getD j z) (cs j)) ∧
    (0 < n → ∃ ad, A = some ad ∧ ∀ j, j < n → ∀ i u, (cs j)[i]? = some u → w.cell? (ad.add (j * d.sz + i)) = some u) := by
  have h1 : ∀ j : Nat, ∃ c : List Value, j < n → c.length = d.sz ∧ d.K w (xs.getD j z) c ∧ ∃ ad, A = some ad ∧ ∀ i u, c[i]? = some u → w.cell? (ad.add (j * d.sz + i)) = some u := by
    intro j
    by_cases hj : j < n
    · obtain ⟨ad, c, e, hl, hK, hc⟩ := Kd.C_get h z (j : Int) (by omega) (by omega)
      exact ⟨c, fun _ => ⟨hl, hK, ad, e, hc⟩⟩
    · exact ⟨[], fun h => absurd h hj⟩
  have h2 := Classical.skolem.1 h1
  obtain ⟨cs, hcs⟩ := h2
  refine ⟨cs, fun j hj => (hcs j hj).1, fun j hj => (hcs j hj).2.1, fun hn => ?_⟩
  obtain ⟨_, _, ad, e, _⟩ := hcs 0 hn
  refine ⟨ad, e, fun j hj => ?_⟩
  obtain ⟨_, _, ad', e', hc⟩ := hcs j hj
  rw [e] at e'
  injection e' with e'
  subst e'
  exact hc
set_option maxHeartbeats 800000 in
theorem place_cl {W : World} {gb : Nat} {a b c : ByteArray} {n1 n2 : Int} {f : Bool} {A5 A6 : Option Addr} {l5 c5 l6 c6 : Nat} (hb : W.cell? ⟨gb, 0, none⟩ = some (.string b)) :
    Calls Tryz.prog 207 #[.agg #[.string a, .int .i64 n1, .string c, .bool f, .int .i64 n2, .slice A5 l5 c5, .slice A6 l6 c6], .pointer (some ⟨gb, 0, none⟩)] W fun e w' => e = .returned (.bool (a.toList == b.toList)) ∧ Below W.heap.size W w' := by
  have hu47 := Tryz.underlying47
  have hlt := World.block_lt_of_cell? W _ hb
  go_enter Tryz.func207, Tryz.ntmps207
  go_wp2
  go_ret
  exact ⟨rfl, below_alloc (Below.refl _ _) _⟩
theorem blk2 (w : World) (o1 o2 : Obj) : ((w.alloc o1).alloc o2).heap[w.heap.size + 1]? = some o2 := by
  have h := blk_new (w.alloc o1) o2
  rwa [show (w.alloc o1).heap.size = w.heap.size + 1 from Array.size_push _] at h
def placeOf (xs : List S47) (s : ByteArray) : Int := firstAt (fun j => (xs.getD j z47).f0.toList == s.toList) xs.length
def model_Place.f (_l0_0 : List ByteArray) (l0_1 : List S47) (a1 : ByteArray) : Option Int := some (placeOf l0_1 a1)
set_option maxHeartbeats 800000 in
theorem model_Place.calls (A0_0 : Option Addr) (c0_0 : Nat) (l0_0 : List ByteArray) (A0_1 : Option Addr) (c0_1 : Nat) (l0_1 : List S47) (a1 : ByteArray) (r : Int) (w : World) (hr0_0 : Kd.C Kd.string w A0_0 l0_0.length l0_0) (hc0_0 : l0_0.length ≤ c0_0) (hr0_1 : Kd.C k47 w A0_1 l0_1.length l0_1) (hc0_1 : l0_1.length ≤ c0_1) (h : model_Place.f l0_0 l0_1 a1 = some r) :
    Calls Tryz.prog 151 #[.agg #[.slice A0_0 l0_0.length c0_0, .slice A0_1 l0_1.length c0_1], .string a1] w fun e w' => e = .returned (.int .i64 r) ∧ Below w.heap.size w w' := by
  obtain rfl := Option.some.inj h
  clear h hr0_0 hc0_0 hc0_1
  have hu25 := Tryz.underlying25
  have hbig := hr0_1.2.1
  obtain ⟨cs, hk, hK, hc⟩ := C_cells z47 hr0_1
  have HI : ∀ (W : World) (gb : Nat), Below w.heap.size w W → W.heap[gb]? = some (.cells #[.string a1] 9 (0, 0)) →
      Calls Tryz.prog 155 #[.slice A0_1 l0_1.length c0_1, .func (.func 207) #[] #[.pointer (some ⟨gb, 0, none⟩)]] W fun e w' => e = .returned (.int .i64 (placeOf l0_1 a1)) ∧ Below W.heap.size W w' := by
    intro W gb hW hgb
    refine indexFuncItem A0_1 l0_1.length c0_1 207 #[.pointer (some ⟨gb, 0, none⟩)] (enters_ Tryz.func207 rfl rfl) (fun j => (l0_1.getD j z47).f0.toList == a1.toList) cs W hbig ?_ hk ?_
    · intro j hj W2 hW2
      obtain ⟨A5, c5, A6, c6, e, l5, g5, l6, g6⟩ := k47_open (hK j hj)
      rw [e]
      refine (place_cl (W := W2) (gb := gb) (b := a1) ?_).mono ?_
      · have h1 : W.cell? ⟨gb, 0, none⟩ = some (.string a1) := (blk_cell hgb 0).trans rfl
        exact (hW2.cell (World.block_lt_of_cell? W _ h1)).trans h1
      · rintro e' w' ⟨rfl, h2⟩
        exact ⟨rfl, below_step hW2 h2⟩
    · intro hn
      obtain ⟨ad, e, hcc⟩ := hc hn
      refine ⟨ad, e, fun j hj i u hu => ?_⟩
      have h1 := hcc j hj i u hu
      exact (hW.cell (World.block_lt_of_cell? w _ h1)).trans h1
  have HII := am HI
  have HB := am (Below.refl w.heap.size w)
  clear hc hK hk HI hr0_1
  go_enter Tryz.func151, Tryz.ntmps151
  go_wp2_with (first | (go_at_call 155; refine (HII.out _ _ (zb) (blk2 _ _ _)).mono ?_; rintro e w' ⟨rfl, hb⟩))
  go_ret
  exact ⟨rfl, below_step (below_alloc (below_alloc (Below.refl _ _) _) _) hb⟩
end Go.Proofs.YtpbembafpnknhaaGreat.Pr
namespace Go.Proofs.YtpbembafpnknhaaGreat.Pr
open Go.RowKit Go.Proofs.YtpbembafpnknhaaGreatW.PrintWords Go.Proofs.YtpbembafpnknhaaGreatW.PrintLast Go.Proofs.YtpbembafpnknhaaGreatW.PrintMore
attribute [local go_sem] max2_int min2_int max_two min_two max_three min_three max_four min_four   -- for this text's walks alone
set_option linter.unusedVariables false
set_option linter.unusedSimpArgs false
def model_isIf.f (k : Nat) (l0_0 : List ByteArray) (l0_1 : List (S47)) (a1_0 : ByteArray) (a1_1 : ByteArray) (a1_2 : Int) : Option (Bool) := (slices_Contains_string_string.f k (([(⟨#[60]⟩ : ByteArray), (⟨#[60, 61]⟩ : ByteArray), (⟨#[61]⟩ : ByteArray), (⟨#[33, 61]⟩ : ByteArray), (⟨#[62, 61]⟩ : ByteArray), (⟨#[62]⟩ : ByteArray)] : List ByteArray)) a1_1).bind fun t106 => (if t106 = true then ((slices_Contains_string_string.f k l0_0 a1_0).bind fun t107 => (if t107 = true then (if a1_2 ≥ (-1000000) then (some (decide (a1_2 ≤ 1000000))) else (some false)) else (some false))) else (some false))
theorem model_isIf.mono : ∀ a0 a1 a2 a3 a4 k, LeO (model_isIf.f k a0 a1 a2 a3 a4) (model_isIf.f (k + 1) a0 a1 a2 a3 a4) := by
  intro a0 a1 a2 a3 a4 k
  unfold model_isIf.f
  repeat' first
      | (with_reducible exact slices_Contains_string_string.mono _ _ _)
      | (with_reducible exact LeO.refl _)
      | (with_reducible exact LeO.none _)
      | (with_reducible refine LeO.ite ?_ ?_)
      | (with_reducible refine LeO.bind ?_ (fun _ => ?_))
      | exact slices_Contains_string_string.mono _ _ _
      | exact LeO.none _
      | refine LeO.ite ?_ ?_
      | refine LeO.bind ?_ (fun _ => ?_)
set_option maxHeartbeats 8000000 in
set_option maxRecDepth 100000 in
theorem model_isIf.calls (k : Nat) (A0_0 : Option Addr) (c0_0 : Nat) (l0_0 : List ByteArray) (A0_1 : Option Addr) (c0_1 : Nat) (l0_1 : List (S47)) (a1_0 : ByteArray) (a1_1 : ByteArray) (a1_2 : Int) (r : Bool) (w : World) (hr0_0 : Kd.C Kd.string w A0_0 l0_0.length l0_0) (hc0_0 : l0_0.length ≤ c0_0) (hr0_1 : Kd.C k47 w A0_1 l0_1.length l0_1) (hc0_1 : l0_1.length ≤ c0_1) (h : model_isIf.f k l0_0 l0_1 a1_0 a1_1 a1_2 = some r) :
    Calls Tryz.prog 240 #[.agg #[.slice A0_0 l0_0.length c0_0, .slice A0_1 l0_1.length c0_1], .agg #[.string a1_0, .string a1_1, .int .i64 a1_2]] w fun e w' => e = .returned (.bool r) ∧ Below w.heap.size w w' := by
  have hu25 := Tryz.underlying25
  have hu93 := Tryz.underlying93
  have HR0_0 := am hr0_0
  have HC0_0 := am hc0_0
  clear hr0_0 hc0_0
  have HR0_1 := am hr0_1
  have HC0_1 := am hc0_1
  clear hr0_1 hc0_1
  have HB := am (Below.refl w.heap.size w)
  have H : ((slices_Contains_string_string.f k (([(⟨#[60]⟩ : ByteArray), (⟨#[60, 61]⟩ : ByteArray), (⟨#[61]⟩ : ByteArray), (⟨#[33, 61]⟩ : ByteArray), (⟨#[62, 61]⟩ : ByteArray), (⟨#[62]⟩ : ByteArray)] : List ByteArray)) a1_1).bind fun t106 => (if t106 = true then ((slices_Contains_string_string.f k l0_0 a1_0).bind fun t107 => (if t107 = true then (if a1_2 ≥ (-1000000) then (some (decide (a1_2 ≤ 1000000))) else (some false)) else (some false))) else (some false))) = some r := h
  clear h
  obtain ⟨y103, hy103⟩ : ∃ y_ : List ByteArray, y_ = (([(⟨#[60]⟩ : ByteArray), (⟨#[60, 61]⟩ : ByteArray), (⟨#[61]⟩ : ByteArray), (⟨#[33, 61]⟩ : ByteArray), (⟨#[62, 61]⟩ : ByteArray), (⟨#[62]⟩ : ByteArray)] : List ByteArray)) := ⟨_, rfl⟩
  replace H : ((slices_Contains_string_string.f k y103 a1_1).bind fun t106 => (if t106 = true then ((slices_Contains_string_string.f k l0_0 a1_0).bind fun t107 => (if t107 = true then (if a1_2 ≥ (-1000000) then (some (decide (a1_2 ≤ 1000000))) else (some false)) else (some false))) else (some false))) = some r := by first | (rw [hy103]; with_reducible exact H) | (have H2_ := (Option.bind_some _ _).symm.trans H; rw [hy103]; with_reducible exact H2_) | (have H2_ := (Option.bind_some _ _).symm.trans H; with_reducible exact H2_) | with_reducible exact H | (rw [hy103]; exact H) | exact H
  have Ny103 := am hy103
  clear hy103
  replace H := Option.bind_eq_some_iff.mp H
  obtain ⟨t106, A30, H⟩ := H
  replace H : (if t106 = true then ((slices_Contains_string_string.f k l0_0 a1_0).bind fun t107 => (if t107 = true then (if a1_2 ≥ (-1000000) then (some (decide (a1_2 ≤ 1000000))) else (some false)) else (some false))) else (some false)) = some r := H
  have A3 := am A30
  clear A30
  by_cases c4 : t106 = true
  · subst c4
    have H1 : ((slices_Contains_string_string.f k l0_0 a1_0).bind fun t107 => (if t107 = true then (if a1_2 ≥ (-1000000) then (some (decide (a1_2 ≤ 1000000))) else (some false)) else (some false))) = some r := by rw [if_pos rfl] at H; exact H
    clear H
    have H := H1
    clear H1
    replace H := Option.bind_eq_some_iff.mp H
    obtain ⟨t107, A50, H⟩ := H
    replace H : (if t107 = true then (if a1_2 ≥ (-1000000) then (some (decide (a1_2 ≤ 1000000))) else (some false)) else (some false)) = some r := H
    have A5 := am A50
    clear A50
    by_cases c6 : t107 = true
    · subst c6
      have H1 : (if a1_2 ≥ (-1000000) then (some (decide (a1_2 ≤ 1000000))) else (some false)) = some r := by rw [if_pos rfl] at H; exact H
      clear H
      have H := H1
      clear H1
      by_cases c7 : a1_2 ≥ (-1000000)
      · rw [if_pos c7] at H
        have c7b0 : decide ((-1000000) ≤ a1_2) = true := decide_eq_true c7
        clear c7
        obtain rfl := Option.some.inj H
        go_enter Tryz.func240, Tryz.ntmps240
        go_wp2_with (first | ((with_reducible refine gd_ 2 ?_); refine bx_ 2 #[.slice A0_0 l0_0.length c0_0, .slice A0_1 l0_1.length c0_1] 25 ?_; intro gb101 hg w8 hbox hb; have BK101 := am (hbox); have GW101 := am (zg : w.heap.size ≤ gb101); have GE101 := am (zg : w.heap.size ≤ gb101); replace HB := am (below_step (zb) hb); clear hb hbox hg) | ((with_reducible refine gd_ 3 ?_); refine bx_ 3 #[.string a1_0, .string a1_1, .int .i64 a1_2] 93 ?_; intro gb102 hg w9 hbox hb; have BK102 := am (hbox); have GW102 := am (zg : w.heap.size ≤ gb102); have GE102 := am (zg : w.heap.size ≤ gb102); replace HB := am (below_step (zb) hb); have NB101_102 := am ((zn BK101.out : gb101 ≠ gb102)); have NB102_101 := am ((zm BK101.out : gb102 ≠ gb101)); replace BK101 := am (zw BK101.out hb); clear hb hbox hg) | ((with_reducible refine gd_ 6 ?_); refine Kd.R_lit Kd.string _ 9 ?hg (N := 6) ?hd (xs := ([(⟨#[60]⟩ : ByteArray), (⟨#[60, 61]⟩ : ByteArray), (⟨#[61]⟩ : ByteArray), (⟨#[33, 61]⟩ : ByteArray), (⟨#[62, 61]⟩ : ByteArray), (⟨#[62]⟩ : ByteArray)] : List ByteArray)) (inner := [.string (⟨#[60]⟩ : ByteArray), .string (⟨#[60, 61]⟩ : ByteArray), .string (⟨#[61]⟩ : ByteArray), .string (⟨#[33, 61]⟩ : ByteArray), .string (⟨#[62, 61]⟩ : ByteArray), .string (⟨#[62]⟩ : ByteArray)]) (ok := fun _ => True) (okp := fun _ => True) ?hr ?hp (fun _ hk => hk) trivial (Below.refl _ _) (Nat.le_refl _) (by simp) ?_; (case hd => rfl); (case hg => rfl); (case hr => first | (go_simp; done) | (go_simp; rfl)); (case hp => exact (Reps.one (show Kd.M Kd.string _ _ _ (⟨#[60]⟩ : ByteArray) [.string (⟨#[60]⟩ : ByteArray)] from rfl) (Reps.one (show Kd.M Kd.string _ _ _ (⟨#[60, 61]⟩ : ByteArray) [.string (⟨#[60, 61]⟩ : ByteArray)] from rfl) (Reps.one (show Kd.M Kd.string _ _ _ (⟨#[61]⟩ : ByteArray) [.string (⟨#[61]⟩ : ByteArray)] from rfl) (Reps.one (show Kd.M Kd.string _ _ _ (⟨#[33, 61]⟩ : ByteArray) [.string (⟨#[33, 61]⟩ : ByteArray)] from rfl) (Reps.one (show Kd.M Kd.string _ _ _ (⟨#[62, 61]⟩ : ByteArray) [.string (⟨#[62, 61]⟩ : ByteArray)] from rfl) (Reps.one (show Kd.M Kd.string _ _ _ (⟨#[62]⟩ : ByteArray) [.string (⟨#[62]⟩ : ByteArray)] from rfl) (Reps.none _ _)))))))); intro v104 w10 ho11 hb hg_ hnew_; clear hg_ hnew_; (first | rw [← Ny103.out] at ho11 | (simp only [Int.reduceToNat] at ho11; rw [← Ny103.out] at ho11)); have HO105 := am (Kd.R_lower ho11 (below_size (zb))); replace BK101 := am (zw BK101.out hb); replace BK102 := am (zw BK102.out hb); replace HB := am (below_step (zb) hb); clear hb ho11; have hnb12 := NB102_101.out; have hnc12 := NB101_102.out; obtain ⟨hcz13_0, hcz13_1, hcz13_2, hfz13_0, hfz13_1, hfz13_2⟩ := cf3 BK102.out; obtain ⟨Ao14, co14, eo14⟩ := Kd.R_slice HO105.out; subst eo14) | ((with_reducible refine gc_ 92 ?_); refine goesL_ (some 9) rfl rfl Tryz.func92 (by kernel_rfl) rfl #[.slice Ao14 y103.length co14, .string a1_1] rfl (za) ?_; (with_reducible refine (slices_Contains_string_string.calls k _ _ y103 a1_1 true _ ?side1 ?side2 A3.out).mono ?_); (case side1 => exact zc (Kd.R_reads' HO105.out).2.2); (case side2 => exact (Kd.R_reads' HO105.out).2.1); rintro e w' ⟨rfl, ⟨nd, rfl⟩⟩; refine ⟨_, rfl, ?_⟩; obtain ⟨hcz15_0, hcz15_1, hfz15_0, hfz15_1⟩ := cf2 BK101.out) | (go_at_call 92; (with_reducible refine (slices_Contains_string_string.calls k _ _ l0_0 a1_0 true _ ?side1 ?side2 A5.out).mono ?_); (case side1 => exact zc (Kd.C_below HR0_0.out (zb))); (case side2 => exact HC0_0.out); rintro e w' ⟨rfl, ⟨nd, rfl⟩⟩))
        go_ret
        exact ⟨zf, zb⟩
      · rw [if_neg c7] at H
        have c7b0 : decide ((-1000000) ≤ a1_2) = false := decide_eq_false c7
        clear c7
        obtain rfl := Option.some.inj H
        go_enter Tryz.func240, Tryz.ntmps240
        go_wp2_with (first | ((with_reducible refine gd_ 2 ?_); refine bx_ 2 #[.slice A0_0 l0_0.length c0_0, .slice A0_1 l0_1.length c0_1] 25 ?_; intro gb101 hg w16 hbox hb; have BK101 := am (hbox); have GW101 := am (zg : w.heap.size ≤ gb101); have GE101 := am (zg : w.heap.size ≤ gb101); replace HB := am (below_step (zb) hb); clear hb hbox hg) | ((with_reducible refine gd_ 3 ?_); refine bx_ 3 #[.string a1_0, .string a1_1, .int .i64 a1_2] 93 ?_; intro gb102 hg w17 hbox hb; have BK102 := am (hbox); have GW102 := am (zg : w.heap.size ≤ gb102); have GE102 := am (zg : w.heap.size ≤ gb102); replace HB := am (below_step (zb) hb); have NB101_102 := am ((zn BK101.out : gb101 ≠ gb102)); have NB102_101 := am ((zm BK101.out : gb102 ≠ gb101)); replace BK101 := am (zw BK101.out hb); clear hb hbox hg) | ((with_reducible refine gd_ 6 ?_); refine Kd.R_lit Kd.string _ 9 ?hg (N := 6) ?hd (xs := ([(⟨#[60]⟩ : ByteArray), (⟨#[60, 61]⟩ : ByteArray), (⟨#[61]⟩ : ByteArray), (⟨#[33, 61]⟩ : ByteArray), (⟨#[62, 61]⟩ : ByteArray), (⟨#[62]⟩ : ByteArray)] : List ByteArray)) (inner := [.string (⟨#[60]⟩ : ByteArray), .string (⟨#[60, 61]⟩ : ByteArray), .string (⟨#[61]⟩ : ByteArray), .string (⟨#[33, 61]⟩ : ByteArray), .string (⟨#[62, 61]⟩ : ByteArray), .string (⟨#[62]⟩ : ByteArray)]) (ok := fun _ => True) (okp := fun _ => True) ?hr ?hp (fun _ hk => hk) trivial (Below.refl _ _) (Nat.le_refl _) (by simp) ?_; (case hd => rfl); (case hg => rfl); (case hr => first | (go_simp; done) | (go_simp; rfl)); (case hp => exact (Reps.one (show Kd.M Kd.string _ _ _ (⟨#[60]⟩ : ByteArray) [.string (⟨#[60]⟩ : ByteArray)] from rfl) (Reps.one (show Kd.M Kd.string _ _ _ (⟨#[60, 61]⟩ : ByteArray) [.string (⟨#[60, 61]⟩ : ByteArray)] from rfl) (Reps.one (show Kd.M Kd.string _ _ _ (⟨#[61]⟩ : ByteArray) [.string (⟨#[61]⟩ : ByteArray)] from rfl) (Reps.one (show Kd.M Kd.string _ _ _ (⟨#[33, 61]⟩ : ByteArray) [.string (⟨#[33, 61]⟩ : ByteArray)] from rfl) (Reps.one (show Kd.M Kd.string _ _ _ (⟨#[62, 61]⟩ : ByteArray) [.string (⟨#[62, 61]⟩ : ByteArray)] from rfl) (Reps.one (show Kd.M Kd.string _ _ _ (⟨#[62]⟩ : ByteArray) [.string (⟨#[62]⟩ : ByteArray)] from rfl) (Reps.none _ _)))))))); intro v104 w18 ho19 hb hg_ hnew_; clear hg_ hnew_; (first | rw [← Ny103.out] at ho19 | (simp only [Int.reduceToNat] at ho19; rw [← Ny103.out] at ho19)); have HO105 := am (Kd.R_lower ho19 (below_size (zb))); replace BK101 := am (zw BK101.out hb); replace BK102 := am (zw BK102.out hb); replace HB := am (below_step (zb) hb); clear hb ho19; have hnb20 := NB102_101.out; have hnc20 := NB101_102.out; obtain ⟨hcz21_0, hcz21_1, hcz21_2, hfz21_0, hfz21_1, hfz21_2⟩ := cf3 BK102.out; obtain ⟨Ao22, co22, eo22⟩ := Kd.R_slice HO105.out; subst eo22) | ((with_reducible refine gc_ 92 ?_); refine goesL_ (some 9) rfl rfl Tryz.func92 (by kernel_rfl) rfl #[.slice Ao22 y103.length co22, .string a1_1] rfl (za) ?_; (with_reducible refine (slices_Contains_string_string.calls k _ _ y103 a1_1 true _ ?side1 ?side2 A3.out).mono ?_); (case side1 => exact zc (Kd.R_reads' HO105.out).2.2); (case side2 => exact (Kd.R_reads' HO105.out).2.1); rintro e w' ⟨rfl, ⟨nd, rfl⟩⟩; refine ⟨_, rfl, ?_⟩; obtain ⟨hcz23_0, hcz23_1, hfz23_0, hfz23_1⟩ := cf2 BK101.out) | (go_at_call 92; (with_reducible refine (slices_Contains_string_string.calls k _ _ l0_0 a1_0 true _ ?side1 ?side2 A5.out).mono ?_); (case side1 => exact zc (Kd.C_below HR0_0.out (zb))); (case side2 => exact HC0_0.out); rintro e w' ⟨rfl, ⟨nd, rfl⟩⟩))
        go_ret
        exact ⟨zf, zb⟩
    · replace c6 := Bool.eq_false_iff.mpr c6
      subst c6
      have H1 : (some false) = some r := by rw [if_neg (show ¬ (false = true) by decide)] at H; exact H
      clear H
      have H := H1
      clear H1
      obtain rfl := Option.some.inj H
      go_enter Tryz.func240, Tryz.ntmps240
      go_wp2_with (first | ((with_reducible refine gd_ 2 ?_); refine bx_ 2 #[.slice A0_0 l0_0.length c0_0, .slice A0_1 l0_1.length c0_1] 25 ?_; intro gb101 hg w24 hbox hb; have BK101 := am (hbox); have GW101 := am (zg : w.heap.size ≤ gb101); have GE101 := am (zg : w.heap.size ≤ gb101); replace HB := am (below_step (zb) hb); clear hb hbox hg) | ((with_reducible refine gd_ 3 ?_); refine bx_ 3 #[.string a1_0, .string a1_1, .int .i64 a1_2] 93 ?_; intro gb102 hg w25 hbox hb; have BK102 := am (hbox); have GW102 := am (zg : w.heap.size ≤ gb102); have GE102 := am (zg : w.heap.size ≤ gb102); replace HB := am (below_step (zb) hb); have NB101_102 := am ((zn BK101.out : gb101 ≠ gb102)); have NB102_101 := am ((zm BK101.out : gb102 ≠ gb101)); replace BK101 := am (zw BK101.out hb); clear hb hbox hg) | ((with_reducible refine gd_ 6 ?_); refine Kd.R_lit Kd.string _ 9 ?hg (N := 6) ?hd (xs := ([(⟨#[60]⟩ : ByteArray), (⟨#[60, 61]⟩ : ByteArray), (⟨#[61]⟩ : ByteArray), (⟨#[33, 61]⟩ : ByteArray), (⟨#[62, 61]⟩ : ByteArray), (⟨#[62]⟩ : ByteArray)] : List ByteArray)) (inner := [.string (⟨#[60]⟩ : ByteArray), .string (⟨#[60, 61]⟩ : ByteArray), .string (⟨#[61]⟩ : ByteArray), .string (⟨#[33, 61]⟩ : ByteArray), .string (⟨#[62, 61]⟩ : ByteArray), .string (⟨#[62]⟩ : ByteArray)]) (ok := fun _ => True) (okp := fun _ => True) ?hr ?hp (fun _ hk => hk) trivial (Below.refl _ _) (Nat.le_refl _) (by simp) ?_; (case hd => rfl); (case hg => rfl); (case hr => first | (go_simp; done) | (go_simp; rfl)); (case hp => exact (Reps.one (show Kd.M Kd.string _ _ _ (⟨#[60]⟩ : ByteArray) [.string (⟨#[60]⟩ : ByteArray)] from rfl) (Reps.one (show Kd.M Kd.string _ _ _ (⟨#[60, 61]⟩ : ByteArray) [.string (⟨#[60, 61]⟩ : ByteArray)] from rfl) (Reps.one (show Kd.M Kd.string _ _ _ (⟨#[61]⟩ : ByteArray) [.string (⟨#[61]⟩ : ByteArray)] from rfl) (Reps.one (show Kd.M Kd.string _ _ _ (⟨#[33, 61]⟩ : ByteArray) [.string (⟨#[33, 61]⟩ : ByteArray)] from rfl) (Reps.one (show Kd.M Kd.string _ _ _ (⟨#[62, 61]⟩ : ByteArray) [.string (⟨#[62, 61]⟩ : ByteArray)] from rfl) (Reps.one (show Kd.M Kd.string _ _ _ (⟨#[62]⟩ : ByteArray) [.string (⟨#[62]⟩ : ByteArray)] from rfl) (Reps.none _ _)))))))); intro v104 w26 ho27 hb hg_ hnew_; clear hg_ hnew_; (first | rw [← Ny103.out] at ho27 | (simp only [Int.reduceToNat] at ho27; rw [← Ny103.out] at ho27)); have HO105 := am (Kd.R_lower ho27 (below_size (zb))); replace BK101 := am (zw BK101.out hb); replace BK102 := am (zw BK102.out hb); replace HB := am (below_step (zb) hb); clear hb ho27; have hnb28 := NB102_101.out; have hnc28 := NB101_102.out; obtain ⟨hcz29_0, hcz29_1, hcz29_2, hfz29_0, hfz29_1, hfz29_2⟩ := cf3 BK102.out; obtain ⟨Ao30, co30, eo30⟩ := Kd.R_slice HO105.out; subst eo30) | ((with_reducible refine gc_ 92 ?_); refine goesL_ (some 9) rfl rfl Tryz.func92 (by kernel_rfl) rfl #[.slice Ao30 y103.length co30, .string a1_1] rfl (za) ?_; (with_reducible refine (slices_Contains_string_string.calls k _ _ y103 a1_1 true _ ?side1 ?side2 A3.out).mono ?_); (case side1 => exact zc (Kd.R_reads' HO105.out).2.2); (case side2 => exact (Kd.R_reads' HO105.out).2.1); rintro e w' ⟨rfl, ⟨nd, rfl⟩⟩; refine ⟨_, rfl, ?_⟩; obtain ⟨hcz31_0, hcz31_1, hfz31_0, hfz31_1⟩ := cf2 BK101.out) | (go_at_call 92; (with_reducible refine (slices_Contains_string_string.calls k _ _ l0_0 a1_0 false _ ?side1 ?side2 A5.out).mono ?_); (case side1 => exact zc (Kd.C_below HR0_0.out (zb))); (case side2 => exact HC0_0.out); rintro e w' ⟨rfl, ⟨nd, rfl⟩⟩))
      go_ret
      exact ⟨zf, zb⟩
  · replace c4 := Bool.eq_false_iff.mpr c4
    subst c4
    have H1 : (some false) = some r := by rw [if_neg (show ¬ (false = true) by decide)] at H; exact H
    clear H
    have H := H1
    clear H1
    obtain rfl := Option.some.inj H
    go_enter Tryz.func240, Tryz.ntmps240
    go_wp2_with (first | ((with_reducible refine gd_ 2 ?_); refine bx_ 2 #[.slice A0_0 l0_0.length c0_0, .slice A0_1 l0_1.length c0_1] 25 ?_; intro gb101 hg w32 hbox hb; have BK101 := am (hbox); have GW101 := am (zg : w.heap.size ≤ gb101); have GE101 := am (zg : w.heap.size ≤ gb101); replace HB := am (below_step (zb) hb); clear hb hbox hg) | ((with_reducible refine gd_ 3 ?_); refine bx_ 3 #[.string a1_0, .string a1_1, .int .i64 a1_2] 93 ?_; intro gb102 hg w33 hbox hb; have BK102 := am (hbox); have GW102 := am (zg : w.heap.size ≤ gb102); have GE102 := am (zg : w.heap.size ≤ gb102); replace HB := am (below_step (zb) hb); have NB101_102 := am ((zn BK101.out : gb101 ≠ gb102)); have NB102_101 := am ((zm BK101.out : gb102 ≠ gb101)); replace BK101 := am (zw BK101.out hb); clear hb hbox hg) | ((with_reducible refine gd_ 6 ?_); refine Kd.R_lit Kd.string _ 9 ?hg (N := 6) ?hd (xs := ([(⟨#[60]⟩ : ByteArray), (⟨#[60, 61]⟩ : ByteArray), (⟨#[61]⟩ : ByteArray), (⟨#[33, 61]⟩ : ByteArray), (⟨#[62, 61]⟩ : ByteArray), (⟨#[62]⟩ : ByteArray)] : List ByteArray)) (inner := [.string (⟨#[60]⟩ : ByteArray), .string (⟨#[60, 61]⟩ : ByteArray), .string (⟨#[61]⟩ : ByteArray), .string (⟨#[33, 61]⟩ : ByteArray), .string (⟨#[62, 61]⟩ : ByteArray), .string (⟨#[62]⟩ : ByteArray)]) (ok := fun _ => True) (okp := fun _ => True) ?hr ?hp (fun _ hk => hk) trivial (Below.refl _ _) (Nat.le_refl _) (by simp) ?_; (case hd => rfl); (case hg => rfl); (case hr => first | (go_simp; done) | (go_simp; rfl)); (case hp => exact (Reps.one (show Kd.M Kd.string _ _ _ (⟨#[60]⟩ : ByteArray) [.string (⟨#[60]⟩ : ByteArray)] from rfl) (Reps.one (show Kd.M Kd.string _ _ _ (⟨#[60, 61]⟩ : ByteArray) [.string (⟨#[60, 61]⟩ : ByteArray)] from rfl) (Reps.one (show Kd.M Kd.string _ _ _ (⟨#[61]⟩ : ByteArray) [.string (⟨#[61]⟩ : ByteArray)] from rfl) (Reps.one (show Kd.M Kd.string _ _ _ (⟨#[33, 61]⟩ : ByteArray) [.string (⟨#[33, 61]⟩ : ByteArray)] from rfl) (Reps.one (show Kd.M Kd.string _ _ _ (⟨#[62, 61]⟩ : ByteArray) [.string (⟨#[62, 61]⟩ : ByteArray)] from rfl) (Reps.one (show Kd.M Kd.string _ _ _ (⟨#[62]⟩ : ByteArray) [.string (⟨#[62]⟩ : ByteArray)] from rfl) (Reps.none _ _)))))))); intro v104 w34 ho35 hb hg_ hnew_; clear hg_ hnew_; (first | rw [← Ny103.out] at ho35 | (simp only [Int.reduceToNat] at ho35; rw [← Ny103.out] at ho35)); have HO105 := am (Kd.R_lower ho35 (below_size (zb))); replace BK101 := am (zw BK101.out hb); replace BK102 := am (zw BK102.out hb); replace HB := am (below_step (zb) hb); clear hb ho35; have hnb36 := NB102_101.out; have hnc36 := NB101_102.out; obtain ⟨hcz37_0, hcz37_1, hcz37_2, hfz37_0, hfz37_1, hfz37_2⟩ := cf3 BK102.out; obtain ⟨Ao38, co38, eo38⟩ := Kd.R_slice HO105.out; subst eo38) | ((with_reducible refine gc_ 92 ?_); refine goesL_ (some 9) rfl rfl Tryz.func92 (by kernel_rfl) rfl #[.slice Ao38 y103.length co38, .string a1_1] rfl (za) ?_; (with_reducible refine (slices_Contains_string_string.calls k _ _ y103 a1_1 false _ ?side1 ?side2 A3.out).mono ?_); (case side1 => exact zc (Kd.R_reads' HO105.out).2.2); (case side2 => exact (Kd.R_reads' HO105.out).2.1); rintro e w' ⟨rfl, ⟨nd, rfl⟩⟩; refine ⟨_, rfl, ?_⟩))
    go_ret
    exact ⟨zf, zb⟩
end Go.Proofs.YtpbembafpnknhaaGreat.Pr
namespace Go.Proofs.YtpbembafpnknhaaGreat.Pr
open Go.RowKit Go.Proofs.YtpbembafpnknhaaGreatW.PrintWords Go.Proofs.YtpbembafpnknhaaGreatW.PrintLast Go.Proofs.YtpbembafpnknhaaGreatW.PrintMore
set_option linter.unusedVariables false
def notAll {α : Type} (p : α → Option Bool) (xs : List α) : Option Bool := if xs.all (fun x => (p x).isSome) then some (xs.any fun x => p x == some false) else none
theorem notAll_mono {α : Type} {p q : α → Option Bool} (h : ∀ x, LeO (p x) (q x)) {xs : List α} : LeO (notAll p xs) (notAll q xs) := by
  intro r hr
  unfold notAll at hr ⊢
  split at hr
  · rename_i h1
    have h2 : ∀ x ∈ xs, q x = p x := fun x hx => by
      obtain ⟨v, hv⟩ := Option.isSome_iff_exists.1 (List.all_eq_true.1 h1 x hx)
      rw [hv]; exact h x v hv
    have e1 : xs.all (fun x => (q x).isSome) = true := List.all_eq_true.2 (fun x hx => by rw [h2 x hx]; exact List.all_eq_true.1 h1 x hx)
    rw [if_pos e1]
    have e2 : xs.any (fun x => q x == some false) = xs.any (fun x => p x == some false) := by
      rw [Bool.eq_iff_iff, List.any_eq_true, List.any_eq_true]
      exact ⟨fun ⟨x, hx, hy⟩ => ⟨x, hx, by rw [← h2 x hx]; exact hy⟩, fun ⟨x, hx, hy⟩ => ⟨x, hx, by rw [h2 x hx]; exact hy⟩⟩
    rw [e2]; exact hr
  · cases hr
theorem notAll_some {α : Type} {p : α → Option Bool} {xs : List α} {r : Bool} (h : notAll p xs = some r) : (∀ x ∈ xs, (p x).isSome = true) ∧ (xs.any fun x => p x == some false) = r := by
  unfold notAll at h
  split at h
  · rename_i h1
    exact ⟨fun x hx => List.all_eq_true.1 h1 x hx, Option.some.inj h⟩
  · cases h
theorem getD_at {α : Type} {z : α} {xs : List α} {j : Nat} (h : j < xs.length) : xs.getD j z = xs[j] := by rw [List.getD_eq_getElem?_getD, List.getElem?_eq_getElem h]; rfl
theorem range_any {α : Type} (z : α) {q : α → Bool} {xs : List α} : ((List.range xs.length).any fun j => q (xs.getD j z)) = xs.any q := by
  rw [Bool.eq_iff_iff, List.any_eq_true, List.any_eq_true]
  constructor
  · rintro ⟨j, hj, h⟩
    have hj := List.mem_range.1 hj
    rw [getD_at hj] at h
    exact ⟨_, List.getElem_mem hj, h⟩
  · rintro ⟨x, hx, h⟩
    obtain ⟨j, hj, rfl⟩ := List.getElem_of_mem hx
    exact ⟨j, List.mem_range.2 hj, by rw [getD_at hj]; exact h⟩
set_option maxHeartbeats 800000 in
set_option maxRecDepth 100000 in
theorem api_Cond_238_cl {W : World} {gb k : Nat} {A0 A1 : Option Addr} {c0 c1 : Nat} {l0 : List ByteArray} {l1 : List S47} {a0 a1 : ByteArray} {a2 : Int} (hbk : W.heap[gb]? = some (.cells #[.slice A0 l0.length c0, .slice A1 l1.length c1] 25 (0, 0))) (hr0 : Kd.C Kd.string W A0 l0.length l0) (hc0 : l0.length ≤ c0) (hr1 : Kd.C k47 W A1 l1.length l1) (hc1 : l1.length ≤ c1) (r : Bool) (h : model_isIf.f k l0 l1 a0 a1 a2 = some r) :
    Calls Tryz.prog 239 #[.agg #[.string a0, .string a1, .int .i64 a2], .pointer (some ⟨gb, 0, none⟩)] W fun e w' => e = .returned (.bool (!r)) ∧ Below W.heap.size W w' := by
  have hu25 := Tryz.underlying25
  have hu93 := Tryz.underlying93
  have HI : ∀ W2, Below W.heap.size W W2 → Calls Tryz.prog 240 #[.agg #[.slice A0 l0.length c0, .slice A1 l1.length c1], .agg #[.string a0, .string a1, .int .i64 a2]] W2 fun e w' => e = .returned (.bool r) ∧ Below W.heap.size W w' := fun W2 hW =>
    (model_isIf.calls k _ _ l0 _ _ l1 a0 a1 a2 r W2 (Kd.C_below hr0 hW) hc0 (Kd.C_below hr1 hW) hc1 h).mono (fun _ _ h => ⟨h.1, below_step hW h.2⟩)
  have HII := am HI
  have k0 : W.cell? ⟨gb, 0, none⟩ = some (.slice A0 l0.length c0) := (blk_cell hbk 0).trans rfl
  have k1 : W.cell? ⟨gb, 1, none⟩ = some (.slice A1 l1.length c1) := (blk_cell hbk 1).trans rfl
  have hlt := World.block_lt_of_cell? W _ k0
  have HB := am (Below.refl W.heap.size W)
  clear HI hbk
  go_enter Tryz.func239, Tryz.ntmps239
  go_wp2_with (first | (go_at_call 240; refine (HII.out _ (zb)).mono ?_; rintro e w7 ⟨rfl, hb⟩))
  go_ret
  exact ⟨rfl, hb⟩
def api_Cond_238.f (k : Nat) (xs : List S93) (l0_0 : List ByteArray) (l0_1 : List S47) : Option Bool := notAll (fun x => model_isIf.f k l0_0 l0_1 x.f0 x.f1 x.f2) xs
theorem api_Cond_238.mono : ∀ a0 a1 a2 k, LeO (api_Cond_238.f k a0 a1 a2) (api_Cond_238.f (k + 1) a0 a1 a2) := fun a0 a1 a2 k => notAll_mono (fun x => model_isIf.mono _ _ _ _ _ _)
theorem api_Cond_238.calls (k : Nat) (A : Option Addr) (c : Nat) (xs : List S93) (A0_0 : Option Addr) (c0_0 : Nat) (l0_0 : List ByteArray) (A0_1 : Option Addr) (c0_1 : Nat) (l0_1 : List S47) (r : Bool) (w : World) (hr : Kd.C k93 w A xs.length xs) (hc : xs.length ≤ c) (hr0_0 : Kd.C Kd.string w A0_0 l0_0.length l0_0) (hc0_0 : l0_0.length ≤ c0_0) (hr0_1 : Kd.C k47 w A0_1 l0_1.length l0_1) (hc0_1 : l0_1.length ≤ c0_1)
    {gb : Nat} (hbk : w.heap[gb]? = some (.cells #[.slice A0_0 l0_0.length c0_0, .slice A0_1 l0_1.length c0_1] 25 (0, 0))) (h : api_Cond_238.f k xs l0_0 l0_1 = some r) :
    Calls Tryz.prog 238 #[.slice A xs.length c, .func (.func 239) #[] #[.pointer (some ⟨gb, 0, none⟩)]] w fun e w' => e = .returned (.bool r) ∧ Below w.heap.size w w' := by
  obtain ⟨hall, rfl⟩ := notAll_some h
  have hbig := hr.2.1
  obtain ⟨cs, hk, hK, hcc⟩ := C_cells z93 hr
  rw [← range_any z93]
  refine containsFuncIf A xs.length c 239 #[.pointer (some ⟨gb, 0, none⟩)] (enters_ Tryz.func239 rfl rfl) (fun j => model_isIf.f k l0_0 l0_1 (xs.getD j z93).f0 (xs.getD j z93).f1 (xs.getD j z93).f2 == some false) cs w hbig ?_ hk hcc
  intro j hj W hW
  obtain ⟨r0, hr0⟩ := Option.isSome_iff_exists.1 (hall (xs.getD j z93) (by rw [getD_at hj]; exact List.getElem_mem hj))
  have e := k93_open (hK j hj)
  rw [e]
  refine (api_Cond_238_cl (k := k) (blk_below hbk hW) (Kd.C_below hr0_0 hW) hc0_0 (Kd.C_below hr0_1 hW) hc0_1 r0 hr0).mono ?_
  rintro e' w' ⟨rfl, h2⟩
  refine ⟨?_, below_step hW h2⟩
  rw [hr0]
  cases r0 <;> rfl
end Go.Proofs.YtpbembafpnknhaaGreat.Pr
namespace Go.Proofs.YtpbembafpnknhaaGreat.Pr
open Go.RowKit Go.Proofs.YtpbembafpnknhaaGreatW.PrintWords Go.Proofs.YtpbembafpnknhaaGreatW.PrintLast Go.Proofs.YtpbembafpnknhaaGreatW.PrintMore
attribute [local go_sem] max2_int min2_int max_two min_two max_three min_three max_four min_four   -- for this text's walks alone
set_option linter.unusedVariables false
set_option linter.unusedSimpArgs false
mutual
def model_Legal.j0 : Nat → Int → Int → Bool → Option (Bool)
  | 0, _, _, _ => none
  | k + 1, x0, x5, x6 => if x6 = true then (if x0 ≥ 1 then (some (decide (x0 ≤ 5))) else (some false)) else (if x5 = 2 then (model_Legal.j1 k x0 x5 (x5 == 2)) else (model_Legal.j1 k x0 x5 (x5 == 3)))
def model_Legal.j1 : Nat → Int → Int → Bool → Option (Bool)
  | 0, _, _, _ => none
  | k + 1, x0, x5, x15 => if x15 = true then (if x0 = 1 then (some true) else (some (x0 == 2))) else (if x5 = 4 then (if x0 ≥ 3 then (some (decide (x0 ≤ 5))) else (some false)) else (some false))
end
def model_Legal.f (k : Nat) (a0 : Int) (a1 : Int) : Option (Bool) := if a1 = 1 then (model_Legal.j0 k a0 a1 (a1 == 1)) else (model_Legal.j0 k a0 a1 (a1 == 5))
theorem model_Legal.mono_l : ∀ k, (∀ y0 y1 y2, LeO (model_Legal.j0 k y0 y1 y2) (model_Legal.j0 (k + 1) y0 y1 y2)) ∧ (∀ y0 y1 y2, LeO (model_Legal.j1 k y0 y1 y2) (model_Legal.j1 (k + 1) y0 y1 y2))
  | 0 => ⟨fun _ _ _ r h => by simp [model_Legal.j0] at h, fun _ _ _ r h => by simp [model_Legal.j1] at h⟩
  | k + 1 => by
    obtain ⟨ih0, ih1⟩ := model_Legal.mono_l k
    refine ⟨?_, ?_⟩
    · intro y0 y1 y2
      unfold model_Legal.j0
      repeat' first
      | (with_reducible exact ih0 _ _ _)
      | (with_reducible exact ih1 _ _ _)
      | (with_reducible exact LeO.refl _)
      | (with_reducible exact LeO.none _)
      | (with_reducible refine LeO.ite ?_ ?_)
      | (with_reducible refine LeO.bind ?_ (fun _ => ?_))
      | exact ih0 _ _ _
      | exact ih1 _ _ _
      | exact LeO.none _
      | refine LeO.ite ?_ ?_
      | refine LeO.bind ?_ (fun _ => ?_)
    · intro y0 y1 y2
      unfold model_Legal.j1
      repeat' first
      | (with_reducible exact ih0 _ _ _)
      | (with_reducible exact ih1 _ _ _)
      | (with_reducible exact LeO.refl _)
      | (with_reducible exact LeO.none _)
      | (with_reducible refine LeO.ite ?_ ?_)
      | (with_reducible refine LeO.bind ?_ (fun _ => ?_))
      | exact ih0 _ _ _
      | exact ih1 _ _ _
      | exact LeO.none _
      | refine LeO.ite ?_ ?_
      | refine LeO.bind ?_ (fun _ => ?_)
theorem model_Legal.mono : ∀ a0 a1 k, LeO (model_Legal.f k a0 a1) (model_Legal.f (k + 1) a0 a1) := by
  intro a0 a1 k
  obtain ⟨ih0, ih1⟩ := model_Legal.mono_l k
  unfold model_Legal.f
  repeat' first
      | (with_reducible exact ih0 _ _ _)
      | (with_reducible exact ih1 _ _ _)
      | (with_reducible exact LeO.refl _)
      | (with_reducible exact LeO.none _)
      | (with_reducible refine LeO.ite ?_ ?_)
      | (with_reducible refine LeO.bind ?_ (fun _ => ?_))
      | exact ih0 _ _ _
      | exact ih1 _ _ _
      | exact LeO.none _
      | refine LeO.ite ?_ ?_
      | refine LeO.bind ?_ (fun _ => ?_)
set_option maxHeartbeats 8000000 in
set_option maxRecDepth 100000 in
theorem model_Legal.calls (k : Nat) (a0 : Int) (a1 : Int) (r : Bool) (w : World) (h : model_Legal.f k a0 a1 = some r) :
    Calls Tryz.prog 271 #[.int .i64 a0, .int .i64 a1] w fun e w' => e = .returned (.bool r) ∧ Drawn0 w w' := by
  have H : (if a1 = 1 then (model_Legal.j0 k a0 a1 (a1 == 1)) else (model_Legal.j0 k a0 a1 (a1 == 5))) = some r := h
  clear h
  have HC3 := am H
  clear H
  go_enter Tryz.func271, Tryz.ntmps271
  go_upto_if 6 with (fail)
  go_cut [6] (fun v6 wc => ∃ (kq : Nat) (x6_2 : Bool), v6 = .bool x6_2 ∧ Aside0 (model_Legal.j0 kq a0 a1 x6_2 = some r) ∧ Aside0 (kq ≤ k) ∧ Drawn0 w wc)
  case first =>
    have H := HC3.out
    clear HC3
    by_cases c4 : a1 = 1
    · rw [if_pos c4] at H
      have c4b0 : (a1 == 1) = true := beq_iff_eq.mpr c4
      have c4b1 : (a1 != 1) = false := bne_eq_false_iff_eq.mpr c4
      clear c4
      (first | rw [c4b0] | (simp only [i64_w, i32_w]; rw [c4b0]) | skip)
      have H' := am H
      clear H
      go_wp2
      go_meet
      case rel => exact ⟨_, ((a1 == 1)), (ze), H', ⟨by first | omega | exact Nat.le_refl _⟩, zd⟩
    · rw [if_neg c4] at H
      have c4b0 : (a1 == 1) = false := beq_eq_false_iff_ne.mpr c4
      have c4b1 : (a1 != 1) = true := bne_iff_ne.mpr c4
      (first | rw [c4b0] | (simp only [i64_w, i32_w]; rw [c4b0]) | skip)
      have H' := am H
      clear H
      go_wp2
      go_meet
      case rel => exact ⟨_, ((a1 == 5)), (ze), H', ⟨by first | omega | exact Nat.le_refl _⟩, zd⟩
  case rest =>
    clear HC3
    try clear c2
    try clear p2
    try clear c4
    try clear c4b0
    try clear c4b1
    obtain ⟨kq, x6_2, rfl, HA, HJ2, ⟨mc2, rfl⟩⟩ := hcut
    cases kq with
    | zero => exact absurd HA.out (by simp [model_Legal.j0])
    | succ kj2 =>
      have H := HA.out
      clear HA
      simp only [model_Legal.j0] at H
      by_cases c5 : x6_2 = true
      · subst c5
        have H1 : (if a0 ≥ 1 then (some (decide (a0 ≤ 5))) else (some false)) = some r := by rw [if_pos rfl] at H; exact H
        clear H
        have H := H1
        clear H1
        by_cases c6 : a0 ≥ 1
        · rw [if_pos c6] at H
          have c6b0 : decide (1 ≤ a0) = true := decide_eq_true c6
          clear c6
          obtain rfl := Option.some.inj H
          go_wp2
          go_ret
          exact ⟨ze, zd⟩
        · rw [if_neg c6] at H
          have c6b0 : decide (1 ≤ a0) = false := decide_eq_false c6
          clear c6
          obtain rfl := Option.some.inj H
          go_wp2
          go_ret
          exact ⟨ze, zd⟩
      · replace c5 := Bool.eq_false_iff.mpr c5
        subst c5
        have H1 : (if a1 = 2 then (model_Legal.j1 kj2 a0 a1 (a1 == 2)) else (model_Legal.j1 kj2 a0 a1 (a1 == 3))) = some r := by rw [if_neg (show ¬ (false = true) by decide)] at H; exact H
        clear H
        have H := H1
        clear H1
        have HC7 := am H
        clear H
        go_upto_if 15 with (fail)
        go_cut [15] (fun v15 wc => ∃ (kq : Nat) (x15_6 : Bool), v15 = .bool x15_6 ∧ Aside0 (model_Legal.j1 kq a0 a1 x15_6 = some r) ∧ Aside0 (kq ≤ kj2) ∧ Drawn0 w wc)
        case first =>
          have H := HC7.out
          clear HC7
          by_cases c8 : a1 = 2
          · rw [if_pos c8] at H
            have c8b0 : (a1 == 2) = true := beq_iff_eq.mpr c8
            have c8b1 : (a1 != 2) = false := bne_eq_false_iff_eq.mpr c8
            clear c8
            (first | rw [c8b0] | (simp only [i64_w, i32_w]; rw [c8b0]) | skip)
            have H' := am H
            clear H
            go_wp2
            go_meet
            case rel => exact ⟨_, ((a1 == 2)), (ze), H', ⟨by have := HJ2.out; first | omega | exact Nat.le_refl _⟩, zd⟩
          · rw [if_neg c8] at H
            have c8b0 : (a1 == 2) = false := beq_eq_false_iff_ne.mpr c8
            have c8b1 : (a1 != 2) = true := bne_iff_ne.mpr c8
            (first | rw [c8b0] | (simp only [i64_w, i32_w]; rw [c8b0]) | skip)
            have H' := am H
            clear H
            go_wp2
            go_meet
            case rel => exact ⟨_, ((a1 == 3)), (ze), H', ⟨by have := HJ2.out; first | omega | exact Nat.le_refl _⟩, zd⟩
        case rest =>
          clear HC7
          try clear c2
          try clear p2
          try clear c4
          try clear c4b0
          try clear c4b1
          try clear c5
          try clear c6
          try clear c6b0
          try clear c8
          try clear c8b0
          try clear c8b1
          try clear p2
          obtain ⟨kq, x15_6, rfl, HA, HJ6, ⟨mc6, rfl⟩⟩ := hcut
          cases kq with
          | zero => exact absurd HA.out (by simp [model_Legal.j1])
          | succ kj6 =>
            have H := HA.out
            clear HA
            simp only [model_Legal.j1] at H
            by_cases c9 : x15_6 = true
            · subst c9
              have H1 : (if a0 = 1 then (some true) else (some (a0 == 2))) = some r := by rw [if_pos rfl] at H; exact H
              clear H
              have H := H1
              clear H1
              by_cases c10 : a0 = 1
              · rw [if_pos c10] at H
                have c10b0 : (a0 == 1) = true := beq_iff_eq.mpr c10
                have c10b1 : (a0 != 1) = false := bne_eq_false_iff_eq.mpr c10
                clear c10
                obtain rfl := Option.some.inj H
                go_wp2
                go_ret
                exact ⟨ze, zd⟩
              · rw [if_neg c10] at H
                have c10b0 : (a0 == 1) = false := beq_eq_false_iff_ne.mpr c10
                have c10b1 : (a0 != 1) = true := bne_iff_ne.mpr c10
                obtain rfl := Option.some.inj H
                go_wp2
                go_ret
                exact ⟨ze, zd⟩
            · replace c9 := Bool.eq_false_iff.mpr c9
              subst c9
              have H1 : (if a1 = 4 then (if a0 ≥ 3 then (some (decide (a0 ≤ 5))) else (some false)) else (some false)) = some r := by rw [if_neg (show ¬ (false = true) by decide)] at H; exact H
              clear H
              have H := H1
              clear H1
              by_cases c11 : a1 = 4
              · rw [if_pos c11] at H
                have c11b0 : (a1 == 4) = true := beq_iff_eq.mpr c11
                have c11b1 : (a1 != 4) = false := bne_eq_false_iff_eq.mpr c11
                clear c11
                by_cases c12 : a0 ≥ 3
                · rw [if_pos c12] at H
                  have c12b0 : decide (3 ≤ a0) = true := decide_eq_true c12
                  clear c12
                  obtain rfl := Option.some.inj H
                  go_wp2
                  go_ret
                  exact ⟨ze, zd⟩
                · rw [if_neg c12] at H
                  have c12b0 : decide (3 ≤ a0) = false := decide_eq_false c12
                  clear c12
                  obtain rfl := Option.some.inj H
                  go_wp2
                  go_ret
                  exact ⟨ze, zd⟩
              · rw [if_neg c11] at H
                have c11b0 : (a1 == 4) = false := beq_eq_false_iff_ne.mpr c11
                have c11b1 : (a1 != 4) = true := bne_iff_ne.mpr c11
                obtain rfl := Option.some.inj H
                go_wp2
                go_ret
                exact ⟨ze, zd⟩
end Go.Proofs.YtpbembafpnknhaaGreat.Pr
namespace Go.Proofs.YtpbembafpnknhaaGreat.Pr
open Go.RowKit Go.Proofs.YtpbembafpnknhaaGreatW.PrintWords Go.Proofs.YtpbembafpnknhaaGreatW.PrintLast Go.Proofs.YtpbembafpnknhaaGreatW.PrintMore
attribute [local go_sem] max2_int min2_int max_two min_two max_three min_three max_four min_four   -- for this text's walks alone
set_option linter.unusedVariables false
set_option linter.unusedSimpArgs false
def model_isOn.f (k : Nat) (l0_0 : List ByteArray) (l0_1 : List (S47)) (a1_0 : ByteArray) (a1_1 : Int) : Option (Bool) := (model_Place.f l0_0 l0_1 a1_0).bind fun t103 => (if t103 ≥ 0 then (if 0 ≤ t103 then (if t103 < (l0_1.length : Int) then ((model_Legal.f k ((rd_T47 l0_1 t103).f1) a1_1).bind fun t105 => (some t105)) else (none)) else (none)) else (some false))
theorem model_isOn.mono : ∀ a0 a1 a2 a3 k, LeO (model_isOn.f k a0 a1 a2 a3) (model_isOn.f (k + 1) a0 a1 a2 a3) := by
  intro a0 a1 a2 a3 k
  unfold model_isOn.f
  repeat' first
      | (with_reducible exact model_Legal.mono _ _ _)
      | (with_reducible exact LeO.refl _)
      | (with_reducible exact LeO.none _)
      | (with_reducible refine LeO.ite ?_ ?_)
      | (with_reducible refine LeO.bind ?_ (fun _ => ?_))
      | exact model_Legal.mono _ _ _
      | exact LeO.none _
      | refine LeO.ite ?_ ?_
      | refine LeO.bind ?_ (fun _ => ?_)
set_option maxHeartbeats 8000000 in
set_option maxRecDepth 100000 in
theorem model_isOn.calls (k : Nat) (A0_0 : Option Addr) (c0_0 : Nat) (l0_0 : List ByteArray) (A0_1 : Option Addr) (c0_1 : Nat) (l0_1 : List (S47)) (a1_0 : ByteArray) (a1_1 : Int) (r : Bool) (w : World) (hr0_0 : Kd.C Kd.string w A0_0 l0_0.length l0_0) (hc0_0 : l0_0.length ≤ c0_0) (hr0_1 : Kd.C k47 w A0_1 l0_1.length l0_1) (hc0_1 : l0_1.length ≤ c0_1) (h : model_isOn.f k l0_0 l0_1 a1_0 a1_1 = some r) :
    Calls Tryz.prog 236 #[.agg #[.slice A0_0 l0_0.length c0_0, .slice A0_1 l0_1.length c0_1], .agg #[.string a1_0, .int .i64 a1_1]] w fun e w' => e = .returned (.bool r) ∧ Below w.heap.size w w' := by
  have hu25 := Tryz.underlying25
  have hu78 := Tryz.underlying78
  have HR0_0 := am hr0_0
  have HC0_0 := am hc0_0
  clear hr0_0 hc0_0
  have HR0_1 := am hr0_1
  have HC0_1 := am hc0_1
  clear hr0_1 hc0_1
  have HB := am (Below.refl w.heap.size w)
  have H : ((model_Place.f l0_0 l0_1 a1_0).bind fun t103 => (if t103 ≥ 0 then (if 0 ≤ t103 then (if t103 < (l0_1.length : Int) then ((model_Legal.f k ((rd_T47 l0_1 t103).f1) a1_1).bind fun t105 => (some t105)) else (none)) else (none)) else (some false))) = some r := h
  clear h
  replace H := Option.bind_eq_some_iff.mp H
  obtain ⟨t103, A30, H⟩ := H
  replace H : (if t103 ≥ 0 then (if 0 ≤ t103 then (if t103 < (l0_1.length : Int) then ((model_Legal.f k ((rd_T47 l0_1 t103).f1) a1_1).bind fun t105 => (some t105)) else (none)) else (none)) else (some false)) = some r := H
  have A3 := am A30
  clear A30
  by_cases c4 : t103 ≥ 0
  · rw [if_pos c4] at H
    have c4b0 : decide (0 ≤ t103) = true := decide_eq_true c4
    clear c4
    by_cases c5 : 0 ≤ t103
    · rw [if_pos c5] at H
      have c5b0 : decide (0 ≤ t103) = true := decide_eq_true c5
      clear c5
      by_cases c6 : t103 < (l0_1.length : Int)
      · rw [if_pos c6] at H
        have c6b0 : decide (t103 < (l0_1.length : Int)) = true := decide_eq_true c6
        clear c6
        replace H := Option.bind_eq_some_iff.mp H
        obtain ⟨t105, A70, H⟩ := H
        replace H : (some t105) = some r := H
        have A7 := am A70
        clear A70
        obtain rfl := Option.some.inj H
        go_enter Tryz.func236, Tryz.ntmps236
        go_wp2_with (first | ((with_reducible refine gd_ 2 ?_); refine bx_ 2 #[.slice A0_0 l0_0.length c0_0, .slice A0_1 l0_1.length c0_1] 25 ?_; intro gb101 hg w8 hbox hb; have BK101 := am (hbox); have GW101 := am (zg : w.heap.size ≤ gb101); have GE101 := am (zg : w.heap.size ≤ gb101); replace HB := am (below_step (zb) hb); clear hb hbox hg) | ((with_reducible refine gd_ 3 ?_); refine bx_ 3 #[.string a1_0, .int .i64 a1_1] 78 ?_; intro gb102 hg w9 hbox hb; have BK102 := am (hbox); have GW102 := am (zg : w.heap.size ≤ gb102); have GE102 := am (zg : w.heap.size ≤ gb102); replace HB := am (below_step (zb) hb); have NB101_102 := am ((zn BK101.out : gb101 ≠ gb102)); have NB102_101 := am ((zm BK101.out : gb102 ≠ gb101)); replace BK101 := am (zw BK101.out hb); clear hb hbox hg; have hnb10 := NB101_102.out; have hnc10 := NB102_101.out; obtain ⟨hcz11_0, hcz11_1, hfz11_0, hfz11_1⟩ := cf2 BK101.out; obtain ⟨hcz12_0, hcz12_1, hfz12_0, hfz12_1⟩ := cf2 BK102.out) | (go_at_call 151; (with_reducible refine (model_Place.calls _ _ l0_0 _ _ l0_1 a1_0 t103 _ ?side1 ?side2 ?side3 ?side4 A3.out).mono ?_); (case side1 => exact zc (Kd.C_below HR0_0.out HB.out)); (case side2 => exact HC0_0.out); (case side3 => exact zc (Kd.C_below HR0_1.out HB.out)); (case side4 => exact HC0_1.out); rintro e w13 ⟨rfl, hb⟩; replace BK101 := am (zw BK101.out hb); replace BK102 := am (zw BK102.out hb); replace HB := am (below_step (zb) hb); (try clear hb); (try clear hb2); (try clear hk); (try clear hi); obtain ⟨hcz14_0, hcz14_1, hfz14_0, hfz14_1⟩ := cf2 BK101.out; have p104 : 0 ≤ (t103 : Int) := of_decide_eq_true (zas); have q104 : t103 < (l0_1.length : Int) := of_decide_eq_true (zas); obtain ⟨ad104, A104_5, c104_5, A104_6, c104_6, e104, hx104_0, hx104_1, hx104_2, hx104_3, hx104_4, hx104_5, hx104_6, hl104_5, hi104_5, hl104_6, hi104_6⟩ := at_T47 HR0_1.out t103 p104 q104; cases e104; replace hx104_0 := ba HB hx104_0; replace hx104_1 := ba HB hx104_1; replace hx104_2 := ba HB hx104_2; replace hx104_3 := ba HB hx104_3; replace hx104_4 := ba HB hx104_4; replace hx104_5 := ba HB hx104_5; replace hx104_6 := ba HB hx104_6; have HR104_5 := am hi104_5; have HC104_5 := am hl104_5; clear hi104_5 hl104_5; have HR104_6 := am hi104_6; have HC104_6 := am hl104_6; clear hi104_6 hl104_6; replace p104 := eq_true p104; replace q104 := eq_true q104; obtain ⟨hcz15_0, hcz15_1, hfz15_0, hfz15_1⟩ := cf2 BK102.out) | (go_at_call 271; (with_reducible refine (model_Legal.calls k ((rd_T47 l0_1 t103).f1) a1_1 t105 _ A7.out).mono ?_); rintro e w' ⟨rfl, ⟨nd, rfl⟩⟩; (try first | exact ⟨rfl, _, World.drewN_drewN _ _ _⟩ | exact ⟨rfl, _, Eq.trans (World.drewN_drewN _ _ _) (congrArg (World.drewN _) (Nat.add_assoc _ _ _))⟩)))
        repeat (go_quiet (first | ((with_reducible refine gd_ 2 ?_); refine bx_ 2 #[.slice A0_0 l0_0.length c0_0, .slice A0_1 l0_1.length c0_1] 25 ?_; intro gb101 hg w8 hbox hb; have BK101 := am (hbox); have GW101 := am (zg : w.heap.size ≤ gb101); have GE101 := am (zg : w.heap.size ≤ gb101); replace HB := am (below_step (zb) hb); clear hb hbox hg) | ((with_reducible refine gd_ 3 ?_); refine bx_ 3 #[.string a1_0, .int .i64 a1_1] 78 ?_; intro gb102 hg w9 hbox hb; have BK102 := am (hbox); have GW102 := am (zg : w.heap.size ≤ gb102); have GE102 := am (zg : w.heap.size ≤ gb102); replace HB := am (below_step (zb) hb); have NB101_102 := am ((zn BK101.out : gb101 ≠ gb102)); have NB102_101 := am ((zm BK101.out : gb102 ≠ gb101)); replace BK101 := am (zw BK101.out hb); clear hb hbox hg; have hnb10 := NB101_102.out; have hnc10 := NB102_101.out; obtain ⟨hcz11_0, hcz11_1, hfz11_0, hfz11_1⟩ := cf2 BK101.out; obtain ⟨hcz12_0, hcz12_1, hfz12_0, hfz12_1⟩ := cf2 BK102.out) | (go_at_call 151; (with_reducible refine (model_Place.calls _ _ l0_0 _ _ l0_1 a1_0 t103 _ ?side1 ?side2 ?side3 ?side4 A3.out).mono ?_); (case side1 => exact zc (Kd.C_below HR0_0.out HB.out)); (case side2 => exact HC0_0.out); (case side3 => exact zc (Kd.C_below HR0_1.out HB.out)); (case side4 => exact HC0_1.out); rintro e w13 ⟨rfl, hb⟩; replace BK101 := am (zw BK101.out hb); replace BK102 := am (zw BK102.out hb); replace HB := am (below_step (zb) hb); (try clear hb); (try clear hb2); (try clear hk); (try clear hi); obtain ⟨hcz14_0, hcz14_1, hfz14_0, hfz14_1⟩ := cf2 BK101.out; have p104 : 0 ≤ (t103 : Int) := of_decide_eq_true (zas); have q104 : t103 < (l0_1.length : Int) := of_decide_eq_true (zas); obtain ⟨ad104, A104_5, c104_5, A104_6, c104_6, e104, hx104_0, hx104_1, hx104_2, hx104_3, hx104_4, hx104_5, hx104_6, hl104_5, hi104_5, hl104_6, hi104_6⟩ := at_T47 HR0_1.out t103 p104 q104; cases e104; replace hx104_0 := ba HB hx104_0; replace hx104_1 := ba HB hx104_1; replace hx104_2 := ba HB hx104_2; replace hx104_3 := ba HB hx104_3; replace hx104_4 := ba HB hx104_4; replace hx104_5 := ba HB hx104_5; replace hx104_6 := ba HB hx104_6; have HR104_5 := am hi104_5; have HC104_5 := am hl104_5; clear hi104_5 hl104_5; have HR104_6 := am hi104_6; have HC104_6 := am hl104_6; clear hi104_6 hl104_6; replace p104 := eq_true p104; replace q104 := eq_true q104; obtain ⟨hcz15_0, hcz15_1, hfz15_0, hfz15_1⟩ := cf2 BK102.out) | (go_at_call 271; (with_reducible refine (model_Legal.calls k ((rd_T47 l0_1 t103).f1) a1_1 t105 _ A7.out).mono ?_); rintro e w' ⟨rfl, ⟨nd, rfl⟩⟩; (try first | exact ⟨rfl, _, World.drewN_drewN _ _ _⟩ | exact ⟨rfl, _, Eq.trans (World.drewN_drewN _ _ _) (congrArg (World.drewN _) (Nat.add_assoc _ _ _))⟩))); try go_wp2_with (first | ((with_reducible refine gd_ 2 ?_); refine bx_ 2 #[.slice A0_0 l0_0.length c0_0, .slice A0_1 l0_1.length c0_1] 25 ?_; intro gb101 hg w8 hbox hb; have BK101 := am (hbox); have GW101 := am (zg : w.heap.size ≤ gb101); have GE101 := am (zg : w.heap.size ≤ gb101); replace HB := am (below_step (zb) hb); clear hb hbox hg) | ((with_reducible refine gd_ 3 ?_); refine bx_ 3 #[.string a1_0, .int .i64 a1_1] 78 ?_; intro gb102 hg w9 hbox hb; have BK102 := am (hbox); have GW102 := am (zg : w.heap.size ≤ gb102); have GE102 := am (zg : w.heap.size ≤ gb102); replace HB := am (below_step (zb) hb); have NB101_102 := am ((zn BK101.out : gb101 ≠ gb102)); have NB102_101 := am ((zm BK101.out : gb102 ≠ gb101)); replace BK101 := am (zw BK101.out hb); clear hb hbox hg; have hnb10 := NB101_102.out; have hnc10 := NB102_101.out; obtain ⟨hcz11_0, hcz11_1, hfz11_0, hfz11_1⟩ := cf2 BK101.out; obtain ⟨hcz12_0, hcz12_1, hfz12_0, hfz12_1⟩ := cf2 BK102.out) | (go_at_call 151; (with_reducible refine (model_Place.calls _ _ l0_0 _ _ l0_1 a1_0 t103 _ ?side1 ?side2 ?side3 ?side4 A3.out).mono ?_); (case side1 => exact zc (Kd.C_below HR0_0.out HB.out)); (case side2 => exact HC0_0.out); (case side3 => exact zc (Kd.C_below HR0_1.out HB.out)); (case side4 => exact HC0_1.out); rintro e w13 ⟨rfl, hb⟩; replace BK101 := am (zw BK101.out hb); replace BK102 := am (zw BK102.out hb); replace HB := am (below_step (zb) hb); (try clear hb); (try clear hb2); (try clear hk); (try clear hi); obtain ⟨hcz14_0, hcz14_1, hfz14_0, hfz14_1⟩ := cf2 BK101.out; have p104 : 0 ≤ (t103 : Int) := of_decide_eq_true (zas); have q104 : t103 < (l0_1.length : Int) := of_decide_eq_true (zas); obtain ⟨ad104, A104_5, c104_5, A104_6, c104_6, e104, hx104_0, hx104_1, hx104_2, hx104_3, hx104_4, hx104_5, hx104_6, hl104_5, hi104_5, hl104_6, hi104_6⟩ := at_T47 HR0_1.out t103 p104 q104; cases e104; replace hx104_0 := ba HB hx104_0; replace hx104_1 := ba HB hx104_1; replace hx104_2 := ba HB hx104_2; replace hx104_3 := ba HB hx104_3; replace hx104_4 := ba HB hx104_4; replace hx104_5 := ba HB hx104_5; replace hx104_6 := ba HB hx104_6; have HR104_5 := am hi104_5; have HC104_5 := am hl104_5; clear hi104_5 hl104_5; have HR104_6 := am hi104_6; have HC104_6 := am hl104_6; clear hi104_6 hl104_6; replace p104 := eq_true p104; replace q104 := eq_true q104; obtain ⟨hcz15_0, hcz15_1, hfz15_0, hfz15_1⟩ := cf2 BK102.out) | (go_at_call 271; (with_reducible refine (model_Legal.calls k ((rd_T47 l0_1 t103).f1) a1_1 t105 _ A7.out).mono ?_); rintro e w' ⟨rfl, ⟨nd, rfl⟩⟩; (try first | exact ⟨rfl, _, World.drewN_drewN _ _ _⟩ | exact ⟨rfl, _, Eq.trans (World.drewN_drewN _ _ _) (congrArg (World.drewN _) (Nat.add_assoc _ _ _))⟩))))
        go_ret
        exact ⟨zf, zb⟩
      · rw [if_neg c6] at H
        exact absurd H (by simp)
    · rw [if_neg c5] at H
      exact absurd H (by simp)
  · rw [if_neg c4] at H
    have c4b0 : decide (0 ≤ t103) = false := decide_eq_false c4
    clear c4
    obtain rfl := Option.some.inj H
    go_enter Tryz.func236, Tryz.ntmps236
    go_wp2_with (first | ((with_reducible refine gd_ 2 ?_); refine bx_ 2 #[.slice A0_0 l0_0.length c0_0, .slice A0_1 l0_1.length c0_1] 25 ?_; intro gb101 hg w16 hbox hb; have BK101 := am (hbox); have GW101 := am (zg : w.heap.size ≤ gb101); have GE101 := am (zg : w.heap.size ≤ gb101); replace HB := am (below_step (zb) hb); clear hb hbox hg) | ((with_reducible refine gd_ 3 ?_); refine bx_ 3 #[.string a1_0, .int .i64 a1_1] 78 ?_; intro gb102 hg w17 hbox hb; have BK102 := am (hbox); have GW102 := am (zg : w.heap.size ≤ gb102); have GE102 := am (zg : w.heap.size ≤ gb102); replace HB := am (below_step (zb) hb); have NB101_102 := am ((zn BK101.out : gb101 ≠ gb102)); have NB102_101 := am ((zm BK101.out : gb102 ≠ gb101)); replace BK101 := am (zw BK101.out hb); clear hb hbox hg; have hnb18 := NB101_102.out; have hnc18 := NB102_101.out; obtain ⟨hcz19_0, hcz19_1, hfz19_0, hfz19_1⟩ := cf2 BK101.out; obtain ⟨hcz20_0, hcz20_1, hfz20_0, hfz20_1⟩ := cf2 BK102.out) | (go_at_call 151; (with_reducible refine (model_Place.calls _ _ l0_0 _ _ l0_1 a1_0 t103 _ ?side1 ?side2 ?side3 ?side4 A3.out).mono ?_); (case side1 => exact zc (Kd.C_below HR0_0.out HB.out)); (case side2 => exact HC0_0.out); (case side3 => exact zc (Kd.C_below HR0_1.out HB.out)); (case side4 => exact HC0_1.out); rintro e w21 ⟨rfl, hb⟩; replace BK101 := am (zw BK101.out hb); replace BK102 := am (zw BK102.out hb); replace HB := am (below_step (zb) hb); (try clear hb); (try clear hb2); (try clear hk); (try clear hi)))
    repeat (go_quiet (first | ((with_reducible refine gd_ 2 ?_); refine bx_ 2 #[.slice A0_0 l0_0.length c0_0, .slice A0_1 l0_1.length c0_1] 25 ?_; intro gb101 hg w16 hbox hb; have BK101 := am (hbox); have GW101 := am (zg : w.heap.size ≤ gb101); have GE101 := am (zg : w.heap.size ≤ gb101); replace HB := am (below_step (zb) hb); clear hb hbox hg) | ((with_reducible refine gd_ 3 ?_); refine bx_ 3 #[.string a1_0, .int .i64 a1_1] 78 ?_; intro gb102 hg w17 hbox hb; have BK102 := am (hbox); have GW102 := am (zg : w.heap.size ≤ gb102); have GE102 := am (zg : w.heap.size ≤ gb102); replace HB := am (below_step (zb) hb); have NB101_102 := am ((zn BK101.out : gb101 ≠ gb102)); have NB102_101 := am ((zm BK101.out : gb102 ≠ gb101)); replace BK101 := am (zw BK101.out hb); clear hb hbox hg; have hnb18 := NB101_102.out; have hnc18 := NB102_101.out; obtain ⟨hcz19_0, hcz19_1, hfz19_0, hfz19_1⟩ := cf2 BK101.out; obtain ⟨hcz20_0, hcz20_1, hfz20_0, hfz20_1⟩ := cf2 BK102.out) | (go_at_call 151; (with_reducible refine (model_Place.calls _ _ l0_0 _ _ l0_1 a1_0 t103 _ ?side1 ?side2 ?side3 ?side4 A3.out).mono ?_); (case side1 => exact zc (Kd.C_below HR0_0.out HB.out)); (case side2 => exact HC0_0.out); (case side3 => exact zc (Kd.C_below HR0_1.out HB.out)); (case side4 => exact HC0_1.out); rintro e w21 ⟨rfl, hb⟩; replace BK101 := am (zw BK101.out hb); replace BK102 := am (zw BK102.out hb); replace HB := am (below_step (zb) hb); (try clear hb); (try clear hb2); (try clear hk); (try clear hi))); try go_wp2_with (first | ((with_reducible refine gd_ 2 ?_); refine bx_ 2 #[.slice A0_0 l0_0.length c0_0, .slice A0_1 l0_1.length c0_1] 25 ?_; intro gb101 hg w16 hbox hb; have BK101 := am (hbox); have GW101 := am (zg : w.heap.size ≤ gb101); have GE101 := am (zg : w.heap.size ≤ gb101); replace HB := am (below_step (zb) hb); clear hb hbox hg) | ((with_reducible refine gd_ 3 ?_); refine bx_ 3 #[.string a1_0, .int .i64 a1_1] 78 ?_; intro gb102 hg w17 hbox hb; have BK102 := am (hbox); have GW102 := am (zg : w.heap.size ≤ gb102); have GE102 := am (zg : w.heap.size ≤ gb102); replace HB := am (below_step (zb) hb); have NB101_102 := am ((zn BK101.out : gb101 ≠ gb102)); have NB102_101 := am ((zm BK101.out : gb102 ≠ gb101)); replace BK101 := am (zw BK101.out hb); clear hb hbox hg; have hnb18 := NB101_102.out; have hnc18 := NB102_101.out; obtain ⟨hcz19_0, hcz19_1, hfz19_0, hfz19_1⟩ := cf2 BK101.out; obtain ⟨hcz20_0, hcz20_1, hfz20_0, hfz20_1⟩ := cf2 BK102.out) | (go_at_call 151; (with_reducible refine (model_Place.calls _ _ l0_0 _ _ l0_1 a1_0 t103 _ ?side1 ?side2 ?side3 ?side4 A3.out).mono ?_); (case side1 => exact zc (Kd.C_below HR0_0.out HB.out)); (case side2 => exact HC0_0.out); (case side3 => exact zc (Kd.C_below HR0_1.out HB.out)); (case side4 => exact HC0_1.out); rintro e w21 ⟨rfl, hb⟩; replace BK101 := am (zw BK101.out hb); replace BK102 := am (zw BK102.out hb); replace HB := am (below_step (zb) hb); (try clear hb); (try clear hb2); (try clear hk); (try clear hi))))
    go_ret
    exact ⟨zf, zb⟩
end Go.Proofs.YtpbembafpnknhaaGreat.Pr
namespace Go.Proofs.YtpbembafpnknhaaGreat.Pr
open Go.RowKit Go.Proofs.YtpbembafpnknhaaGreatW.PrintWords Go.Proofs.YtpbembafpnknhaaGreatW.PrintLast Go.Proofs.YtpbembafpnknhaaGreatW.PrintMore
attribute [local go_sem] max2_int min2_int max_two min_two max_three min_three max_four min_four   -- for this text's walks alone
set_option linter.unusedVariables false
set_option linter.unusedSimpArgs false
theorem eqA78 (d : Nat) (w : World) (x0 y0 : ByteArray) (x1 y1 : Int) :
    (Op.equalIn (d + 2) 78 (.agg #[.string x0, .int .i64 x1]) (.agg #[.string y0, .int .i64 y1])).run Tryz.prog w = .ok (x0.toList == y0.toList && (x1 == y1)) w := by
  refine eqA_of Tryz.underlying78 (by kernel_rfl) ?_
  refine eqf_cons (by rfl) (by go_simp; rfl) (by go_simp; rfl) (by go_simp) ?_
  exact eqf_last (by rfl) (by go_simp; rfl) (by go_simp; rfl) (by go_simp)
end Go.Proofs.YtpbembafpnknhaaGreat.Pr
namespace Go.Proofs.YtpbembafpnknhaaGreat.Pr
open Go.RowKit Go.Proofs.YtpbembafpnknhaaGreatW.PrintWords Go.Proofs.YtpbembafpnknhaaGreatW.PrintLast Go.Proofs.YtpbembafpnknhaaGreatW.PrintMore
attribute [local go_sem] max2_int min2_int max_two min_two max_three min_three max_four min_four   -- for this text's walks alone
set_option linter.unusedVariables false
set_option linter.unusedSimpArgs false
attribute [local go_sem high] eqA78
def api_On_272.l0 : Nat → List (S78) → Int → Int → ByteArray → Int → Option (Int)
  | 0, _, _, _, _, _ => none
  | k + 1, x0, x7, x8, x102000, x102001 => if x8 < x7 then (if 0 ≤ x8 then (if x8 < (x0.length : Int) then (if (x102000.toList == (((rd_T78 x0 x8).f0).toList) && (x102001 == ((rd_T78 x0 x8).f1))) = true then (some x8) else (api_On_272.l0 k x0 x7 (wrap64 (x8 + 1)) x102000 x102001)) else (none)) else (none)) else (some (-1))
def api_On_272.f (k : Nat) (l0 : List (S78)) (a1_0 : ByteArray) (a1_1 : Int) : Option (Int) := api_On_272.l0 k l0 (l0.length : Int) 0 a1_0 a1_1
theorem api_On_272.mono_l : ∀ k, (∀ y0 y1 y2 y3 y4, LeO (api_On_272.l0 k y0 y1 y2 y3 y4) (api_On_272.l0 (k + 1) y0 y1 y2 y3 y4))
  | 0 => fun _ _ _ _ _ r h => by simp [api_On_272.l0] at h
  | k + 1 => by
    have ih0 := api_On_272.mono_l k
    · intro y0 y1 y2 y3 y4
      unfold api_On_272.l0
      repeat' first
      | (with_reducible exact ih0 _ _ _ _ _)
      | (with_reducible exact LeO.refl _)
      | (with_reducible exact LeO.none _)
      | (with_reducible refine LeO.ite ?_ ?_)
      | (with_reducible refine LeO.bind ?_ (fun _ => ?_))
      | exact ih0 _ _ _ _ _
      | exact LeO.none _
      | refine LeO.ite ?_ ?_
      | refine LeO.bind ?_ (fun _ => ?_)
theorem api_On_272.mono : ∀ a0 a1 a2 k, LeO (api_On_272.f k a0 a1 a2) (api_On_272.f (k + 1) a0 a1 a2) := by
  intro a0 a1 a2 k
  have ih0 := api_On_272.mono_l k
  unfold api_On_272.f
  repeat' first
      | (with_reducible exact ih0 _ _ _ _ _)
      | (with_reducible exact LeO.refl _)
      | (with_reducible exact LeO.none _)
      | (with_reducible refine LeO.ite ?_ ?_)
      | (with_reducible refine LeO.bind ?_ (fun _ => ?_))
      | exact ih0 _ _ _ _ _
      | exact LeO.none _
      | refine LeO.ite ?_ ?_
      | refine LeO.bind ?_ (fun _ => ?_)
set_option maxHeartbeats 8000000 in
set_option maxRecDepth 100000 in
theorem api_On_272.calls (k : Nat) (A0 : Option Addr) (c0 : Nat) (l0 : List (S78)) (a1_0 : ByteArray) (a1_1 : Int) (r : Int) (w : World) (hr0 : Kd.C k78 w A0 l0.length l0) (hc0 : l0.length ≤ c0) (h : api_On_272.f k l0 a1_0 a1_1 = some r) :
    Calls Tryz.prog 272 #[.slice A0 l0.length c0, .agg #[.string a1_0, .int .i64 a1_1]] w fun e w' => e = .returned (.int .i64 r) ∧ Below w.heap.size w w' := by
  have hu78 := Tryz.underlying78
  have HR0 := am hr0
  have HC0 := am hc0
  clear hr0 hc0
  have HB := am (Below.refl w.heap.size w)
  have H : (api_On_272.l0 k l0 (l0.length : Int) 0 a1_0 a1_1) = some r := h
  clear h
  have H' := am H
  clear H
  go_enter Tryz.func272, Tryz.ntmps272
  go_wp2_with (first | ((with_reducible refine gd_ 3 ?_); refine bx_ 3 #[.string a1_0, .int .i64 a1_1] 78 ?_; intro gb101 hg w3 hbox hb; have BK101 := am (hbox); have GW101 := am (zg : w.heap.size ≤ gb101); have GE101 := am (zg : w.heap.size ≤ gb101); replace HB := am (below_step (zb) hb); clear hb hbox hg))
  repeat (go_quiet (first | ((with_reducible refine gd_ 3 ?_); refine bx_ 3 #[.string a1_0, .int .i64 a1_1] 78 ?_; intro gb101 hg w3 hbox hb; have BK101 := am (hbox); have GW101 := am (zg : w.heap.size ≤ gb101); have GE101 := am (zg : w.heap.size ≤ gb101); replace HB := am (below_step (zb) hb); clear hb hbox hg)); try go_wp2_with (first | ((with_reducible refine gd_ 3 ?_); refine bx_ 3 #[.string a1_0, .int .i64 a1_1] 78 ?_; intro gb101 hg w3 hbox hb; have BK101 := am (hbox); have GW101 := am (zg : w.heap.size ≤ gb101); have GE101 := am (zg : w.heap.size ≤ gb101); replace HB := am (below_step (zb) hb); clear hb hbox hg)))
  go_loopg [8] k (fun kq v8 w' => ∃ (x8_1 : Int), v8 = .int .i64 x8_1 ∧ Aside0 (api_On_272.l0 kq l0 (l0.length : Int) x8_1 a1_0 a1_1 = some r) ∧ Aside0 (kq ≤ k) ∧ Aside0 (w'.heap[gb101]? = some (.cells #[.string a1_0, .int .i64 a1_1] 78 (0, 0))) ∧ Aside0 (Below w.heap.size w w'))
  case atStart => exact ⟨(0), (ze), H', ⟨Nat.le_refl _⟩, ⟨zl BK101.out⟩, ⟨zb⟩⟩
  case round =>
    clear H'
    try clear c2
    try clear p2
    obtain ⟨x8_1, rfl, HA, HK1, BK101, HB⟩ := hrel
    cases gk with
    | zero => exact absurd HA.out (by simp [api_On_272.l0])
    | succ k1 =>
      have H := HA.out
      clear HA
      simp only [api_On_272.l0] at H
      by_cases c4 : x8_1 < (l0.length : Int)
      · rw [if_pos c4] at H
        have c4b0 : decide (x8_1 < (l0.length : Int)) = true := decide_eq_true c4
        clear c4
        by_cases c5 : 0 ≤ x8_1
        · rw [if_pos c5] at H
          have c5b0 : decide (0 ≤ x8_1) = true := decide_eq_true c5
          clear c5
          by_cases c6 : x8_1 < (l0.length : Int)
          · rw [if_pos c6] at H
            have c6b0 : decide (x8_1 < (l0.length : Int)) = true := decide_eq_true c6
            clear c6
            by_cases c7 : (a1_0.toList == (((rd_T78 l0 x8_1).f0).toList) && (a1_1 == ((rd_T78 l0 x8_1).f1))) = true
            · rw [if_pos c7] at H
              have c7b0 : (a1_0.toList == (((rd_T78 l0 x8_1).f0).toList) && (a1_1 == ((rd_T78 l0 x8_1).f1))) = true := c7
              (try (have c7b1 : decide (a1_0.toList = (((rd_T78 l0 x8_1).f0).toList) && (a1_1 == ((rd_T78 l0 x8_1).f1))) = true := by simpa using c7))
              (try (have c7b2 : (a1_0.toList == (((rd_T78 l0 x8_1).f0).toList) && (a1_1 == ((rd_T78 l0 x8_1).f1))) = true := by simpa using c7))
              clear c7
              obtain rfl := Option.some.inj H
              obtain ⟨hcz8_0, hcz8_1, hfz8_0, hfz8_1⟩ := cf2 BK101.out
              have p102 : 0 ≤ (x8_1 : Int) := of_decide_eq_true (zas)
              have q102 : x8_1 < (l0.length : Int) := of_decide_eq_true (zas)
              obtain ⟨ad102, e102, hx102_0, hx102_1⟩ := at_T78 HR0.out x8_1 p102 q102
              cases e102
              replace hx102_0 := ba HB hx102_0
              replace hx102_1 := ba HB hx102_1
              replace p102 := eq_true p102
              replace q102 := eq_true q102
              go_wp2
              repeat (go_quiet (fail); try go_wp2)
              go_ret
              exact ⟨zf, zb⟩
            · rw [if_neg c7] at H
              have c7b0 : (a1_0.toList == (((rd_T78 l0 x8_1).f0).toList) && (a1_1 == ((rd_T78 l0 x8_1).f1))) = false := by simpa using c7
              (try (have c7b1 : decide (a1_0.toList = (((rd_T78 l0 x8_1).f0).toList) && (a1_1 == ((rd_T78 l0 x8_1).f1))) = false := by simpa using c7))
              (try (have c7b2 : (a1_0.toList == (((rd_T78 l0 x8_1).f0).toList) && (a1_1 == ((rd_T78 l0 x8_1).f1))) = false := by simpa using c7))
              (try (have c7b3 : ¬ (a1_0.toList = (((rd_T78 l0 x8_1).f0).toList) && (a1_1 == ((rd_T78 l0 x8_1).f1))) := by simpa using c7))
              clear c7
              have H' := am H
              clear H
              obtain ⟨hcz9_0, hcz9_1, hfz9_0, hfz9_1⟩ := cf2 BK101.out
              have p102 : 0 ≤ (x8_1 : Int) := of_decide_eq_true (zas)
              have q102 : x8_1 < (l0.length : Int) := of_decide_eq_true (zas)
              obtain ⟨ad102, e102, hx102_0, hx102_1⟩ := at_T78 HR0.out x8_1 p102 q102
              cases e102
              replace hx102_0 := ba HB hx102_0
              replace hx102_1 := ba HB hx102_1
              replace p102 := eq_true p102
              replace q102 := eq_true q102
              go_wp2
              repeat (go_quiet (fail); try go_wp2)
              go_roundg k1
              case measure => have := HK1.out; omega
              case rel => exact ⟨(wrap64 (x8_1 + 1)), (ze), H', ⟨by have := HK1.out; omega⟩, ⟨zl BK101.out⟩, ⟨zb⟩⟩
          · rw [if_neg c6] at H
            exact absurd H (by simp)
        · rw [if_neg c5] at H
          exact absurd H (by simp)
      · rw [if_neg c4] at H
        have c4b0 : decide (x8_1 < (l0.length : Int)) = false := decide_eq_false c4
        clear c4
        obtain rfl := Option.some.inj H
        go_wp2
        repeat (go_quiet (fail); try go_wp2)
        go_ret
        exact ⟨zf, zb⟩
end Go.Proofs.YtpbembafpnknhaaGreat.Pr
namespace Go.Proofs.YtpbembafpnknhaaGreat.Pr
open Go.RowKit Go.Proofs.YtpbembafpnknhaaGreatW.PrintWords Go.Proofs.YtpbembafpnknhaaGreatW.PrintLast Go.Proofs.YtpbembafpnknhaaGreatW.PrintMore
attribute [local go_sem] max2_int min2_int max_two min_two max_three min_three max_four min_four   -- for this text's walks alone
set_option linter.unusedVariables false
set_option linter.unusedSimpArgs false
def api_On_237.f (k : Nat) (l0 : List (S78)) (a1_0 : ByteArray) (a1_1 : Int) : Option (Bool) := (api_On_272.f k l0 a1_0 a1_1).bind fun t102 => (some (decide (t102 ≥ 0)))
theorem api_On_237.mono : ∀ a0 a1 a2 k, LeO (api_On_237.f k a0 a1 a2) (api_On_237.f (k + 1) a0 a1 a2) := by
  intro a0 a1 a2 k
  unfold api_On_237.f
  repeat' first
      | (with_reducible exact api_On_272.mono _ _ _ _)
      | (with_reducible exact LeO.refl _)
      | (with_reducible exact LeO.none _)
      | (with_reducible refine LeO.ite ?_ ?_)
      | (with_reducible refine LeO.bind ?_ (fun _ => ?_))
      | exact api_On_272.mono _ _ _ _
      | exact LeO.none _
      | refine LeO.ite ?_ ?_
      | refine LeO.bind ?_ (fun _ => ?_)
set_option maxHeartbeats 8000000 in
set_option maxRecDepth 100000 in
theorem api_On_237.calls (k : Nat) (A0 : Option Addr) (c0 : Nat) (l0 : List (S78)) (a1_0 : ByteArray) (a1_1 : Int) (r : Bool) (w : World) (hr0 : Kd.C k78 w A0 l0.length l0) (hc0 : l0.length ≤ c0) (h : api_On_237.f k l0 a1_0 a1_1 = some r) :
    Calls Tryz.prog 237 #[.slice A0 l0.length c0, .agg #[.string a1_0, .int .i64 a1_1]] w fun e w' => e = .returned (.bool r) ∧ Below w.heap.size w w' := by
  have hu78 := Tryz.underlying78
  have HR0 := am hr0
  have HC0 := am hc0
  clear hr0 hc0
  have HB := am (Below.refl w.heap.size w)
  have H : ((api_On_272.f k l0 a1_0 a1_1).bind fun t102 => (some (decide (t102 ≥ 0)))) = some r := h
  clear h
  replace H := Option.bind_eq_some_iff.mp H
  obtain ⟨t102, A30, H⟩ := H
  replace H : (some (decide (t102 ≥ 0))) = some r := H
  have A3 := am A30
  clear A30
  obtain rfl := Option.some.inj H
  go_enter Tryz.func237, Tryz.ntmps237
  go_wp2_with (first | ((with_reducible refine gd_ 3 ?_); refine bx_ 3 #[.string a1_0, .int .i64 a1_1] 78 ?_; intro gb101 hg w4 hbox hb; have BK101 := am (hbox); have GW101 := am (zg : w.heap.size ≤ gb101); have GE101 := am (zg : w.heap.size ≤ gb101); replace HB := am (below_step (zb) hb); clear hb hbox hg; obtain ⟨hcz5_0, hcz5_1, hfz5_0, hfz5_1⟩ := cf2 BK101.out) | ((with_reducible refine gc_ 272 ?_); refine goesL_ (some 7) rfl rfl Tryz.func272 (by kernel_rfl) rfl #[.slice A0 l0.length c0, .agg #[.string a1_0, .int .i64 a1_1]] rfl (za) ?_; (with_reducible refine (api_On_272.calls k _ _ l0 a1_0 a1_1 t102 _ ?side1 ?side2 A3.out).mono ?_); (case side1 => exact zc (Kd.C_below HR0.out HB.out)); (case side2 => exact HC0.out); rintro e w6 ⟨rfl, hb⟩; refine ⟨_, rfl, ?_⟩; replace BK101 := am (zw BK101.out hb); replace HB := am (below_step (zb) hb); (try clear hb); (try clear hb2); (try clear hk); (try clear hi)))
  go_ret
  exact ⟨zf, zb⟩
end Go.Proofs.YtpbembafpnknhaaGreat.Pr
namespace Go.Proofs.YtpbembafpnknhaaGreat.Pr
open Go.RowKit Go.Proofs.YtpbembafpnknhaaGreatW.PrintWords Go.Proofs.YtpbembafpnknhaaGreatW.PrintLast Go.Proofs.YtpbembafpnknhaaGreatW.PrintMore
attribute [local go_sem] max2_int min2_int max_two min_two max_three min_three max_four min_four   -- for this text's walks alone
set_option linter.unusedVariables false
set_option linter.unusedSimpArgs false
mutual
def model_isSentry.j0 : Nat → Bool → List ByteArray → List (S47) → List (S78) → List (S93) → Option (Bool)
  | 0, _, _, _, _, _ => none
  | k + 1, x26, x102000, x102001, x103000, x103001 => if x26 = true then (some false) else (model_isSentry.l0 k x103000 (x103000.length : Int) 0 x102000 x102001 x103000 x103001)
def model_isSentry.l0 : Nat → List (S78) → Int → Int → List ByteArray → List (S47) → List (S78) → List (S93) → Option (Bool)
  | 0, _, _, _, _, _, _, _ => none
  | k + 1, x28, x29, x30, x102000, x102001, x103000, x103001 => if x30 < x29 then (if 0 ≤ x30 then (if x30 < (x28.length : Int) then ((model_isOn.f k x102000 x102001 ((rd_T78 x28 x30).f0) ((rd_T78 x28 x30).f1)).bind fun t106 => (if t106 = true then (if x30 ≤ (x103000.length : Int) then ((api_On_237.f k (x103000.take (x30 : Int).toNat) ((rd_T78 x28 x30).f0) ((rd_T78 x28 x30).f1)).bind fun t111 => (if t111 = true then (some false) else (model_isSentry.l0 k x28 x29 (wrap64 (x30 + 1)) x102000 x102001 x103000 x103001))) else (none)) else (some false))) else (none)) else (none)) else ((api_Cond_238.f k x103001 x102000 x102001).bind fun t103 => (some (!t103)))
end
def model_isSentry.f (k : Nat) (l0_0 : List ByteArray) (l0_1 : List (S47)) (l1_0 : List (S78)) (l1_1 : List (S93)) : Option (Bool) := if (l1_0.length : Int) > 3 then (model_isSentry.j0 k true l0_0 l0_1 l1_0 l1_1) else (if (l1_1.length : Int) > 2 then (model_isSentry.j0 k true l0_0 l0_1 l1_0 l1_1) else (model_isSentry.j0 k ((wrap64 ((l1_0.length : Int) + (l1_1.length : Int))) == 0) l0_0 l0_1 l1_0 l1_1))
theorem model_isSentry.mono_l : ∀ k, (∀ y0 y1 y2 y3 y4, LeO (model_isSentry.j0 k y0 y1 y2 y3 y4) (model_isSentry.j0 (k + 1) y0 y1 y2 y3 y4)) ∧ (∀ y0 y1 y2 y3 y4 y5 y6, LeO (model_isSentry.l0 k y0 y1 y2 y3 y4 y5 y6) (model_isSentry.l0 (k + 1) y0 y1 y2 y3 y4 y5 y6))
  | 0 => ⟨fun _ _ _ _ _ r h => by simp [model_isSentry.j0] at h, fun _ _ _ _ _ _ _ r h => by simp [model_isSentry.l0] at h⟩
  | k + 1 => by
    obtain ⟨ih0, ih1⟩ := model_isSentry.mono_l k
    refine ⟨?_, ?_⟩
    · intro y0 y1 y2 y3 y4
      unfold model_isSentry.j0
      repeat' first
      | (with_reducible exact ih0 _ _ _ _ _)
      | (with_reducible exact ih1 _ _ _ _ _ _ _)
      | (with_reducible exact api_Cond_238.mono _ _ _ _)
      | (with_reducible exact api_On_237.mono _ _ _ _)
      | (with_reducible exact model_isOn.mono _ _ _ _ _)
      | (with_reducible exact LeO.refl _)
      | (with_reducible exact LeO.none _)
      | (with_reducible refine LeO.ite ?_ ?_)
      | (with_reducible refine LeO.bind ?_ (fun _ => ?_))
      | exact ih0 _ _ _ _ _
      | exact ih1 _ _ _ _ _ _ _
      | exact api_Cond_238.mono _ _ _ _
      | exact api_On_237.mono _ _ _ _
      | exact model_isOn.mono _ _ _ _ _
      | exact LeO.none _
      | refine LeO.ite ?_ ?_
      | refine LeO.bind ?_ (fun _ => ?_)
    · intro y0 y1 y2 y3 y4 y5 y6
      unfold model_isSentry.l0
      repeat' first
      | (with_reducible exact ih0 _ _ _ _ _)
      | (with_reducible exact ih1 _ _ _ _ _ _ _)
      | (with_reducible exact api_Cond_238.mono _ _ _ _)
      | (with_reducible exact api_On_237.mono _ _ _ _)
      | (with_reducible exact model_isOn.mono _ _ _ _ _)
      | (with_reducible exact LeO.refl _)
      | (with_reducible exact LeO.none _)
      | (with_reducible refine LeO.ite ?_ ?_)
      | (with_reducible refine LeO.bind ?_ (fun _ => ?_))
      | exact ih0 _ _ _ _ _
      | exact ih1 _ _ _ _ _ _ _
      | exact api_Cond_238.mono _ _ _ _
      | exact api_On_237.mono _ _ _ _
      | exact model_isOn.mono _ _ _ _ _
      | exact LeO.none _
      | refine LeO.ite ?_ ?_
      | refine LeO.bind ?_ (fun _ => ?_)
theorem model_isSentry.mono : ∀ a0 a1 a2 a3 k, LeO (model_isSentry.f k a0 a1 a2 a3) (model_isSentry.f (k + 1) a0 a1 a2 a3) := by
  intro a0 a1 a2 a3 k
  obtain ⟨ih0, ih1⟩ := model_isSentry.mono_l k
  unfold model_isSentry.f
  repeat' first
      | (with_reducible exact ih0 _ _ _ _ _)
      | (with_reducible exact ih1 _ _ _ _ _ _ _)
      | (with_reducible exact api_Cond_238.mono _ _ _ _)
      | (with_reducible exact api_On_237.mono _ _ _ _)
      | (with_reducible exact model_isOn.mono _ _ _ _ _)
      | (with_reducible exact LeO.refl _)
      | (with_reducible exact LeO.none _)
      | (with_reducible refine LeO.ite ?_ ?_)
      | (with_reducible refine LeO.bind ?_ (fun _ => ?_))
      | exact ih0 _ _ _ _ _
      | exact ih1 _ _ _ _ _ _ _
      | exact api_Cond_238.mono _ _ _ _
      | exact api_On_237.mono _ _ _ _
      | exact model_isOn.mono _ _ _ _ _
      | exact LeO.none _
      | refine LeO.ite ?_ ?_
      | refine LeO.bind ?_ (fun _ => ?_)
def model_isSentry.T6 : Bool × List (List Nat × List Nat) := (true, [([], []), ([], []), ([0, 1], [0, 1]), ([2], [2]), ([3, 2], [3]), ([4], [4]), ([5, 4], [4, 5]), ([4], [4]), ([6, 7, 4], [4, 6, 7]), ([4], [4]), ([8, 9, 4, 4], [4, 8, 9]), ([4, 10], [4, 10])])
def model_isSentry.B6 : List Nat := [0, 0, 3, 7, 15, 31, 63, 31, 255, 31, 1023, 2047]
theorem model_isSentry.tab6 : rtab .any (opsOf Tryz.f212 6) = model_isSentry.T6 := by kernel_rfl
theorem model_isSentry.bits6 : waitsOk model_isSentry.T6.2 model_isSentry.B6 = true := by kernel_rfl
set_option maxHeartbeats 8000000 in
set_option maxRecDepth 100000 in
theorem model_isSentry.calls (k : Nat) (A0_0 : Option Addr) (c0_0 : Nat) (l0_0 : List ByteArray) (A0_1 : Option Addr) (c0_1 : Nat) (l0_1 : List (S47)) (A1_0 : Option Addr) (c1_0 : Nat) (l1_0 : List (S78)) (A1_1 : Option Addr) (c1_1 : Nat) (l1_1 : List (S93)) (r : Bool) (w : World) (hr0_0 : Kd.C Kd.string w A0_0 l0_0.length l0_0) (hc0_0 : l0_0.length ≤ c0_0) (hr0_1 : Kd.C k47 w A0_1 l0_1.length l0_1) (hc0_1 : l0_1.length ≤ c0_1) (hr1_0 : Kd.C k78 w A1_0 l1_0.length l1_0) (hc1_0 : l1_0.length ≤ c1_0) (hr1_1 : Kd.C k93 w A1_1 l1_1.length l1_1) (hc1_1 : l1_1.length ≤ c1_1) (h : model_isSentry.f k l0_0 l0_1 l1_0 l1_1 = some r) :
    Calls Tryz.prog 212 #[.agg #[.slice A0_0 l0_0.length c0_0, .slice A0_1 l0_1.length c0_1], .agg #[.slice A1_0 l1_0.length c1_0, .slice A1_1 l1_1.length c1_1]] w fun e w' => e = .returned (.bool r) ∧ Below w.heap.size w w' := by
  have hu25 := Tryz.underlying25
  have hu29 := Tryz.underlying29
  have hu78 := Tryz.underlying78
  have HR0_0 := am hr0_0
  have HC0_0 := am hc0_0
  clear hr0_0 hc0_0
  have HR0_1 := am hr0_1
  have HC0_1 := am hc0_1
  clear hr0_1 hc0_1
  have HR1_0 := am hr1_0
  have HC1_0 := am hc1_0
  clear hr1_0 hc1_0
  have HR1_1 := am hr1_1
  have HC1_1 := am hc1_1
  clear hr1_1 hc1_1
  have HB := am (Below.refl w.heap.size w)
  have H : (if (l1_0.length : Int) > 3 then (model_isSentry.j0 k true l0_0 l0_1 l1_0 l1_1) else (if (l1_1.length : Int) > 2 then (model_isSentry.j0 k true l0_0 l0_1 l1_0 l1_1) else (model_isSentry.j0 k ((wrap64 ((l1_0.length : Int) + (l1_1.length : Int))) == 0) l0_0 l0_1 l1_0 l1_1))) = some r := h
  clear h
  have HC3 := am H
  clear H
  go_enter Tryz.func212, Tryz.ntmps212
  go_upto_region 1 with (first | ((with_reducible refine gd_ 2 ?_); (try (refine gate_guard (by rfl) ?_; dsimp only)); refine bx_ 2 #[.slice A0_0 l0_0.length c0_0, .slice A0_1 l0_1.length c0_1] 25 ?_; intro gb101 hg w4 hbox hb; have BK101 := am (hbox); have GW101 := am (zg : w.heap.size ≤ gb101); have GE101 := am (zg : w.heap.size ≤ gb101); replace HB := am (below_step (zb) hb); clear hb hbox hg) | ((with_reducible refine gd_ 3 ?_); (try (refine gate_guard (by rfl) ?_; dsimp only)); refine bx_ 3 #[.slice A1_0 l1_0.length c1_0, .slice A1_1 l1_1.length c1_1] 29 ?_; intro gb102 hg w5 hbox hb; have BK102 := am (hbox); have GW102 := am (zg : w.heap.size ≤ gb102); have GE102 := am (zg : w.heap.size ≤ gb102); replace HB := am (below_step (zb) hb); have NB101_102 := am ((zn BK101.out : gb101 ≠ gb102)); have NB102_101 := am ((zm BK101.out : gb102 ≠ gb101)); replace BK101 := am (zw BK101.out hb); clear hb hbox hg))
  (try simp only [Act.put, List.setIfInBounds_toArray, List.set_cons_zero, List.set_cons_succ])
  go_cut [26] (fun v26 wc => ∃ (kq : Nat) (x26_2 : Bool), v26 = .bool x26_2 ∧ Aside0 (model_isSentry.j0 kq x26_2 l0_0 l0_1 l1_0 l1_1 = some r) ∧ Aside0 (kq ≤ k) ∧ Aside0 (wc.heap[gb101]? = some (.cells #[(.slice A0_0 l0_0.length c0_0), (.slice A0_1 l0_1.length c0_1)] 25 (0, 0))) ∧ Aside0 (wc.heap[gb102]? = some (.cells #[(.slice A1_0 l1_0.length c1_0), (.slice A1_1 l1_1.length c1_1)] 29 (0, 0))) ∧ Aside0 (Below w.heap.size w wc))
  case first =>
    have H := HC3.out
    clear HC3
    by_cases c6 : (l1_0.length : Int) > 3
    · rw [if_pos c6] at H
      have c6b0 : decide (3 < (l1_0.length : Int)) = true := decide_eq_true c6
      have c6b1 : decide (3 < l1_0.length) = true := decide_eq_true (by omega)
      clear c6
      (first | rw [c6b0] | (simp only [i64_w, i32_w]; rw [c6b0]) | skip)
      have H' := am H
      clear H
      have hnb7 := NB102_101.out
      have hnc7 := NB101_102.out
      obtain ⟨hcz8_0, hcz8_1, hfz8_0, hfz8_1⟩ := cf2 BK102.out
      go_wp2
      go_meet
      case rel => exact ⟨_, (true), (ze), H', ⟨by first | omega | exact Nat.le_refl _⟩, ⟨zl BK101.out⟩, ⟨zl BK102.out⟩, ⟨zb⟩⟩
    · rw [if_neg c6] at H
      have c6b0 : decide (3 < (l1_0.length : Int)) = false := decide_eq_false c6
      have c6b1 : decide (3 < l1_0.length) = false := decide_eq_false (by omega)
      clear c6
      (first | rw [c6b0] | (simp only [i64_w, i32_w]; rw [c6b0]) | skip)
      by_cases c9 : (l1_1.length : Int) > 2
      · rw [if_pos c9] at H
        have c9b0 : decide (2 < (l1_1.length : Int)) = true := decide_eq_true c9
        have c9b1 : decide (2 < l1_1.length) = true := decide_eq_true (by omega)
        clear c9
        have H' := am H
        clear H
        have hnb10 := NB102_101.out
        have hnc10 := NB101_102.out
        obtain ⟨hcz11_0, hcz11_1, hfz11_0, hfz11_1⟩ := cf2 BK102.out
        go_wp2
        go_meet
        case rel => exact ⟨_, (true), (ze), H', ⟨by first | omega | exact Nat.le_refl _⟩, ⟨zl BK101.out⟩, ⟨zl BK102.out⟩, ⟨zb⟩⟩
      · rw [if_neg c9] at H
        have c9b0 : decide (2 < (l1_1.length : Int)) = false := decide_eq_false c9
        have c9b1 : decide (2 < l1_1.length) = false := decide_eq_false (by omega)
        clear c9
        have H' := am H
        clear H
        have hnb12 := NB102_101.out
        have hnc12 := NB101_102.out
        obtain ⟨hcz13_0, hcz13_1, hfz13_0, hfz13_1⟩ := cf2 BK102.out
        go_wp2
        go_meet
        case rel => exact ⟨_, (((wrap64 ((l1_0.length : Int) + (l1_1.length : Int))) == 0)), (ze), H', ⟨by first | omega | exact Nat.le_refl _⟩, ⟨zl BK101.out⟩, ⟨zl BK102.out⟩, ⟨zb⟩⟩
  case rest =>
    clear HC3
    try clear c1
    try clear c2
    try clear p2
    try clear c6
    try clear c6b0
    try clear c6b1
    try clear p6
    try clear c7
    try clear c9
    try clear c9b0
    try clear c9b1
    try clear c10
    try clear c12
    try clear hcz11_0
    try clear hcz11_1
    try clear hcz13_0
    try clear hcz13_1
    try clear hcz8_0
    try clear hcz8_1
    try clear hfz11_0
    try clear hfz11_1
    try clear hfz13_0
    try clear hfz13_1
    try clear hfz8_0
    try clear hfz8_1
    obtain ⟨kq, x26_2, rfl, HA, HJ2, BK101, BK102, HB⟩ := hcut
    cases kq with
    | zero => exact absurd HA.out (by simp [model_isSentry.j0])
    | succ kj2 =>
      have H := HA.out
      clear HA
      simp only [model_isSentry.j0] at H
      by_cases c14 : x26_2 = true
      · subst c14
        have H1 : (some false) = some r := by rw [if_pos rfl] at H; exact H
        clear H
        have H := H1
        clear H1
        obtain rfl := Option.some.inj H
        go_wp2
        go_ret
        exact ⟨zf, zb⟩
      · replace c14 := Bool.eq_false_iff.mpr c14
        subst c14
        have H1 : (model_isSentry.l0 kj2 l1_0 (l1_0.length : Int) 0 l0_0 l0_1 l1_0 l1_1) = some r := by rw [if_neg (show ¬ (false = true) by decide)] at H; exact H
        clear H
        have H := H1
        clear H1
        have H' := am H
        clear H
        have hnb15 := NB102_101.out
        have hnc15 := NB101_102.out
        obtain ⟨hcz16_0, hcz16_1, hfz16_0, hfz16_1⟩ := cf2 BK102.out
        go_wp2
        go_loopg [30] kj2 (fun kq v30 w' => ∃ (x30_2 : Int), v30 = .int .i64 x30_2 ∧ Aside0 (model_isSentry.l0 kq l1_0 (l1_0.length : Int) x30_2 l0_0 l0_1 l1_0 l1_1 = some r) ∧ Aside0 (kq ≤ kj2) ∧ Aside0 (w'.heap[gb101]? = some (.cells #[(.slice A0_0 l0_0.length c0_0), (.slice A0_1 l0_1.length c0_1)] 25 (0, 0))) ∧ Aside0 (w'.heap[gb102]? = some (.cells #[(.slice A1_0 l1_0.length c1_0), (.slice A1_1 l1_1.length c1_1)] 29 (0, 0))) ∧ Aside0 (Below w.heap.size w w'))
        case atStart => exact ⟨(0), (ze), H', ⟨Nat.le_refl _⟩, ⟨zl BK101.out⟩, ⟨zl BK102.out⟩, ⟨zb⟩⟩
        case round =>
          clear H'
          try clear c1
          try clear c2
          try clear p2
          try clear c6
          try clear c6b0
          try clear c6b1
          try clear p6
          try clear c7
          try clear c9
          try clear c9b0
          try clear c9b1
          try clear c10
          try clear c12
          try clear c14
          try clear c15
          try clear hcz11_0
          try clear hcz11_1
          try clear hcz13_0
          try clear hcz13_1
          try clear hcz16_0
          try clear hcz16_1
          try clear hcz8_0
          try clear hcz8_1
          try clear hfz11_0
          try clear hfz11_1
          try clear hfz13_0
          try clear hfz13_1
          try clear hfz16_0
          try clear hfz16_1
          try clear hfz8_0
          try clear hfz8_1
          try clear p2
          try clear p6
          obtain ⟨x30_2, rfl, HA, HK2, BK101, BK102, HB⟩ := hrel
          cases gk with
          | zero => exact absurd HA.out (by simp [model_isSentry.l0])
          | succ k2 =>
            have H := HA.out
            clear HA
            simp only [model_isSentry.l0] at H
            by_cases c17 : x30_2 < (l1_0.length : Int)
            · rw [if_pos c17] at H
              have c17b0 : decide (x30_2 < (l1_0.length : Int)) = true := decide_eq_true c17
              clear c17
              by_cases c18 : 0 ≤ x30_2
              · rw [if_pos c18] at H
                have c18b0 : decide (0 ≤ x30_2) = true := decide_eq_true c18
                clear c18
                by_cases c19 : x30_2 < (l1_0.length : Int)
                · rw [if_pos c19] at H
                  have c19b0 : decide (x30_2 < (l1_0.length : Int)) = true := decide_eq_true c19
                  clear c19
                  replace H := Option.bind_eq_some_iff.mp H
                  obtain ⟨t106, A200, H⟩ := H
                  replace H : (if t106 = true then (if x30_2 ≤ (l1_0.length : Int) then ((api_On_237.f k2 (l1_0.take (x30_2 : Int).toNat) ((rd_T78 l1_0 x30_2).f0) ((rd_T78 l1_0 x30_2).f1)).bind fun t111 => (if t111 = true then (some false) else (model_isSentry.l0 k2 l1_0 (l1_0.length : Int) (wrap64 (x30_2 + 1)) l0_0 l0_1 l1_0 l1_1))) else (none)) else (some false)) = some r := H
                  have A20 := am A200
                  clear A200
                  by_cases c21 : t106 = true
                  · subst c21
                    have H1 : (if x30_2 ≤ (l1_0.length : Int) then ((api_On_237.f k2 (l1_0.take (x30_2 : Int).toNat) ((rd_T78 l1_0 x30_2).f0) ((rd_T78 l1_0 x30_2).f1)).bind fun t111 => (if t111 = true then (some false) else (model_isSentry.l0 k2 l1_0 (l1_0.length : Int) (wrap64 (x30_2 + 1)) l0_0 l0_1 l1_0 l1_1))) else (none)) = some r := by rw [if_pos rfl] at H; exact H
                    clear H
                    have H := H1
                    clear H1
                    have c22b0 := eq_true (of_decide_eq_true (zas) : 0 ≤ x30_2)
                    by_cases c23 : x30_2 ≤ (l1_0.length : Int)
                    · rw [if_pos c23] at H
                      have c23b0 := eq_true c23
                      have c23b1 : decide (x30_2 ≤ (l1_0.length : Int)) = true := decide_eq_true c23
                      clear c23
                      obtain ⟨y107, hy107⟩ : ∃ y_ : List (S78), y_ = (l1_0.take (x30_2 : Int).toNat) := ⟨_, rfl⟩
                      replace H : ((api_On_237.f k2 y107 ((rd_T78 l1_0 x30_2).f0) ((rd_T78 l1_0 x30_2).f1)).bind fun t111 => (if t111 = true then (some false) else (model_isSentry.l0 k2 l1_0 (l1_0.length : Int) (wrap64 (x30_2 + 1)) l0_0 l0_1 l1_0 l1_1))) = some r := by first | (rw [hy107]; with_reducible exact H) | (have H2_ := (Option.bind_some _ _).symm.trans H; rw [hy107]; with_reducible exact H2_) | (have H2_ := (Option.bind_some _ _).symm.trans H; with_reducible exact H2_) | with_reducible exact H | (rw [hy107]; exact H) | exact H
                      have Ny107 := am hy107
                      clear hy107
                      replace H := Option.bind_eq_some_iff.mp H
                      obtain ⟨t111, A240, H⟩ := H
                      replace H : (if t111 = true then (some false) else (model_isSentry.l0 k2 l1_0 (l1_0.length : Int) (wrap64 (x30_2 + 1)) l0_0 l0_1 l1_0 l1_1)) = some r := H
                      have A24 := am A240
                      clear A240
                      by_cases c25 : t111 = true
                      · subst c25
                        have H1 : (some false) = some r := by rw [if_pos rfl] at H; exact H
                        clear H
                        have H := H1
                        clear H1
                        obtain rfl := Option.some.inj H
                        have p104 : 0 ≤ (x30_2 : Int) := of_decide_eq_true (zas)
                        have q104 : x30_2 < (l1_0.length : Int) := of_decide_eq_true (zas)
                        obtain ⟨ad104, e104, hx104_0, hx104_1⟩ := at_T78 HR1_0.out x30_2 p104 q104
                        cases e104
                        replace hx104_0 := ba HB hx104_0
                        replace hx104_1 := ba HB hx104_1
                        replace p104 := eq_true p104
                        replace q104 := eq_true q104
                        try go_wp2_with (first | ((with_reducible refine gd_ 6 ?_); (try (refine gate_guard (by rfl) ?_; dsimp only)); refine bx_ 6 #[.string (⟨#[]⟩ : ByteArray), .int .i64 0] 78 ?_; intro gb105 hg w26 hbox hb; have BK105 := am (hbox); have GW105 := am (zg : w.heap.size ≤ gb105); have GE105 := am (zg : w.heap.size ≤ gb105); replace HB := am (below_step (zb) hb); have NB101_105 := am ((zn BK101.out : gb101 ≠ gb105)); have NB105_101 := am ((zm BK101.out : gb105 ≠ gb101)); replace BK101 := am (zw BK101.out hb); have NB102_105 := am ((zn BK102.out : gb102 ≠ gb105)); have NB105_102 := am ((zm BK102.out : gb105 ≠ gb102)); replace BK102 := am (zw BK102.out hb); clear hb hbox hg; have hnb27 := NB105_101.out; have hnc27 := NB101_105.out; have hnb28 := NB105_102.out; have hnc28 := NB102_105.out; obtain ⟨hcz29_0, hcz29_1, hfz29_0, hfz29_1⟩ := cf2 BK105.out))
                        have n0_ : Aside0 (((w26.setCell ⟨gb105, 0, none⟩ (.string ((rd_T78 l1_0 x30_2).f0))).setCell ⟨gb105, 1, none⟩ (.int .i64 ((rd_T78 l1_0 x30_2).f1))).heap[gb101]? = some (.cells #[.slice A0_0 l0_0.length c0_0, .slice A0_1 l0_1.length c0_1] 25 (0, 0))) := ⟨by refine zl ?_; refine blk_far ?_ NB101_105.out _; refine zl ?_; refine blk_far ?_ NB101_105.out _; refine zl ?_; exact BK101.out⟩
                        have n1_ : Aside0 (((w26.setCell ⟨gb105, 0, none⟩ (.string ((rd_T78 l1_0 x30_2).f0))).setCell ⟨gb105, 1, none⟩ (.int .i64 ((rd_T78 l1_0 x30_2).f1))).heap[gb102]? = some (.cells #[.slice (some ad104) l1_0.length c1_0, .slice A1_1 l1_1.length c1_1] 29 (0, 0))) := ⟨by refine zl ?_; refine blk_far ?_ NB102_105.out _; refine zl ?_; refine blk_far ?_ NB102_105.out _; refine zl ?_; exact BK102.out⟩
                        have n2_ : Aside0 (((w26.setCell ⟨gb105, 0, none⟩ (.string ((rd_T78 l1_0 x30_2).f0))).setCell ⟨gb105, 1, none⟩ (.int .i64 ((rd_T78 l1_0 x30_2).f1))).heap[gb105]? = some (.cells #[.string ((rd_T78 l1_0 x30_2).f0), .int .i64 ((rd_T78 l1_0 x30_2).f1)] 78 (0, 0))) := ⟨by refine zl ?_; refine blk_put (cs := #[.string ((rd_T78 l1_0 x30_2).f0), .int .i64 0]) ?_ 1 _ rfl; refine zl ?_; refine blk_put (cs := #[.string (⟨#[]⟩ : ByteArray), .int .i64 0]) ?_ 0 _ rfl; refine zl ?_; exact BK105.out⟩
                        have n3_ : Aside0 (Below w.heap.size w ((w26.setCell ⟨gb105, 0, none⟩ (.string ((rd_T78 l1_0 x30_2).f0))).setCell ⟨gb105, 1, none⟩ (.int .i64 ((rd_T78 l1_0 x30_2).f1)))) := ⟨zb⟩
                        (try clear BK101)
                        (try clear BK102)
                        (try clear BK105)
                        (try clear HB)
                        generalize ((w26.setCell ⟨gb105, 0, none⟩ (.string ((rd_T78 l1_0 x30_2).f0))).setCell ⟨gb105, 1, none⟩ (.int .i64 ((rd_T78 l1_0 x30_2).f1))) = w30 at n0_ n1_ n2_ n3_ ⊢
                        have BK101 := n0_
                        have BK102 := n1_
                        have BK105 := n2_
                        have HB := n3_
                        clear n0_ n1_ n2_ n3_
                        replace BK101 := am (blk_drew BK101.out)
                        replace BK102 := am (blk_drew BK102.out)
                        replace BK105 := am (blk_drew BK105.out)
                        replace HB := am (below_drew1 HB.out)
                        refine start_ (n := 12) (S := fun w' => w'.cell? ⟨gb101, 0, none⟩ = some (.slice A0_0 l0_0.length c0_0) ∧ w'.cell? ⟨gb101, 1, none⟩ = some (.slice A0_1 l0_1.length c0_1) ∧ w'.cell? ⟨gb105, 0, none⟩ = some (.string ((rd_T78 l1_0 x30_2).f0)) ∧ w'.cell? ⟨gb105, 1, none⟩ = some (.int .i64 ((rd_T78 l1_0 x30_2).f1)) ∧ w'.cell? ⟨gb102, 0, none⟩ = some (.slice (some ad104) l1_0.length c1_0) ∧ w'.cell? ⟨gb102, 1, none⟩ = some (.slice A1_1 l1_1.length c1_1)) (ds := []) #[false, false, false, false, false, false, false, false, false, false, false, false] (by kernel_rfl) rfl rfl ⟨(blk_cell BK101.out 0).trans rfl, (blk_cell BK101.out 1).trans rfl, (blk_cell BK105.out 0).trans rfl, (blk_cell BK105.out 1).trans rfl, (blk_cell BK102.out 0).trans rfl, (blk_cell BK102.out 1).trans rfl⟩ (fun hHeld => ?_); refine with_tabW model_isSentry.tab6 model_isSentry.bits6 (fun HT_ HW_ => ?_)
                        generalize w30.drew = w31 at BK101 BK102 BK105 HB hHeld ⊢
                        refine tz_ 0 35 12 1 ?_
                        refine tz_ 1 36 12 3 ?_
                        refine one_ (i := 2) (N := some 37) #[true, true, true, false, false, false, false, false, false, false, false, false] rfl rfl (one_of HT_.out (by kernel_rfl)) (by decide) (fun K hK => ?_)
                        refine goes_ Tryz.func236 (by kernel_rfl) rfl #[.agg #[.slice A0_0 l0_0.length c0_0, .slice A0_1 l0_1.length c0_1], .agg #[.string ((rd_T78 l1_0 x30_2).f0), .int .i64 ((rd_T78 l1_0 x30_2).f1)]] (by rfl) rfl rfl (za) ?_
                        with_reducible refine (model_isOn.calls k2 _ _ l0_0 _ _ l0_1 ((rd_T78 l1_0 x30_2).f0) ((rd_T78 l1_0 x30_2).f1) true _ ?side1 ?side2 ?side3 ?side4 A20.out).mono ?_
                        (case side1 => exact zc (Kd.C_below HR0_0.out HB.out))
                        (case side2 => exact HC0_0.out)
                        (case side3 => exact zc (Kd.C_below HR0_1.out HB.out))
                        (case side4 => exact HC0_1.out)
                        rintro e w32 ⟨rfl, hb⟩
                        refine ⟨_, rfl, ?_⟩
                        replace BK101 := am (zw BK101.out hb)
                        replace BK102 := am (zw BK102.out hb)
                        replace BK105 := am (zw BK105.out hb)
                        replace HB := am (below_step (zb) hb)
                        (try clear hb)
                        (try clear hb2)
                        (try clear hk)
                        (try clear hi)
                        have q33 : (x30_2 : Int) ≤ ((l1_0.length : Int) : Int) := of_decide_eq_true (zas)
                        obtain ⟨i033, hi033, _, hsz33, _⟩ := info_parts info78
                        have hroom33 : l1_0.length ≤ c1_0 := HC1_0.out
                        have hC33 : Kd.C k78 _ (some ad104) l1_0.length l1_0 := HR1_0.out
                        have hcut33 := cut_to (P := Tryz.prog) 26 78 .i64 Tryz.underlying26 hi033 (some ad104) l1_0.length c1_0 x30_2 (of_decide_eq_true (zas)) q33 hroom33
                        have hr33 := Kd.C_take (m := (x30_2 : Int).toNat) hC33 (by omega)
                        have hy33 : y107.length = (x30_2 : Int).toNat := (by rw [Ny107.out, List.length_take]; omega)
                        rw [← Ny107.out] at hr33
                        rw [← hy33] at hcut33
                        have HR110 := am hr33
                        have HC110 := am (show y107.length ≤ c1_0 from by omega)
                        clear hr33 hC33 hroom33 hi033 hsz33
                        have KY33 := am hy33
                        clear hy33
                        replace q33 := eq_true q33
                        refine hK.out _ _ ⟨(blk_cell BK101.out 0).trans rfl, (blk_cell BK101.out 1).trans rfl, (blk_cell BK105.out 0).trans rfl, (blk_cell BK105.out 1).trans rfl, (blk_cell BK102.out 0).trans rfl, (blk_cell BK102.out 1).trans rfl⟩ (fun hHeld => ?_)
                        clear hK K
                        refine nz_ 37 ?_
                        refine pz_ 3 38 12 15 ?_
                        refine pz_ 4 39 12 31 ?_
                        refine pz_ 5 40 12 63 ?_
                        refine pz_ 7 42 12 191 ?_
                        refine tz_ 6 41 12 255 ?_
                        refine pz_ 8 43 12 511 ?_
                        refine tz_ 9 44 12 1023 ?_
                        refine one_ (i := 10) (N := some 45) #[true, true, true, true, true, true, true, true, true, true, true, false] rfl rfl (one_of HT_.out (by kernel_rfl)) (by decide) (fun K hK => ?_)
                        refine goes_ Tryz.func237 (by kernel_rfl) rfl #[.slice (some ad104) y107.length c1_0, .agg #[.string ((rd_T78 l1_0 x30_2).f0), .int .i64 ((rd_T78 l1_0 x30_2).f1)]] (by rfl) rfl rfl (za) ?_
                        with_reducible refine (api_On_237.calls k2 _ _ y107 ((rd_T78 l1_0 x30_2).f0) ((rd_T78 l1_0 x30_2).f1) true _ ?side1 ?side2 A24.out).mono ?_
                        (case side1 => exact zc (Kd.C_below HR110.out HB.out))
                        (case side2 => exact HC110.out)
                        rintro e w34 ⟨rfl, hb⟩
                        refine ⟨_, rfl, ?_⟩
                        replace BK101 := am (zw BK101.out hb)
                        replace BK102 := am (zw BK102.out hb)
                        replace BK105 := am (zw BK105.out hb)
                        replace HB := am (below_step (zb) hb)
                        (try clear hb)
                        (try clear hb2)
                        (try clear hk)
                        (try clear hi)
                        refine hK.out _ _ ⟨(blk_cell BK101.out 0).trans rfl, (blk_cell BK101.out 1).trans rfl, (blk_cell BK105.out 0).trans rfl, (blk_cell BK105.out 1).trans rfl, (blk_cell BK102.out 0).trans rfl, (blk_cell BK102.out 1).trans rfl⟩ (fun hHeld => ?_)
                        clear hK K
                        refine nz_ 45 ?_
                        refine pz_ 11 46 12 4095 ?_
                        refine done_ (done_of HT_.out (by kernel_rfl)) ?_
                        try go_wp2
                        go_ret
                        exact ⟨zf, zb⟩
                      · replace c25 := Bool.eq_false_iff.mpr c25
                        subst c25
                        have H1 : (model_isSentry.l0 k2 l1_0 (l1_0.length : Int) (wrap64 (x30_2 + 1)) l0_0 l0_1 l1_0 l1_1) = some r := by rw [if_neg (show ¬ (false = true) by decide)] at H; exact H
                        clear H
                        have H := H1
                        clear H1
                        have H' := am H
                        clear H
                        have p104 : 0 ≤ (x30_2 : Int) := of_decide_eq_true (zas)
                        have q104 : x30_2 < (l1_0.length : Int) := of_decide_eq_true (zas)
                        obtain ⟨ad104, e104, hx104_0, hx104_1⟩ := at_T78 HR1_0.out x30_2 p104 q104
                        cases e104
                        replace hx104_0 := ba HB hx104_0
                        replace hx104_1 := ba HB hx104_1
                        replace p104 := eq_true p104
                        replace q104 := eq_true q104
                        try go_wp2_with (first | ((with_reducible refine gd_ 6 ?_); (try (refine gate_guard (by rfl) ?_; dsimp only)); refine bx_ 6 #[.string (⟨#[]⟩ : ByteArray), .int .i64 0] 78 ?_; intro gb105 hg w35 hbox hb; have BK105 := am (hbox); have GW105 := am (zg : w.heap.size ≤ gb105); have GE105 := am (zg : w.heap.size ≤ gb105); replace HB := am (below_step (zb) hb); have NB101_105 := am ((zn BK101.out : gb101 ≠ gb105)); have NB105_101 := am ((zm BK101.out : gb105 ≠ gb101)); replace BK101 := am (zw BK101.out hb); have NB102_105 := am ((zn BK102.out : gb102 ≠ gb105)); have NB105_102 := am ((zm BK102.out : gb105 ≠ gb102)); replace BK102 := am (zw BK102.out hb); clear hb hbox hg; have hnb36 := NB105_101.out; have hnc36 := NB101_105.out; have hnb37 := NB105_102.out; have hnc37 := NB102_105.out; obtain ⟨hcz38_0, hcz38_1, hfz38_0, hfz38_1⟩ := cf2 BK105.out))
                        have n0_ : Aside0 (((w35.setCell ⟨gb105, 0, none⟩ (.string ((rd_T78 l1_0 x30_2).f0))).setCell ⟨gb105, 1, none⟩ (.int .i64 ((rd_T78 l1_0 x30_2).f1))).heap[gb101]? = some (.cells #[.slice A0_0 l0_0.length c0_0, .slice A0_1 l0_1.length c0_1] 25 (0, 0))) := ⟨by refine zl ?_; refine blk_far ?_ NB101_105.out _; refine zl ?_; refine blk_far ?_ NB101_105.out _; refine zl ?_; exact BK101.out⟩
                        have n1_ : Aside0 (((w35.setCell ⟨gb105, 0, none⟩ (.string ((rd_T78 l1_0 x30_2).f0))).setCell ⟨gb105, 1, none⟩ (.int .i64 ((rd_T78 l1_0 x30_2).f1))).heap[gb102]? = some (.cells #[.slice (some ad104) l1_0.length c1_0, .slice A1_1 l1_1.length c1_1] 29 (0, 0))) := ⟨by refine zl ?_; refine blk_far ?_ NB102_105.out _; refine zl ?_; refine blk_far ?_ NB102_105.out _; refine zl ?_; exact BK102.out⟩
                        have n2_ : Aside0 (((w35.setCell ⟨gb105, 0, none⟩ (.string ((rd_T78 l1_0 x30_2).f0))).setCell ⟨gb105, 1, none⟩ (.int .i64 ((rd_T78 l1_0 x30_2).f1))).heap[gb105]? = some (.cells #[.string ((rd_T78 l1_0 x30_2).f0), .int .i64 ((rd_T78 l1_0 x30_2).f1)] 78 (0, 0))) := ⟨by refine zl ?_; refine blk_put (cs := #[.string ((rd_T78 l1_0 x30_2).f0), .int .i64 0]) ?_ 1 _ rfl; refine zl ?_; refine blk_put (cs := #[.string (⟨#[]⟩ : ByteArray), .int .i64 0]) ?_ 0 _ rfl; refine zl ?_; exact BK105.out⟩
                        have n3_ : Aside0 (Below w.heap.size w ((w35.setCell ⟨gb105, 0, none⟩ (.string ((rd_T78 l1_0 x30_2).f0))).setCell ⟨gb105, 1, none⟩ (.int .i64 ((rd_T78 l1_0 x30_2).f1)))) := ⟨zb⟩
                        (try clear BK101)
                        (try clear BK102)
                        (try clear BK105)
                        (try clear HB)
                        generalize ((w35.setCell ⟨gb105, 0, none⟩ (.string ((rd_T78 l1_0 x30_2).f0))).setCell ⟨gb105, 1, none⟩ (.int .i64 ((rd_T78 l1_0 x30_2).f1))) = w39 at n0_ n1_ n2_ n3_ ⊢
                        have BK101 := n0_
                        have BK102 := n1_
                        have BK105 := n2_
                        have HB := n3_
                        clear n0_ n1_ n2_ n3_
                        replace BK101 := am (blk_drew BK101.out)
                        replace BK102 := am (blk_drew BK102.out)
                        replace BK105 := am (blk_drew BK105.out)
                        replace HB := am (below_drew1 HB.out)
                        refine start_ (n := 12) (S := fun w' => w'.cell? ⟨gb101, 0, none⟩ = some (.slice A0_0 l0_0.length c0_0) ∧ w'.cell? ⟨gb101, 1, none⟩ = some (.slice A0_1 l0_1.length c0_1) ∧ w'.cell? ⟨gb105, 0, none⟩ = some (.string ((rd_T78 l1_0 x30_2).f0)) ∧ w'.cell? ⟨gb105, 1, none⟩ = some (.int .i64 ((rd_T78 l1_0 x30_2).f1)) ∧ w'.cell? ⟨gb102, 0, none⟩ = some (.slice (some ad104) l1_0.length c1_0) ∧ w'.cell? ⟨gb102, 1, none⟩ = some (.slice A1_1 l1_1.length c1_1)) (ds := []) #[false, false, false, false, false, false, false, false, false, false, false, false] (by kernel_rfl) rfl rfl ⟨(blk_cell BK101.out 0).trans rfl, (blk_cell BK101.out 1).trans rfl, (blk_cell BK105.out 0).trans rfl, (blk_cell BK105.out 1).trans rfl, (blk_cell BK102.out 0).trans rfl, (blk_cell BK102.out 1).trans rfl⟩ (fun hHeld => ?_); refine with_tabW model_isSentry.tab6 model_isSentry.bits6 (fun HT_ HW_ => ?_)
                        generalize w39.drew = w40 at BK101 BK102 BK105 HB hHeld ⊢
                        refine tz_ 0 35 12 1 ?_
                        refine tz_ 1 36 12 3 ?_
                        refine one_ (i := 2) (N := some 37) #[true, true, true, false, false, false, false, false, false, false, false, false] rfl rfl (one_of HT_.out (by kernel_rfl)) (by decide) (fun K hK => ?_)
                        refine goes_ Tryz.func236 (by kernel_rfl) rfl #[.agg #[.slice A0_0 l0_0.length c0_0, .slice A0_1 l0_1.length c0_1], .agg #[.string ((rd_T78 l1_0 x30_2).f0), .int .i64 ((rd_T78 l1_0 x30_2).f1)]] (by rfl) rfl rfl (za) ?_
                        with_reducible refine (model_isOn.calls k2 _ _ l0_0 _ _ l0_1 ((rd_T78 l1_0 x30_2).f0) ((rd_T78 l1_0 x30_2).f1) true _ ?side1 ?side2 ?side3 ?side4 A20.out).mono ?_
                        (case side1 => exact zc (Kd.C_below HR0_0.out HB.out))
                        (case side2 => exact HC0_0.out)
                        (case side3 => exact zc (Kd.C_below HR0_1.out HB.out))
                        (case side4 => exact HC0_1.out)
                        rintro e w41 ⟨rfl, hb⟩
                        refine ⟨_, rfl, ?_⟩
                        replace BK101 := am (zw BK101.out hb)
                        replace BK102 := am (zw BK102.out hb)
                        replace BK105 := am (zw BK105.out hb)
                        replace HB := am (below_step (zb) hb)
                        (try clear hb)
                        (try clear hb2)
                        (try clear hk)
                        (try clear hi)
                        have q42 : (x30_2 : Int) ≤ ((l1_0.length : Int) : Int) := of_decide_eq_true (zas)
                        obtain ⟨i042, hi042, _, hsz42, _⟩ := info_parts info78
                        have hroom42 : l1_0.length ≤ c1_0 := HC1_0.out
                        have hC42 : Kd.C k78 _ (some ad104) l1_0.length l1_0 := HR1_0.out
                        have hcut42 := cut_to (P := Tryz.prog) 26 78 .i64 Tryz.underlying26 hi042 (some ad104) l1_0.length c1_0 x30_2 (of_decide_eq_true (zas)) q42 hroom42
                        have hr42 := Kd.C_take (m := (x30_2 : Int).toNat) hC42 (by omega)
                        have hy42 : y107.length = (x30_2 : Int).toNat := (by rw [Ny107.out, List.length_take]; omega)
                        rw [← Ny107.out] at hr42
                        rw [← hy42] at hcut42
                        have HR110 := am hr42
                        have HC110 := am (show y107.length ≤ c1_0 from by omega)
                        clear hr42 hC42 hroom42 hi042 hsz42
                        have KY42 := am hy42
                        clear hy42
                        replace q42 := eq_true q42
                        refine hK.out _ _ ⟨(blk_cell BK101.out 0).trans rfl, (blk_cell BK101.out 1).trans rfl, (blk_cell BK105.out 0).trans rfl, (blk_cell BK105.out 1).trans rfl, (blk_cell BK102.out 0).trans rfl, (blk_cell BK102.out 1).trans rfl⟩ (fun hHeld => ?_)
                        clear hK K
                        refine nz_ 37 ?_
                        refine pz_ 3 38 12 15 ?_
                        refine pz_ 4 39 12 31 ?_
                        refine pz_ 5 40 12 63 ?_
                        refine pz_ 7 42 12 191 ?_
                        refine tz_ 6 41 12 255 ?_
                        refine pz_ 8 43 12 511 ?_
                        refine tz_ 9 44 12 1023 ?_
                        refine one_ (i := 10) (N := some 45) #[true, true, true, true, true, true, true, true, true, true, true, false] rfl rfl (one_of HT_.out (by kernel_rfl)) (by decide) (fun K hK => ?_)
                        refine goes_ Tryz.func237 (by kernel_rfl) rfl #[.slice (some ad104) y107.length c1_0, .agg #[.string ((rd_T78 l1_0 x30_2).f0), .int .i64 ((rd_T78 l1_0 x30_2).f1)]] (by rfl) rfl rfl (za) ?_
                        with_reducible refine (api_On_237.calls k2 _ _ y107 ((rd_T78 l1_0 x30_2).f0) ((rd_T78 l1_0 x30_2).f1) false _ ?side1 ?side2 A24.out).mono ?_
                        (case side1 => exact zc (Kd.C_below HR110.out HB.out))
                        (case side2 => exact HC110.out)
                        rintro e w43 ⟨rfl, hb⟩
                        refine ⟨_, rfl, ?_⟩
                        replace BK101 := am (zw BK101.out hb)
                        replace BK102 := am (zw BK102.out hb)
                        replace BK105 := am (zw BK105.out hb)
                        replace HB := am (below_step (zb) hb)
                        (try clear hb)
                        (try clear hb2)
                        (try clear hk)
                        (try clear hi)
                        refine hK.out _ _ ⟨(blk_cell BK101.out 0).trans rfl, (blk_cell BK101.out 1).trans rfl, (blk_cell BK105.out 0).trans rfl, (blk_cell BK105.out 1).trans rfl, (blk_cell BK102.out 0).trans rfl, (blk_cell BK102.out 1).trans rfl⟩ (fun hHeld => ?_)
                        clear hK K
                        refine nz_ 45 ?_
                        refine pz_ 11 46 12 4095 ?_
                        refine done_ (done_of HT_.out (by kernel_rfl)) ?_
                        try go_wp2
                        go_roundg k2
                        case measure => have := HJ2.out; have := HK2.out; omega
                        case rel => exact ⟨(wrap64 (x30_2 + 1)), (ze), H', ⟨by have := HJ2.out; have := HK2.out; omega⟩, ⟨zl BK101.out⟩, ⟨zl BK102.out⟩, ⟨zb⟩⟩
                    · rw [if_neg c23] at H
                      exact absurd H (by simp)
                  · replace c21 := Bool.eq_false_iff.mpr c21
                    subst c21
                    have H1 : (some false) = some r := by rw [if_neg (show ¬ (false = true) by decide)] at H; exact H
                    clear H
                    have H := H1
                    clear H1
                    obtain rfl := Option.some.inj H
                    have p104 : 0 ≤ (x30_2 : Int) := of_decide_eq_true (zas)
                    have q104 : x30_2 < (l1_0.length : Int) := of_decide_eq_true (zas)
                    obtain ⟨ad104, e104, hx104_0, hx104_1⟩ := at_T78 HR1_0.out x30_2 p104 q104
                    cases e104
                    replace hx104_0 := ba HB hx104_0
                    replace hx104_1 := ba HB hx104_1
                    replace p104 := eq_true p104
                    replace q104 := eq_true q104
                    try go_wp2_with (first | ((with_reducible refine gd_ 6 ?_); (try (refine gate_guard (by rfl) ?_; dsimp only)); refine bx_ 6 #[.string (⟨#[]⟩ : ByteArray), .int .i64 0] 78 ?_; intro gb105 hg w44 hbox hb; have BK105 := am (hbox); have GW105 := am (zg : w.heap.size ≤ gb105); have GE105 := am (zg : w.heap.size ≤ gb105); replace HB := am (below_step (zb) hb); have NB101_105 := am ((zn BK101.out : gb101 ≠ gb105)); have NB105_101 := am ((zm BK101.out : gb105 ≠ gb101)); replace BK101 := am (zw BK101.out hb); have NB102_105 := am ((zn BK102.out : gb102 ≠ gb105)); have NB105_102 := am ((zm BK102.out : gb105 ≠ gb102)); replace BK102 := am (zw BK102.out hb); clear hb hbox hg; have hnb45 := NB105_101.out; have hnc45 := NB101_105.out; have hnb46 := NB105_102.out; have hnc46 := NB102_105.out; obtain ⟨hcz47_0, hcz47_1, hfz47_0, hfz47_1⟩ := cf2 BK105.out))
                    have n0_ : Aside0 (((w44.setCell ⟨gb105, 0, none⟩ (.string ((rd_T78 l1_0 x30_2).f0))).setCell ⟨gb105, 1, none⟩ (.int .i64 ((rd_T78 l1_0 x30_2).f1))).heap[gb101]? = some (.cells #[.slice A0_0 l0_0.length c0_0, .slice A0_1 l0_1.length c0_1] 25 (0, 0))) := ⟨by refine zl ?_; refine blk_far ?_ NB101_105.out _; refine zl ?_; refine blk_far ?_ NB101_105.out _; refine zl ?_; exact BK101.out⟩
                    have n1_ : Aside0 (((w44.setCell ⟨gb105, 0, none⟩ (.string ((rd_T78 l1_0 x30_2).f0))).setCell ⟨gb105, 1, none⟩ (.int .i64 ((rd_T78 l1_0 x30_2).f1))).heap[gb102]? = some (.cells #[.slice (some ad104) l1_0.length c1_0, .slice A1_1 l1_1.length c1_1] 29 (0, 0))) := ⟨by refine zl ?_; refine blk_far ?_ NB102_105.out _; refine zl ?_; refine blk_far ?_ NB102_105.out _; refine zl ?_; exact BK102.out⟩
                    have n2_ : Aside0 (((w44.setCell ⟨gb105, 0, none⟩ (.string ((rd_T78 l1_0 x30_2).f0))).setCell ⟨gb105, 1, none⟩ (.int .i64 ((rd_T78 l1_0 x30_2).f1))).heap[gb105]? = some (.cells #[.string ((rd_T78 l1_0 x30_2).f0), .int .i64 ((rd_T78 l1_0 x30_2).f1)] 78 (0, 0))) := ⟨by refine zl ?_; refine blk_put (cs := #[.string ((rd_T78 l1_0 x30_2).f0), .int .i64 0]) ?_ 1 _ rfl; refine zl ?_; refine blk_put (cs := #[.string (⟨#[]⟩ : ByteArray), .int .i64 0]) ?_ 0 _ rfl; refine zl ?_; exact BK105.out⟩
                    have n3_ : Aside0 (Below w.heap.size w ((w44.setCell ⟨gb105, 0, none⟩ (.string ((rd_T78 l1_0 x30_2).f0))).setCell ⟨gb105, 1, none⟩ (.int .i64 ((rd_T78 l1_0 x30_2).f1)))) := ⟨zb⟩
                    (try clear BK101)
                    (try clear BK102)
                    (try clear BK105)
                    (try clear HB)
                    generalize ((w44.setCell ⟨gb105, 0, none⟩ (.string ((rd_T78 l1_0 x30_2).f0))).setCell ⟨gb105, 1, none⟩ (.int .i64 ((rd_T78 l1_0 x30_2).f1))) = w48 at n0_ n1_ n2_ n3_ ⊢
                    have BK101 := n0_
                    have BK102 := n1_
                    have BK105 := n2_
                    have HB := n3_
                    clear n0_ n1_ n2_ n3_
                    replace BK101 := am (blk_drew BK101.out)
                    replace BK102 := am (blk_drew BK102.out)
                    replace BK105 := am (blk_drew BK105.out)
                    replace HB := am (below_drew1 HB.out)
                    refine start_ (n := 12) (S := fun w' => w'.cell? ⟨gb101, 0, none⟩ = some (.slice A0_0 l0_0.length c0_0) ∧ w'.cell? ⟨gb101, 1, none⟩ = some (.slice A0_1 l0_1.length c0_1) ∧ w'.cell? ⟨gb105, 0, none⟩ = some (.string ((rd_T78 l1_0 x30_2).f0)) ∧ w'.cell? ⟨gb105, 1, none⟩ = some (.int .i64 ((rd_T78 l1_0 x30_2).f1))) (ds := []) #[false, false, false, false, false, false, false, false, false, false, false, false] (by kernel_rfl) rfl rfl ⟨(blk_cell BK101.out 0).trans rfl, (blk_cell BK101.out 1).trans rfl, (blk_cell BK105.out 0).trans rfl, (blk_cell BK105.out 1).trans rfl⟩ (fun hHeld => ?_); refine with_tabW model_isSentry.tab6 model_isSentry.bits6 (fun HT_ HW_ => ?_)
                    generalize w48.drew = w49 at BK101 BK102 BK105 HB hHeld ⊢
                    refine tz_ 0 35 12 1 ?_
                    refine tz_ 1 36 12 3 ?_
                    refine one_ (i := 2) (N := some 37) #[true, true, true, false, false, false, false, false, false, false, false, false] rfl rfl (one_of HT_.out (by kernel_rfl)) (by decide) (fun K hK => ?_)
                    refine goes_ Tryz.func236 (by kernel_rfl) rfl #[.agg #[.slice A0_0 l0_0.length c0_0, .slice A0_1 l0_1.length c0_1], .agg #[.string ((rd_T78 l1_0 x30_2).f0), .int .i64 ((rd_T78 l1_0 x30_2).f1)]] (by rfl) rfl rfl (za) ?_
                    with_reducible refine (model_isOn.calls k2 _ _ l0_0 _ _ l0_1 ((rd_T78 l1_0 x30_2).f0) ((rd_T78 l1_0 x30_2).f1) false _ ?side1 ?side2 ?side3 ?side4 A20.out).mono ?_
                    (case side1 => exact zc (Kd.C_below HR0_0.out HB.out))
                    (case side2 => exact HC0_0.out)
                    (case side3 => exact zc (Kd.C_below HR0_1.out HB.out))
                    (case side4 => exact HC0_1.out)
                    rintro e w50 ⟨rfl, hb⟩
                    refine ⟨_, rfl, ?_⟩
                    replace BK101 := am (zw BK101.out hb)
                    replace BK102 := am (zw BK102.out hb)
                    replace BK105 := am (zw BK105.out hb)
                    replace HB := am (below_step (zb) hb)
                    (try clear hb)
                    (try clear hb2)
                    (try clear hk)
                    (try clear hi)
                    refine hK.out _ _ ⟨(blk_cell BK101.out 0).trans rfl, (blk_cell BK101.out 1).trans rfl, (blk_cell BK105.out 0).trans rfl, (blk_cell BK105.out 1).trans rfl⟩ (fun hHeld => ?_)
                    clear hK K
                    refine nz_ 37 ?_
                    refine pz_ 3 38 12 15 ?_
                    refine pz_ 4 39 12 31 ?_
                    refine pu_ 5 40 12 63 ?_
                    refine pu_ 6 41 12 127 ?_
                    refine pu_ 7 42 12 255 ?_
                    refine pu_ 8 43 12 511 ?_
                    refine pu_ 9 44 12 1023 ?_
                    refine pu_ 10 45 12 2047 ?_
                    refine pz_ 11 46 12 4095 ?_
                    refine done_ (done_of HT_.out (by kernel_rfl)) ?_
                    try go_wp2
                    go_ret
                    exact ⟨zf, zb⟩
                · rw [if_neg c19] at H
                  exact absurd H (by simp)
              · rw [if_neg c18] at H
                exact absurd H (by simp)
            · rw [if_neg c17] at H
              have c17b0 : decide (x30_2 < (l1_0.length : Int)) = false := decide_eq_false c17
              clear c17
              replace H := Option.bind_eq_some_iff.mp H
              obtain ⟨t103, A510, H⟩ := H
              replace H : (some (!t103)) = some r := H
              have A51 := am A510
              clear A510
              obtain rfl := Option.some.inj H
              have hnb52 := NB102_101.out
              have hnc52 := NB101_102.out
              obtain ⟨hcz53_0, hcz53_1, hfz53_0, hfz53_1⟩ := cf2 BK102.out
              obtain ⟨hcz54_0, hcz54_1, hfz54_0, hfz54_1⟩ := cf2 BK101.out
              go_wp2_with (first | ((with_reducible refine gc_ 238 ?_); refine goesL_ (some 51) rfl rfl Tryz.func238 (by kernel_rfl) rfl #[.slice A1_1 l1_1.length c1_1, .func (.func 239) #[] #[.pointer (some ⟨gb101, 0, none⟩)]] rfl (za) ?_; (refine (api_Cond_238.calls k2 _ _ l1_1 _ _ l0_0 _ _ l0_1 t103 _ ?side1 ?side2 ?side3 ?side4 ?side5 ?side6 (zl BK101.out) A51.out).mono ?_); (case side1 => exact zc (Kd.C_below HR1_1.out HB.out)); (case side2 => exact HC1_1.out); (case side3 => exact zc (Kd.C_below HR0_0.out HB.out)); (case side4 => exact HC0_0.out); (case side5 => exact zc (Kd.C_below HR0_1.out HB.out)); (case side6 => exact HC0_1.out); rintro e w55 ⟨rfl, hb⟩; refine ⟨_, rfl, ?_⟩; replace BK101 := am (zw BK101.out hb); replace BK102 := am (zw BK102.out hb); replace HB := am (below_step (zb) hb); (try clear hb); (try clear hb2); (try clear hk); (try clear hi)))
              go_ret
              exact ⟨zf, zb⟩
end Go.Proofs.YtpbembafpnknhaaGreat.Pr
namespace Go.Proofs.YtpbembafpnknhaaGreat.Pr
open Go.RowKit Go.Proofs.YtpbembafpnknhaaGreatW.PrintWords Go.Proofs.YtpbembafpnknhaaGreatW.PrintLast Go.Proofs.YtpbembafpnknhaaGreatW.PrintMore
set_option linter.unusedVariables false
set_option maxHeartbeats 800000 in
set_option maxRecDepth 100000 in
theorem api_Sentry_210_cl {W : World} {gb k : Nat} {A0 A1 : Option Addr} {c0 c1 : Nat} {l0 : List ByteArray} {l1 : List S47} {B0 B1 : Option Addr} {d0 d1 : Nat} {x : S29} (m0 : x.f0.length ≤ d0) (s0 : Kd.C k78 W B0 x.f0.length x.f0) (m1 : x.f1.length ≤ d1) (s1 : Kd.C k93 W B1 x.f1.length x.f1) (hbk : W.heap[gb]? = some (.cells #[.slice A0 l0.length c0, .slice A1 l1.length c1] 25 (0, 0))) (hr0 : Kd.C Kd.string W A0 l0.length l0) (hc0 : l0.length ≤ c0) (hr1 : Kd.C k47 W A1 l1.length l1) (hc1 : l1.length ≤ c1) (r : Bool) (h : model_isSentry.f k l0 l1 x.f0 x.f1 = some r) :
    Calls Tryz.prog 211 #[.agg #[.slice B0 x.f0.length d0, .slice B1 x.f1.length d1], .pointer (some ⟨gb, 0, none⟩)] W fun e w' => e = .returned (.bool (!r)) ∧ Below W.heap.size W w' := by
  have hu25 := Tryz.underlying25
  have hu29 := Tryz.underlying29
  have HI : ∀ W2, Below W.heap.size W W2 → Calls Tryz.prog 212 #[.agg #[.slice A0 l0.length c0, .slice A1 l1.length c1], .agg #[.slice B0 x.f0.length d0, .slice B1 x.f1.length d1]] W2 fun e w' => e = .returned (.bool r) ∧ Below W.heap.size W w' := fun W2 hW =>
    (model_isSentry.calls k _ _ l0 _ _ l1 _ _ x.f0 _ _ x.f1 r W2 (Kd.C_below hr0 hW) hc0 (Kd.C_below hr1 hW) hc1 (Kd.C_below s0 hW) m0 (Kd.C_below s1 hW) m1 h).mono (fun _ _ h => ⟨h.1, below_step hW h.2⟩)
  have HII := am HI
  have k0 : W.cell? ⟨gb, 0, none⟩ = some (.slice A0 l0.length c0) := (blk_cell hbk 0).trans rfl
  have k1 : W.cell? ⟨gb, 1, none⟩ = some (.slice A1 l1.length c1) := (blk_cell hbk 1).trans rfl
  have hlt := World.block_lt_of_cell? W _ k0
  have HB := am (Below.refl W.heap.size W)
  clear HI hbk
  go_enter Tryz.func211, Tryz.ntmps211
  go_wp2_with (first | (go_at_call 212; refine (HII.out _ (zb)).mono ?_; rintro e w7 ⟨rfl, hb⟩))
  go_ret
  exact ⟨rfl, hb⟩
def api_Sentry_210.f (k : Nat) (xs : List S29) (l0_0 : List ByteArray) (l0_1 : List S47) : Option Bool := notAll (fun x => model_isSentry.f k l0_0 l0_1 x.f0 x.f1) xs
theorem api_Sentry_210.mono : ∀ a0 a1 a2 k, LeO (api_Sentry_210.f k a0 a1 a2) (api_Sentry_210.f (k + 1) a0 a1 a2) := fun a0 a1 a2 k => notAll_mono (fun x => model_isSentry.mono _ _ _ _ _)
theorem api_Sentry_210.calls (k : Nat) (A : Option Addr) (c : Nat) (xs : List S29) (A0_0 : Option Addr) (c0_0 : Nat) (l0_0 : List ByteArray) (A0_1 : Option Addr) (c0_1 : Nat) (l0_1 : List S47) (r : Bool) (w : World) (hr : Kd.C k29 w A xs.length xs) (hc : xs.length ≤ c) (hr0_0 : Kd.C Kd.string w A0_0 l0_0.length l0_0) (hc0_0 : l0_0.length ≤ c0_0) (hr0_1 : Kd.C k47 w A0_1 l0_1.length l0_1) (hc0_1 : l0_1.length ≤ c0_1)
    {gb : Nat} (hbk : w.heap[gb]? = some (.cells #[.slice A0_0 l0_0.length c0_0, .slice A0_1 l0_1.length c0_1] 25 (0, 0))) (h : api_Sentry_210.f k xs l0_0 l0_1 = some r) :
    Calls Tryz.prog 210 #[.slice A xs.length c, .func (.func 211) #[] #[.pointer (some ⟨gb, 0, none⟩)]] w fun e w' => e = .returned (.bool r) ∧ Below w.heap.size w w' := by
  obtain ⟨hall, rfl⟩ := notAll_some h
  have hbig := hr.2.1
  obtain ⟨cs, hk, hK, hcc⟩ := C_cells z29 hr
  rw [← range_any z29]
  refine containsFuncSe A xs.length c 211 #[.pointer (some ⟨gb, 0, none⟩)] (enters_ Tryz.func211 rfl rfl) (fun j => model_isSentry.f k l0_0 l0_1 (xs.getD j z29).f0 (xs.getD j z29).f1 == some false) cs w hbig ?_ hk hcc
  intro j hj W hW
  obtain ⟨r0, hr0⟩ := Option.isSome_iff_exists.1 (hall (xs.getD j z29) (by rw [getD_at hj]; exact List.getElem_mem hj))
  obtain ⟨B0, d0, B1, d1, e, m0, s0, m1, s1⟩ := k29_open (hK j hj)
  rw [e]
  refine (api_Sentry_210_cl (k := k) m0 (Kd.C_below s0 hW) m1 (Kd.C_below s1 hW) (blk_below hbk hW) (Kd.C_below hr0_0 hW) hc0_0 (Kd.C_below hr0_1 hW) hc0_1 r0 hr0).mono ?_
  rintro e' w' ⟨rfl, h2⟩
  refine ⟨?_, below_step hW h2⟩
  rw [hr0]
  cases r0 <;> rfl
end Go.Proofs.YtpbembafpnknhaaGreat.Pr
namespace Go.Proofs.YtpbembafpnknhaaGreat.Pr
open Go.RowKit Go.Proofs.YtpbembafpnknhaaGreatW.PrintWords Go.Proofs.YtpbembafpnknhaaGreatW.PrintLast Go.Proofs.YtpbembafpnknhaaGreatW.PrintMore
attribute [local go_sem] max2_int min2_int max_two min_two max_three min_three max_four min_four   -- for this text's walks alone
set_option linter.unusedVariables false
set_option linter.unusedSimpArgs false
def model_areSentries.f (k : Nat) (l0_0 : List ByteArray) (l0_1 : List (S47)) (l1 : List (S29)) : Option (Bool) := if (l1.length : Int) ≤ 3 then ((api_Sentry_210.f k l1 l0_0 l0_1).bind fun t102 => (some (!t102))) else (some false)
theorem model_areSentries.mono : ∀ a0 a1 a2 k, LeO (model_areSentries.f k a0 a1 a2) (model_areSentries.f (k + 1) a0 a1 a2) := by
  intro a0 a1 a2 k
  unfold model_areSentries.f
  repeat' first
      | (with_reducible exact api_Sentry_210.mono _ _ _ _)
      | (with_reducible exact LeO.refl _)
      | (with_reducible exact LeO.none _)
      | (with_reducible refine LeO.ite ?_ ?_)
      | (with_reducible refine LeO.bind ?_ (fun _ => ?_))
      | exact api_Sentry_210.mono _ _ _ _
      | exact LeO.none _
      | refine LeO.ite ?_ ?_
      | refine LeO.bind ?_ (fun _ => ?_)
set_option maxHeartbeats 8000000 in
set_option maxRecDepth 100000 in
theorem model_areSentries.calls (k : Nat) (A0_0 : Option Addr) (c0_0 : Nat) (l0_0 : List ByteArray) (A0_1 : Option Addr) (c0_1 : Nat) (l0_1 : List (S47)) (A1 : Option Addr) (c1 : Nat) (l1 : List (S29)) (r : Bool) (w : World) (hr0_0 : Kd.C Kd.string w A0_0 l0_0.length l0_0) (hc0_0 : l0_0.length ≤ c0_0) (hr0_1 : Kd.C k47 w A0_1 l0_1.length l0_1) (hc0_1 : l0_1.length ≤ c0_1) (hr1 : Kd.C k29 w A1 l1.length l1) (hc1 : l1.length ≤ c1) (h : model_areSentries.f k l0_0 l0_1 l1 = some r) :
    Calls Tryz.prog 158 #[.agg #[.slice A0_0 l0_0.length c0_0, .slice A0_1 l0_1.length c0_1], .slice A1 l1.length c1] w fun e w' => e = .returned (.bool r) ∧ Below w.heap.size w w' := by
  have hu25 := Tryz.underlying25
  have HR0_0 := am hr0_0
  have HC0_0 := am hc0_0
  clear hr0_0 hc0_0
  have HR0_1 := am hr0_1
  have HC0_1 := am hc0_1
  clear hr0_1 hc0_1
  have HR1 := am hr1
  have HC1 := am hc1
  clear hr1 hc1
  have HB := am (Below.refl w.heap.size w)
  have H : (if (l1.length : Int) ≤ 3 then ((api_Sentry_210.f k l1 l0_0 l0_1).bind fun t102 => (some (!t102))) else (some false)) = some r := h
  clear h
  by_cases c3 : (l1.length : Int) ≤ 3
  · rw [if_pos c3] at H
    have c3b0 : decide ((l1.length : Int) ≤ 3) = true := decide_eq_true c3
    have c3b1 : decide (l1.length ≤ 3) = true := decide_eq_true (by omega)
    clear c3
    replace H := Option.bind_eq_some_iff.mp H
    obtain ⟨t102, A40, H⟩ := H
    replace H : (some (!t102)) = some r := H
    have A4 := am A40
    clear A40
    obtain rfl := Option.some.inj H
    go_enter Tryz.func158, Tryz.ntmps158
    go_wp2_with (first | ((with_reducible refine gd_ 2 ?_); refine bx_ 2 #[.slice A0_0 l0_0.length c0_0, .slice A0_1 l0_1.length c0_1] 25 ?_; intro gb101 hg w5 hbox hb; have BK101 := am (hbox); have GW101 := am (zg : w.heap.size ≤ gb101); have GE101 := am (zg : w.heap.size ≤ gb101); replace HB := am (below_step (zb) hb); clear hb hbox hg; obtain ⟨hcz6_0, hcz6_1, hfz6_0, hfz6_1⟩ := cf2 BK101.out) | (go_at_call 210; (refine (api_Sentry_210.calls k _ _ l1 _ _ l0_0 _ _ l0_1 t102 _ ?side1 ?side2 ?side3 ?side4 ?side5 ?side6 (zl BK101.out) A4.out).mono ?_); (case side1 => exact zc (Kd.C_below HR1.out HB.out)); (case side2 => exact HC1.out); (case side3 => exact zc (Kd.C_below HR0_0.out HB.out)); (case side4 => exact HC0_0.out); (case side5 => exact zc (Kd.C_below HR0_1.out HB.out)); (case side6 => exact HC0_1.out); rintro e w7 ⟨rfl, hb⟩; replace BK101 := am (zw BK101.out hb); replace HB := am (below_step (zb) hb); (try clear hb); (try clear hb2); (try clear hk); (try clear hi)))
    go_ret
    exact ⟨zf, zb⟩
  · rw [if_neg c3] at H
    have c3b0 : decide ((l1.length : Int) ≤ 3) = false := decide_eq_false c3
    have c3b1 : decide (l1.length ≤ 3) = false := decide_eq_false (by omega)
    clear c3
    obtain rfl := Option.some.inj H
    go_enter Tryz.func158, Tryz.ntmps158
    go_wp2_with (first | ((with_reducible refine gd_ 2 ?_); refine bx_ 2 #[.slice A0_0 l0_0.length c0_0, .slice A0_1 l0_1.length c0_1] 25 ?_; intro gb101 hg w8 hbox hb; have BK101 := am (hbox); have GW101 := am (zg : w.heap.size ≤ gb101); have GE101 := am (zg : w.heap.size ≤ gb101); replace HB := am (below_step (zb) hb); clear hb hbox hg))
    go_ret
    exact ⟨zf, zb⟩
end Go.Proofs.YtpbembafpnknhaaGreat.Pr
