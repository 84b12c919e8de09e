/- Proof texts of one seat, in one file: an evaluator of the program's form, shown sound, and the functions told by it. There are no conditions but those that each theorem names. -/
import Derived.Test.YtpbembafpnknhaaGreatAb0
import Derived.Test.YtpbembafpnknhaaGreatAb1
import Derived.Test.YtpbembafpnknhaaGreatAb2
import Derived.Test.YtpbembafpnknhaaGreatAb3
import Derived.Test.YtpbembafpnknhaaGreatAb4
import Derived.Test.YtpbembafpnknhaaGreatAb5
set_option linter.unusedVariables false
set_option linter.unusedSimpArgs false
set_option linter.unusedSectionVars false
set_option linter.unnecessarySimpa false
namespace Go.Ab
open Go.Proofs Sn
set_option maxRecDepth 100000
set_option linter.unnecessarySimpa false
set_option linter.unusedSimpArgs false
set_option maxHeartbeats 4000000
theorem flt_kids {l : List S47} {s : ByteArray} (hs : s ≠ ByteArray.empty) : (flt l).filter (fun y => sEq y.f2 s) = kidsOf S47.f2 l s := by
  unfold flt kidsOf
  rw [List.filter_filter]
  refine List.filter_congr fun y _ => ?_
  rw [Bool.eq_iff_iff, Bool.and_eq_true, sEq_iff, decide_eq_true_iff]
  refine ⟨fun h => h.1, fun h => ⟨h, ?_⟩⟩
  cases hr : isR y with
  | false => rfl
  | true => exact absurd (h.symm.trans (isR_iff.1 hr)) hs
theorem c156 {L : List S47} {r : S47} (h : Rooted S47.f0 S47.f2 L r) (he : r.f2 = ByteArray.empty) (hl16 : L.length ≤ 16) : ∀ (k d : Nat) (x : S47), d + k = 16 → x ∈ L → Anc S47.f0 S47.f2 L r x d → PCall cx.P 156 [.row 7 ((flt L).map enc47), .agg (enc47 x)] (.row 7 ((preU L k x).map enc47)) := by
  intro k
  induction k with
  | zero =>
    intro d x hd hx ha
    have := depth16 h hl16 hx ha
    omega
  | succ k ih =>
    intro d x hd hx ha
    have hx0 : x.f0 ≠ ByteArray.empty := by rw [← he]; exact h.top x hx
    obtain ⟨K, hK⟩ : ∃ K, K = flt L := ⟨_, rfl⟩
    have hKk := flt_kids (l := L) hx0
    have hKL : ∀ y ∈ K, y ∈ L := fun y hy => by rw [hK] at hy; exact (List.mem_filter.1 hy).1
    have hKl : K.length ≤ 16 := by rw [hK]; exact Nat.le_trans (List.length_filter_le _ _) hl16
    rw [← hK] at hKk ih ⊢
    have hE : (K.map enc47).length = K.length := List.length_map _
    obtain ⟨Z, hZ⟩ : ∃ Z : Nat → List S47, Z = fun j => x :: ((K.take j).filter (fun y => sEq y.f2 x.f0)).flatMap (preU L k) := ⟨_, rfl⟩
    have hZe : Z K.length = preU L (k + 1) x := by
      rw [hZ]
      show x :: ((K.take K.length).filter _).flatMap _ = _
      rw [List.take_length, hKk]
      rfl
    have hZy : ∀ j y, K[j]? = some y → sEq y.f2 x.f0 = true → Z (j + 1) = Z j ++ preU L k y := fun j y hy hs => by
      rw [hZ]
      show x :: ((K.take (j + 1)).filter _).flatMap _ = (x :: ((K.take j).filter _).flatMap _) ++ _
      rw [snoc_take hy, List.filter_append, List.filter_cons, if_pos hs, List.flatMap_append, List.cons_append]
      congr 2
      exact List.append_nil _
    have hZn : ∀ j y, K[j]? = some y → sEq y.f2 x.f0 = false → Z (j + 1) = Z j := fun j y hy hs => by
      rw [hZ]
      show x :: ((K.take (j + 1)).filter _).flatMap _ = x :: ((K.take j).filter _).flatMap _
      rw [snoc_take hy, List.filter_append, List.filter_cons, if_neg (by rw [hs]; decide)]
      show _ = x :: ((K.take j).filter _).flatMap _
      rw [List.filter_nil, List.append_nil]
    have hZl : ∀ j, j ≤ K.length → (Z j).length ≤ 16 := fun j hj => by
      refine Nat.le_trans ?_ (Nat.le_trans (pre_lenR h isOrd_id (f := fun x => x) (fun _ => rfl) (k + 1) hx ha) hl16)
      show _ ≤ (preU L (k + 1) x).length
      rw [← hZe, hZ]
      show (x :: ((K.take j).filter _).flatMap _).length ≤ (x :: ((K.take K.length).filter _).flatMap _).length
      rw [List.length_cons, List.length_cons]
      refine Nat.succ_le_succ ?_
      rw [List.take_length]
      conv => rhs; rw [← List.take_append_drop j K]
      rw [List.filter_append, List.flatMap_append, List.length_append]
      exact Nat.le_add_right _ _
    refine pcall3 Tryz.f156 (by kernel_rfl) (by kernel_rfl) ?_
    conv => whnf
    refine .inr (.inl ⟨[0, 3, 5, 10, 11, 12], Nat, fun j => ([(0, .row 7 (K.map enc47)), (3, .bptr 208 0), (5, .own 7 336 0 ((Z j).map enc47).length .opn), (10, .row 7 (K.map enc47)), (11, .int .i64 K.length), (12, .int .i64 j)],
      [(336, .live (.arr 7 ((Z j).map enc47))), (208, .live (.box (enc47 x)))]), fun j => j ≤ K.length, fun j => K.length - j, ?_, fun j hj => ?_⟩)
    · conv => whnf
      refine ⟨0, ?_, Nat.zero_le _⟩
      dsimp only
      rw [show Z 0 = [x] from by rw [hZ]; rfl, ← hE]
      exact .le (.cons _ _ _ _ _ .refl <| .cons _ _ _ _ _ .refl <| .cons _ _ _ _ _ .opn <| .refl _) (.refl _)
    · have hj : j ≤ K.length := hj
      have hZb := hZl j hj
      have hZE : ((Z j).map enc47).length = (Z j).length := List.length_map _
      conv => whnf
      refine ⟨fun w1 => ?_, fun w1 => ?_⟩
      · replace w1 := lti w1
        obtain ⟨y, hy⟩ := at_ex w1
        conv => whnf
        refine ⟨⟨Int.natCast_nonneg _, by omega⟩, ?_⟩
        conv => whnf
        conv => whnf
        refine ⟨_, map_at hy, ?_⟩
        conv => whnf
        conv => whnf
        refine ⟨fun w2 => ?_, fun w2 => ?_⟩
        · have hya : Anc S47.f0 S47.f2 L r y (d + 1) := by
            have := Anc.trans (m := 1) ⟨x, hx, ((sEq_iff _ _).1 w2).symm, rfl⟩ ha
            rwa [Nat.add_comm] at this
          have h156 := ih (d + 1) y (by omega) (hKL y (List.mem_of_getElem? hy)) hya
          have hZb2 := hZl (j + 1) w1
          rw [hZy j y hy w2, List.length_append] at hZb2
          conv => whnf
          refine ⟨_, h156, ?_⟩
          conv => whnf
          conv => whnf
          refine ⟨⟨Nat.zero_add _, by rw [List.length_map, List.length_map]; show (_ + _) * 104 ≤ 2 ^ 47; omega⟩, ?_⟩
          conv => whnf
          conv => whnf
          refine ⟨j + 1, ?_, w1, by show K.length - (j + 1) < K.length - j; omega⟩
          dsimp only
          rw [hZy j y hy w2, up1 w1 (by omega), List.map_append, List.length_append]
          exact .of rfl
        · conv => whnf
          refine ⟨j + 1, ?_, w1, by show K.length - (j + 1) < K.length - j; omega⟩
          dsimp only
          rw [hZn j y hy w2, up1 w1 (by omega)]
          exact .of rfl
      · replace w1 := nlti w1
        conv => whnf
        refine ⟨by omega, ?_⟩
        conv => whnf
        conv => whnf
        exact .of (by rw [List.drop_zero, show j = K.length by omega, hZe])
theorem c105 {s : St} (h : Nice s) (hf : s.1.length ≤ 1024) (hm : s.2.length ≤ 1024) : ∃ p : St, PCall cx.P 105 [encM s.1 s.2] (.tup [encM p.1 p.2, .bool (ordO s).isSome]) ∧ ∀ n, ordO s = some n → n = p := by
  obtain ⟨fs, xs⟩ := s
  have hf : fs.length ≤ 1024 := hf
  have hm : xs.length ≤ 1024 := hm
  show ∃ p : St, PCall cx.P 105 [encM fs xs] (.tup [encM p.1 p.2, .bool (ordO (fs, xs)).isSome]) ∧ ∀ n, ordO (fs, xs) = some n → n = p
  have hodd : xs.any odd = false := by
    rw [List.any_eq_false]
    intro x hx
    unfold odd
    rw [h.names x hx]
    decide
  have h110 := c110p xs (by omega)
  rw [hodd] at h110
  have h155 := c155a xs (by omega)
  have no : ordO (fs, xs) = none → PCall cx.P 105 [encM fs xs] (.tup [.agg [.nils, .nils], .lit false]) → ∃ p : St, PCall cx.P 105 [encM fs xs] (.tup [encM p.1 p.2, .bool (ordO (fs, xs)).isSome]) ∧ ∀ n, ordO (fs, xs) = some n → n = p := fun hn hc => ⟨([], []), by rw [hn]; exact hc.to (.tup2 (.agg2 .nils .nils) (.lit rfl)), fun n e => by rw [hn] at e; cases e⟩
  have hE : (xs.map enc47).length = xs.length := List.length_map _
  by_cases hroot : 0 ≤ firstAt (fun j => isR (xs.getD j z47)) xs.length
  · obtain ⟨i, hi, hp, hb, hfi⟩ := firstAt_at hroot
    rw [hfi] at h155
    have hx : xs[i]? = some (xs.getD i z47) := by rw [getD_of hi]; exact List.getElem?_eq_getElem hi
    generalize xs.getD i z47 = r at hx hp
    have hr : r ∈ xs := List.mem_of_getElem? hx
    have he : r.f2 = ByteArray.empty := isR_iff.1 hp
    by_cases hlen : 16 < xs.length
    · refine no (ord_long hlen) (pcall3 Tryz.f105 (by kernel_rfl) (by kernel_rfl) ?_)
      unfold encM
      conv => whnf
      refine ⟨_, _, h155, ?_⟩
      conv => whnf
      conv => whnf
      refine ⟨fun w1 => ?_, fun w1 => ?_⟩
      · have := of_decide_eq_true w1
        omega
      · conv => whnf
        refine ⟨fun w2 => ?_, fun w2 => ?_⟩
        · conv => whnf
          exact .of rfl
        · have := of_decide_eq_false w2
          omega
    · have hR := h.rooted hr he
      have hl16 : xs.length ≤ 16 := by omega
      have h156 := c156 hR he hl16 16 0 r rfl hr rfl
      have h135 := c135 xs (by omega)
      have h157 := c157 xs (by omega)
      have hU := pre_lenR hR isOrd_id (f := fun x => x) (fun _ => rfl) 16 hr (show Anc S47.f0 S47.f2 xs r r 0 from rfl)
      have hUe : ((preU xs 16 r).map enc47).length = (preU xs 16 r).length := List.length_map _
      have hFe : ((flt xs).map enc47).length = (flt xs).length := List.length_map _
      by_cases hlu : (preU xs 16 r).length = xs.length
      · obtain ⟨k1, k2⟩ := len_U h hr he hlu
        have hU0 : ∃ F, preU xs 16 r = r :: F := ⟨_, rfl⟩
        obtain ⟨F, hF⟩ := hU0
        have h36 := c36t (fs := fs) (r := r) (F := F) (by omega) (by rw [← hF]; exact rooted_perm hR k2) (by rw [← hF, hlu]; exact hl16) (fun x hx => by
          rw [← hF] at hx
          have := h.nm x (k2.mem_iff.1 hx)
          exact ⟨this.2.1, this.2.2⟩)
        rw [← hF] at h36
        have hN : preN (preU xs 16 r) r = preN xs r := pre_of_perm h.xn k2 nIt 16 r
        rw [hN] at h36
        have hlast := ord_last h hr he hl16 k1
        have hsz : SzM (sortL cmpS fs) (preN xs r) := ⟨by rw [sortL_length]; omega, by have : (preN xs r).length = xs.length := k1; omega, fun x hx => by
          obtain ⟨y, n, e, hy, _⟩ := (mem_pre isOrd_ID hr).1 hx
          have hy := h.nm y hy
          rw [e, hy.1]
          exact ⟨⟨Nat.le_trans hy.2.1.1 (by decide), fun x hx => ⟨Nat.le_trans (hy.2.1.2 x hx).1 (by decide), Nat.le_trans (hy.2.1.2 x hx).2 (by decide)⟩⟩, Nat.le_trans hy.2.2.1 (by decide), fun x hx => ⟨Nat.le_trans (hy.2.2.2 x hx).1 (by decide), Nat.le_trans (hy.2.2.2 x hx).2 (by decide)⟩⟩⟩
        have h62 := c62 (sortL cmpS fs) (preN xs r) hsz
        refine ⟨(sortL cmpS fs, preN xs r), PCall.to (pcall3 Tryz.f105 (by kernel_rfl) (by kernel_rfl) (r := .tup [encM (sortL cmpS fs) (preN xs r), .bool (isB (sortL cmpS fs) (preN xs r))]) ?_) (.tup2 .refl (.bool ?_)), fun n e => ?_⟩
        · unfold encM at h36 h62 ⊢
          conv => whnf
          refine ⟨_, _, h155, ?_⟩
          conv => whnf
          conv => whnf
          refine ⟨fun w1 => ?_, fun w1 => ?_⟩
          · have := of_decide_eq_true w1
            omega
          · conv => whnf
            refine ⟨fun w2 => ?_, fun w2 => ?_⟩
            · have := of_decide_eq_true w2
              omega
            · conv => whnf
              refine ⟨_, _, h110, ?_⟩
              conv => whnf
              conv => whnf
              refine ⟨fun w3 => ?_, fun w3 => ?_⟩
              · cases w3
              · conv => whnf
                refine ⟨_, _, h135, ?_⟩
                conv => whnf
                conv => whnf
                refine ⟨_, _, h157, ?_⟩
                conv => whnf
                conv => whnf
                refine ⟨⟨Int.natCast_nonneg _, by omega⟩, ?_⟩
                conv => whnf
                conv => whnf
                refine ⟨_, map_at hx, ?_⟩
                conv => whnf
                conv => whnf
                refine ⟨by omega, ?_⟩
                conv => whnf
                conv => whnf
                rw [List.drop_zero]
                refine ⟨_, h156, ?_⟩
                conv => whnf
                conv => whnf
                refine ⟨by kernel_rfl, ?_⟩
                conv => whnf
                conv => whnf
                refine ⟨fun w4 => ?_, fun w4 => ?_⟩
                · exact absurd (congrArg (fun n : Nat => (n : Int)) (hUe.trans (hlu.trans hE.symm))) (ne_of_bne w4)
                · conv => whnf
                  refine ⟨_, h36, ?_⟩
                  conv => whnf
                  conv => whnf
                  conv => whnf
                  refine ⟨_, h62, ?_⟩
                  conv => whnf
                  conv => whnf
                  refine ⟨by kernel_rfl, ?_⟩
                  conv => whnf
                  conv => whnf
                  exact .of rfl
        · rw [hlast]
          cases isB (sortL cmpS fs) (preN xs r) <;> rfl
        · rw [hlast] at e
          cases hB : isB (sortL cmpS fs) (preN xs r) with
          | true => rw [hB] at e; cases e; rfl
          | false => rw [hB] at e; cases e
      · refine no (ord_no_reach h hr he hlu) (pcall3 Tryz.f105 (by kernel_rfl) (by kernel_rfl) ?_)
        unfold encM
        conv => whnf
        refine ⟨_, _, h155, ?_⟩
        conv => whnf
        conv => whnf
        refine ⟨fun w1 => ?_, fun w1 => ?_⟩
        · have := of_decide_eq_true w1
          omega
        · conv => whnf
          refine ⟨fun w2 => ?_, fun w2 => ?_⟩
          · have := of_decide_eq_true w2
            omega
          · conv => whnf
            refine ⟨_, _, h110, ?_⟩
            conv => whnf
            conv => whnf
            refine ⟨fun w3 => ?_, fun w3 => ?_⟩
            · cases w3
            · conv => whnf
              refine ⟨_, _, h135, ?_⟩
              conv => whnf
              conv => whnf
              refine ⟨_, _, h157, ?_⟩
              conv => whnf
              conv => whnf
              refine ⟨⟨Int.natCast_nonneg _, by omega⟩, ?_⟩
              conv => whnf
              conv => whnf
              refine ⟨_, map_at hx, ?_⟩
              conv => whnf
              conv => whnf
              refine ⟨by omega, ?_⟩
              conv => whnf
              conv => whnf
              rw [List.drop_zero]
              refine ⟨_, h156, ?_⟩
              conv => whnf
              conv => whnf
              refine ⟨by kernel_rfl, ?_⟩
              conv => whnf
              conv => whnf
              refine ⟨fun w4 => ?_, fun w4 => ?_⟩
              · conv => whnf
                exact .of rfl
              · have w4' : ((preU xs 16 r).map enc47).length = (xs.map enc47).length := Int.ofNat.inj (eq_of_bne w4)
                exact absurd (hUe.symm.trans (w4'.trans hE)) hlu
  · have hn1 : firstAt (fun j => isR (xs.getD j z47)) xs.length = -1 := by
      refine firstAt_miss fun j hj => ?_
      cases hr : isR (xs.getD j z47) with
      | false => rfl
      | true => exact absurd ((firstAt_ge (p := fun j => isR (xs.getD j z47)) (n := xs.length)).2 ⟨j, hj, hr⟩) hroot
    rw [hn1] at h155
    refine no (ord_no_root fun x hx hx2 => ?_) (pcall3 Tryz.f105 (by kernel_rfl) (by kernel_rfl) ?_)
    · obtain ⟨j, hj, e⟩ := mem_getD (z := z47) hx
      exact hroot ((firstAt_ge (p := fun j => isR (xs.getD j z47)) (n := xs.length)).2 ⟨j, hj, by rw [e]; exact isR_iff.2 hx2⟩)
    · unfold encM
      conv => whnf
      refine ⟨_, _, h155, ?_⟩
      conv => whnf
      conv => whnf
      refine ⟨fun w1 => ?_, fun w1 => ?_⟩
      · conv => whnf
        exact .of rfl
      · cases w1
end Go.Ab
namespace Go.Ab
open Go.Proofs Sn
set_option maxRecDepth 100000
set_option linter.unnecessarySimpa false
set_option linter.unusedSimpArgs false
set_option maxHeartbeats 4000000
def mS (F : List ByteArray) (X : List S47) : Sto := [(34, .live (.arr 7 (X.map enc47))), (33, .live (.arr 1 (F.map encT))), (32, .live (.box [.own 1 33 0 (F.map encT).length .opn, .own 7 34 0 (X.map enc47).length .opn]))]
def mR (F : List ByteArray) (X : List S47) : Sto := [(32, .live (.box [.own 1 33 0 (F.map encT).length .opn, .own 7 34 0 (X.map enc47).length .opn])), (33, .live (.arr 1 (F.map encT))), (34, .live (.arr 7 (X.map enc47)))]
def mF (F : List ByteArray) (X : List S47) : Sto := [(48, .live (.arr 1 (F.map encT))), (32, .live (.box [.own 1 48 0 (F.map encT).length .opn, .own 7 34 0 (X.map enc47).length .opn])), (33, .dead), (34, .live (.arr 7 (X.map enc47)))]
def mX (F : List ByteArray) (X : List S47) : Sto := [(49, .live (.arr 7 (X.map enc47))), (32, .live (.box [.own 1 33 0 (F.map encT).length .opn, .own 7 49 0 (X.map enc47).length .opn])), (33, .live (.arr 1 (F.map encT))), (34, .dead)]
theorem delS_idx {F : List ByteArray} {s : ByteArray} {i : Nat} (hn : F.Nodup) (hi : F[i]? = some s) : F.eraseIdx i = delS F s := by
  obtain ⟨h1, h2⟩ := List.getElem?_eq_some_iff.1 hi
  have hF : F = F.take i ++ s :: F.drop (i + 1) := by rw [← h2, ← List.drop_eq_getElem_cons h1, List.take_append_drop]
  rw [List.eraseIdx_eq_take_drop_succ]
  unfold delS
  conv => rhs; rw [hF]
  rw [hF] at hn
  obtain ⟨_, n2, n3⟩ := List.nodup_append.1 hn
  have n4 := (List.nodup_cons.1 n2).1
  rw [List.filter_append, List.filter_cons, if_neg (by simp), List.filter_eq_self.2 fun a ha => decide_eq_true (n3 a ha s (List.mem_cons_self ..)), List.filter_eq_self.2 fun a ha => decide_eq_true (show a ≠ s from fun e => n4 (e ▸ ha))]
theorem delI_idx {X : List S47} {x : S47} {i : Nat} (hn : (X.map S47.f0).Nodup) (hi : X[i]? = some x) : X.eraseIdx i = delI X x.f0 := by
  obtain ⟨h1, h2⟩ := List.getElem?_eq_some_iff.1 hi
  have hF : X = X.take i ++ x :: X.drop (i + 1) := by rw [← h2, ← List.drop_eq_getElem_cons h1, List.take_append_drop]
  rw [List.eraseIdx_eq_take_drop_succ]
  unfold delI
  conv => rhs; rw [hF]
  rw [hF, List.map_append, List.map_cons] at hn
  obtain ⟨_, n2, n3⟩ := List.nodup_append.1 hn
  have n4 := (List.nodup_cons.1 n2).1
  rw [List.filter_append, List.filter_cons, if_neg (by simp), List.filter_eq_self.2 fun a ha => decide_eq_true (n3 a.f0 (List.mem_map_of_mem ha) x.f0 (List.mem_cons_self ..)), List.filter_eq_self.2 fun a ha => decide_eq_true (show a.f0 ≠ x.f0 from fun e => n4 (by rw [← e]; exact List.mem_map_of_mem ha))]
theorem updI_idx {X : List S47} {x : S47} {i : Nat} {e : S62} (hn : (X.map S47.f0).Nodup) (hi : X[i]? = some x) (he : x.f0 = e.f0) : X.set i (setF x e) = updI X e := by
  obtain ⟨h1, h2⟩ := List.getElem?_eq_some_iff.1 hi
  have hF : X = X.take i ++ x :: X.drop (i + 1) := by rw [← h2, ← List.drop_eq_getElem_cons h1, List.take_append_drop]
  unfold updI
  rw [List.set_eq_take_append_cons_drop, if_pos h1]
  conv => rhs; rw [hF]
  rw [hF, List.map_append, List.map_cons] at hn
  obtain ⟨_, n2, n3⟩ := List.nodup_append.1 hn
  have n4 := (List.nodup_cons.1 n2).1
  have key : ∀ l : List S47, (∀ a ∈ l, a.f0 ≠ e.f0) → l.map (fun x => if x.f0 = e.f0 then setF x e else x) = l := fun l h => by
    conv => rhs; rw [← List.map_id l]
    exact List.map_congr_left fun a ha => if_neg (h a ha)
  rw [List.map_append, List.map_cons, if_pos he, key _ fun a ha h => n3 a.f0 (List.mem_map_of_mem ha) x.f0 (List.mem_cons_self ..) (h.trans he.symm), key _ fun a ha h => n4 (by rw [he, ← h]; exact List.mem_map_of_mem ha)]
theorem idx_at {F : List ByteArray} {s : ByteArray} (h : 0 ≤ idx F s) : ∃ i : Nat, idx F s = i ∧ F[i]? = some s := by
  obtain ⟨i, hi, h1, _, h2⟩ := firstAt_at h
  refine ⟨i, h2, ?_⟩
  have : s = F.getD i ByteArray.empty := bs_inj (eq_of_beq h1)
  rw [this, getD_of hi]
  exact List.getElem?_eq_getElem hi
theorem idx_hs {F : List ByteArray} {s : ByteArray} : decide (idx F s ≥ 0) = hasS F s := bool_of (by rw [decide_eq_true_iff, hasS_iff]; exact idx_ge)
theorem c150n (F : List ByteArray) (X : List S47) (e : S62) (hF : F.length ≤ 1024) (h : hasS F e.f0 = e.f2) : ACall cx.P 150 [.bptr 32 0, .agg (enc62 e)] (mS F X) (.lit false) (mR F X) := acallA [] Tryz.f150 (by kernel_rfl) (by kernel_rfl) rfl <| by
  have h141 := c141 F e.f0 (by omega)
  have hE : (F.map encT).length = F.length := List.length_map _
  conv => whnf
  refine ⟨by omega, ?_⟩
  conv => whnf
  conv => whnf
  refine ⟨_, h141, ?_⟩
  conv => whnf
  conv => whnf
  refine ⟨by kernel_rfl, ?_⟩
  conv => whnf
  conv => whnf
  rw [idx_hs]
  refine ⟨fun w1 => ?_, fun w1 => ?_⟩
  · conv => whnf
    exact .of rfl
  · rw [h] at w1
    simp at w1
theorem c150a (F : List ByteArray) (X : List S47) (e : S62) (hF : F.length ≤ 1024) (h : hasS F e.f0 = false) (he : e.f2 = true) : ACall cx.P 150 [.bptr 32 0, .agg (enc62 e)] (mS F X) (.lit true) (mF (F ++ [e.f0]) X) := acallA [] Tryz.f150 (by kernel_rfl) (by kernel_rfl) rfl <| by
  have h141 := c141 F e.f0 (by omega)
  have hE : (F.map encT).length = F.length := List.length_map _
  conv => whnf
  refine ⟨by omega, ?_⟩
  conv => whnf
  conv => whnf
  refine ⟨_, h141, ?_⟩
  conv => whnf
  conv => whnf
  refine ⟨by kernel_rfl, ?_⟩
  conv => whnf
  conv => whnf
  rw [idx_hs]
  refine ⟨fun w1 => ?_, fun w1 => ?_⟩
  · rw [h, he] at w1
    cases w1
  · conv => whnf
    refine ⟨fun w2 => ?_, fun w2 => ?_⟩
    · conv => whnf
      refine ⟨by simpa using by omega, ?_⟩
      conv => whnf
      conv => whnf
      refine ⟨by simpa using by omega, ?_⟩
      conv => whnf
      conv => whnf
      refine ⟨by kernel_rfl, ?_⟩
      conv => whnf
      conv => whnf
      unfold mF
      rw [List.map_append, List.length_append]
      exact .of rfl
    · rw [he] at w2
      cases w2
theorem c150d (F : List ByteArray) (X : List S47) (e : S62) (hn : F.Nodup) (hF : F.length ≤ 1024) (h : hasS F e.f0 = true) (he : e.f2 = false) : ACall cx.P 150 [.bptr 32 0, .agg (enc62 e)] (mS F X) (.lit true) (mR (delS F e.f0) X) := acallA [] Tryz.f150 (by kernel_rfl) (by kernel_rfl) rfl <| by
  have h141 := c141 F e.f0 (by omega)
  have hE : (F.map encT).length = F.length := List.length_map _
  have hge : 0 ≤ idx F e.f0 := idx_ge.2 (hasS_iff.1 h)
  obtain ⟨i, hi, hx⟩ := idx_at hge
  have hil := (List.getElem?_eq_some_iff.1 hx).1
  have h206 := c206 F i hil (by omega)
  rw [delS_idx hn hx] at h206
  conv => whnf
  refine ⟨by omega, ?_⟩
  conv => whnf
  conv => whnf
  refine ⟨_, h141, ?_⟩
  conv => whnf
  conv => whnf
  refine ⟨by kernel_rfl, ?_⟩
  conv => whnf
  conv => whnf
  rw [idx_hs]
  refine ⟨fun w1 => ?_, fun w1 => ?_⟩
  · rw [h, he] at w1
    cases w1
  · conv => whnf
    refine ⟨fun w2 => ?_, fun w2 => ?_⟩
    · rw [he] at w2
      cases w2
    · conv => whnf
      rw [hi, up1 hil (by omega)]
      refine ⟨_, _, h206, ?_⟩
      conv => whnf
      conv => whnf
      exact .of rfl
end Go.Ab
namespace Go.Ab
open Go.Proofs Sn
set_option maxRecDepth 100000
set_option linter.unnecessarySimpa false
set_option linter.unusedSimpArgs false
set_option maxHeartbeats 4000000
theorem place_has {X : List S47} {id : ByteArray} (h : hasI X id = true) : ∃ i : Nat, placeOf X id = i ∧ X[i]? = some (getI X id) := by
  have h0 := of_decide_eq_true h
  obtain ⟨i, hi, _, _, hp⟩ := placeOf_lt h0
  refine ⟨i, hp, ?_⟩
  unfold getI
  rw [h, hp, Int.toNat_natCast, getD_of hi]
  exact List.getElem?_eq_getElem hi
theorem place_no {X : List S47} {id : ByteArray} (h : hasI X id = false) : placeOf X id = -1 := by
  have h0 : ¬ 0 ≤ placeOf X id := of_decide_eq_false h
  rcases placeOf_rng X id with e | ⟨i, _, e⟩
  · exact e
  · omega
theorem c149n (F : List ByteArray) (X : List S47) (e : S62) (hX : X.length ≤ 1024) (h : hasI X e.f0 = false) (he : e.f2 = false) : ACall cx.P 149 [.bptr 32 0, .agg (enc62 e)] (mS F X) (.lit false) (mR F X) := acallA [] Tryz.f149 (by kernel_rfl) (by kernel_rfl) rfl <| by
  have h151 := c151 F X e.f0 (by omega)
  rw [place_no h] at h151
  have hE : (X.map enc47).length = X.length := List.length_map _
  have hE' : (F.map encT).length = F.length := List.length_map _
  unfold encM at h151
  conv => whnf
  refine ⟨by omega, ?_⟩
  conv => whnf
  conv => whnf
  refine ⟨by omega, ?_⟩
  conv => whnf
  conv => whnf
  simp only [List.drop_zero]
  refine ⟨_, h151, ?_⟩
  conv => whnf
  conv => whnf
  refine ⟨by kernel_rfl, ?_⟩
  conv => whnf
  conv => whnf
  refine ⟨fun w1 => ?_, fun w1 => ?_⟩
  · conv => whnf
    refine ⟨fun w2 => ?_, fun w2 => ?_⟩
    · conv => whnf
      exact .of rfl
    · rw [he] at w2
      cases w2
  · exact absurd w1 (by decide)
theorem c149d (F : List ByteArray) (X : List S47) (e : S62) (hn : (X.map S47.f0).Nodup) (hX : X.length ≤ 1024) (h : hasI X e.f0 = true) (he : e.f2 = false) : ACall cx.P 149 [.bptr 32 0, .agg (enc62 e)] (mS F X) (.lit true) (mR F (delI X e.f0)) := acallA [] Tryz.f149 (by kernel_rfl) (by kernel_rfl) rfl <| by
  have h151 := c151 F X e.f0 (by omega)
  obtain ⟨i, hi, hx⟩ := place_has h
  have hil := (List.getElem?_eq_some_iff.1 hx).1
  rw [hi] at h151
  have hE : (X.map enc47).length = X.length := List.length_map _
  have hE' : (F.map encT).length = F.length := List.length_map _
  have h205 := c205 X i hil (by omega)
  rw [delI_idx hn hx, (getI_mem h).2] at h205
  unfold encM at h151
  conv => whnf
  refine ⟨by omega, ?_⟩
  conv => whnf
  conv => whnf
  refine ⟨by omega, ?_⟩
  conv => whnf
  conv => whnf
  simp only [List.drop_zero]
  refine ⟨_, h151, ?_⟩
  conv => whnf
  conv => whnf
  refine ⟨by kernel_rfl, ?_⟩
  conv => whnf
  conv => whnf
  refine ⟨fun w1 => ?_, fun w1 => ?_⟩
  · have := of_decide_eq_true w1
    omega
  · conv => whnf
    refine ⟨fun w2 => ?_, fun w2 => ?_⟩
    · conv => whnf
      rw [up1 hil (by omega)]
      refine ⟨_, _, h205, ?_⟩
      conv => whnf
      conv => whnf
      exact .of rfl
    · rw [he] at w2
      cases w2
theorem set_at {es : List (List AV)} {i : Nat} {a : List AV} (h : i < es.length) : (es.set (0 + ((i : Int)).toNat) a)[0 + ((i : Int)).toNat]? = some a := by rw [Nat.zero_add, Int.toNat_natCast, List.getElem?_set_self h]
theorem last_at {es : List (List AV)} {c : List AV} : (List.drop 0 es ++ List.drop 0 [c])[0 + ((es.length : Int)).toNat]? = some c := by
  rw [List.drop_zero, List.drop_zero, Nat.zero_add, Int.toNat_natCast, List.getElem?_append_right (Nat.le_refl _), Nat.sub_self]
  rfl
theorem set_last {es : List (List AV)} {c d : List AV} : (es ++ [c]).set es.length d = es ++ [d] := by
  rw [List.set_append_right _ _ (Nat.le_refl _), Nat.sub_self]
  rfl
theorem setF_1 {x : S47} {e : S62} (h : e.f1 = 1) : setF x e = ⟨x.f0, e.f3.f1, e.f3.f2, x.f3, e.f3.f4, x.f5, x.f6⟩ := by unfold setF; rw [if_pos h]
theorem c149s (F : List ByteArray) (X : List S47) (e : S62) (hn : (X.map S47.f0).Nodup) (hX : X.length ≤ 1024) (h : hasI X e.f0 = true) (he : e.f2 = true) (h1 : e.f1 = 1) : ACall cx.P 149 [.bptr 32 0, .agg (enc62 e)] (mS F X) (.lit true) (mR F (updI X e)) := acallA [] Tryz.f149 (by kernel_rfl) (by kernel_rfl) rfl <| by
  have h151 := c151 F X e.f0 (by omega)
  obtain ⟨i, hi, hx⟩ := place_has h
  have hil := (List.getElem?_eq_some_iff.1 hx).1
  have hupd := updI_idx (e := e) hn hx (getI_mem h).2
  generalize getI X e.f0 = x at hx hupd
  rw [setF_1 h1] at hupd
  rw [hi] at h151
  have hE : (X.map enc47).length = X.length := List.length_map _
  have hE' : (F.map encT).length = F.length := List.length_map _
  unfold encM at h151
  conv => whnf
  refine ⟨by omega, ?_⟩
  conv => whnf
  conv => whnf
  refine ⟨by omega, ?_⟩
  conv => whnf
  conv => whnf
  simp only [List.drop_zero]
  refine ⟨_, h151, ?_⟩
  conv => whnf
  conv => whnf
  refine ⟨by kernel_rfl, ?_⟩
  conv => whnf
  conv => whnf
  refine ⟨fun w1 => ?_, fun w1 => ?_⟩
  · have := of_decide_eq_true w1
    omega
  · clear w1
    conv => whnf
    refine ⟨fun w2 => ?_, fun w2 => ?_⟩
    · rw [he] at w2
      cases w2
    · conv => whnf
      refine ⟨fun w3 => ?_, fun w3 => ?_⟩
      · have := of_decide_eq_true w3
        omega
      · conv => whnf
        refine ⟨⟨Int.natCast_nonneg _, by omega⟩, ?_⟩
        conv => whnf
        conv => whnf
        refine ⟨_, map_at0 hx, ?_⟩
        conv => whnf
        conv => whnf
        refine ⟨_, set_at (by omega), ?_⟩
        conv => whnf
        conv => whnf
        refine ⟨_, set_at (by rw [List.length_set]; omega), ?_⟩
        conv => whnf
        conv => whnf
        refine ⟨by kernel_rfl, ?_⟩
        conv => whnf
        conv => whnf
        unfold mR
        rw [← hupd, List.map_set, List.length_set]
        simp only [List.set_set, Nat.zero_add, Int.toNat_natCast]
        exact .of rfl
theorem c149a (F : List ByteArray) (X : List S47) (e : S62) (hX : X.length ≤ 1024) (h : hasI X e.f0 = false) (he : e.f2 = true) (h1 : e.f1 = 1) : ACall cx.P 149 [.bptr 32 0, .agg (enc62 e)] (mS F X) (.lit true) (mX F (X ++ [setF (only e.f0) e])) := acallA [] Tryz.f149 (by kernel_rfl) (by kernel_rfl) rfl <| by
  have h151 := c151 F X e.f0 (by omega)
  rw [place_no h] at h151
  rw [setF_1 h1]
  have hE : (X.map enc47).length = X.length := List.length_map _
  have hE' : (F.map encT).length = F.length := List.length_map _
  unfold encM at h151
  conv => whnf
  refine ⟨by omega, ?_⟩
  conv => whnf
  conv => whnf
  refine ⟨by omega, ?_⟩
  conv => whnf
  conv => whnf
  simp only [List.drop_zero]
  refine ⟨_, h151, ?_⟩
  conv => whnf
  conv => whnf
  refine ⟨by kernel_rfl, ?_⟩
  conv => whnf
  conv => whnf
  refine ⟨fun w1 => ?_, fun w1 => ?_⟩
  · clear w1
    conv => whnf
    refine ⟨fun w2 => ?_, fun w2 => ?_⟩
    · rw [he] at w2
      cases w2
    · conv => whnf
      refine ⟨fun w3 => ?_, fun w3 => ?_⟩
      · rw [he] at w3
        cases w3
      · conv => whnf
        refine ⟨fun w4 => ?_, fun w4 => ?_⟩
        · conv => whnf
          refine ⟨by simpa using by omega, ?_⟩
          conv => whnf
          conv => whnf
          refine ⟨by simpa using by omega, ?_⟩
          conv => whnf
          conv => whnf
          refine ⟨by kernel_rfl, ?_⟩
          conv => whnf
          conv => whnf
          refine ⟨⟨Int.natCast_nonneg _, Int.ofNat_lt.2 (Nat.lt_succ_self _)⟩, ?_⟩
          conv => whnf
          conv => whnf
          refine ⟨_, last_at, ?_⟩
          conv => whnf
          conv => whnf
          refine ⟨_, set_at (by rw [List.length_append]; show _ < _ + 1; rw [List.drop_zero]; omega), ?_⟩
          conv => whnf
          conv => whnf
          refine ⟨_, set_at (by rw [List.length_set, List.length_append]; show _ < _ + 1; rw [List.drop_zero]; omega), ?_⟩
          conv => whnf
          conv => whnf
          refine ⟨by kernel_rfl, ?_⟩
          conv => whnf
          conv => whnf
          unfold mX
          rw [List.map_append, List.length_append]
          simp only [List.set_set, Nat.zero_add, Int.toNat_natCast, List.drop_zero, List.replicate_zero, set_last]
          exact .trans (.of rfl) (.le (.cons _ _ _ _ _ .refl <| .refl _) (.cons _ _ _ _ _ (.rows (.app (.refl _) (.cons (by repeat (first | exact .nil | refine .cons (by first | exact .refl | exact .lit rfl | exact .nils) ?_)) .nil))) (.refl _)))
        · exact absurd w4 (by decide)
  · exact absurd w1 (by decide)
end Go.Ab
namespace Go.Ab
open Go.Proofs Sn
set_option maxRecDepth 100000
set_option linter.unnecessarySimpa false
set_option linter.unusedSimpArgs false
set_option maxHeartbeats 4000000
theorem w149R {F F' : List ByteArray} {X X' : List S47} {e : S62} {b : Bool} (h1 : e.f1 = 1) (H : ACall cx.P 149 [.bptr 32 0, .agg (enc62 e)] (mS F X) (.lit b) (mR F' X')) : ACall cx.P 104 [.bptr 32 0, .agg (enc62 e)] (mS F X) (.lit b) (mR F' X') := acallA [] Tryz.f104 (by kernel_rfl) (by kernel_rfl) rfl <| by
  conv => whnf
  refine ⟨fun w1 => ?_, fun w1 => ?_⟩
  · conv => whnf
    refine ⟨_, _, H, ?_⟩
    conv => whnf
    conv => whnf
    exact .of rfl
  · exact absurd h1 (of_decide_eq_false w1)
theorem w149X {F F' : List ByteArray} {X X' : List S47} {e : S62} {b : Bool} (h1 : e.f1 = 1) (H : ACall cx.P 149 [.bptr 32 0, .agg (enc62 e)] (mS F X) (.lit b) (mX F' X')) : ACall cx.P 104 [.bptr 32 0, .agg (enc62 e)] (mS F X) (.lit b) (mX F' X') := acallA [] Tryz.f104 (by kernel_rfl) (by kernel_rfl) rfl <| by
  conv => whnf
  refine ⟨fun w1 => ?_, fun w1 => ?_⟩
  · conv => whnf
    refine ⟨_, _, H, ?_⟩
    conv => whnf
    conv => whnf
    exact .of rfl
  · exact absurd h1 (of_decide_eq_false w1)
theorem w150R {F F' : List ByteArray} {X X' : List S47} {e : S62} {b : Bool} (h1 : e.f1 = 5) (H : ACall cx.P 150 [.bptr 32 0, .agg (enc62 e)] (mS F X) (.lit b) (mR F' X')) : ACall cx.P 104 [.bptr 32 0, .agg (enc62 e)] (mS F X) (.lit b) (mR F' X') := acallA [] Tryz.f104 (by kernel_rfl) (by kernel_rfl) rfl <| by
  conv => whnf
  refine ⟨fun w1 => ?_, fun w1 => ?_⟩
  · have := of_decide_eq_true w1
    omega
  · conv => whnf
    refine ⟨fun w2 => ?_, fun w2 => ?_⟩
    · conv => whnf
      refine ⟨_, _, H, ?_⟩
      conv => whnf
      conv => whnf
      exact .of rfl
    · exact absurd h1 (of_decide_eq_false w2)
theorem w150F {F F' : List ByteArray} {X X' : List S47} {e : S62} {b : Bool} (h1 : e.f1 = 5) (H : ACall cx.P 150 [.bptr 32 0, .agg (enc62 e)] (mS F X) (.lit b) (mF F' X')) : ACall cx.P 104 [.bptr 32 0, .agg (enc62 e)] (mS F X) (.lit b) (mF F' X') := acallA [] Tryz.f104 (by kernel_rfl) (by kernel_rfl) rfl <| by
  conv => whnf
  refine ⟨fun w1 => ?_, fun w1 => ?_⟩
  · have := of_decide_eq_true w1
    omega
  · conv => whnf
    refine ⟨fun w2 => ?_, fun w2 => ?_⟩
    · conv => whnf
      refine ⟨_, _, H, ?_⟩
      conv => whnf
      conv => whnf
      exact .of rfl
    · exact absurd h1 (of_decide_eq_false w2)
theorem c104n (F : List ByteArray) (X : List S47) (e : S62) (hX : X.length ≤ 1024) (h : hasI X e.f0 = false) (h1 : e.f1 ≠ 1) (h5 : e.f1 ≠ 5) : ACall cx.P 104 [.bptr 32 0, .agg (enc62 e)] (mS F X) (.lit false) (mR F X) := acallA [] Tryz.f104 (by kernel_rfl) (by kernel_rfl) rfl <| by
  have h151 := c151 F X e.f0 (by omega)
  rw [place_no h] at h151
  have hE : (X.map enc47).length = X.length := List.length_map _
  have hE' : (F.map encT).length = F.length := List.length_map _
  unfold encM at h151
  conv => whnf
  refine ⟨fun w1 => ?_, fun w1 => ?_⟩
  · exact absurd (of_decide_eq_true w1) h1
  · clear w1
    conv => whnf
    refine ⟨fun w2 => ?_, fun w2 => ?_⟩
    · exact absurd (of_decide_eq_true w2) h5
    · clear w2
      conv => whnf
      refine ⟨by omega, ?_⟩
      conv => whnf
      conv => whnf
      refine ⟨by omega, ?_⟩
      conv => whnf
      conv => whnf
      simp only [List.drop_zero]
      refine ⟨_, h151, ?_⟩
      conv => whnf
      conv => whnf
      refine ⟨by kernel_rfl, ?_⟩
      conv => whnf
      conv => whnf
      refine ⟨fun w3 => ?_, fun w3 => ?_⟩
      · conv => whnf
        exact .of rfl
      · exact absurd w3 (by decide)
theorem c104z (F : List ByteArray) (X : List S47) (e : S62) (hX : X.length ≤ 1024) (h : hasI X e.f0 = true) (h1 : ¬ (1 ≤ e.f1 ∧ e.f1 ≤ 5)) : ACall cx.P 104 [.bptr 32 0, .agg (enc62 e)] (mS F X) (.lit false) (mR F X) := acallA [] Tryz.f104 (by kernel_rfl) (by kernel_rfl) rfl <| by
  have h151 := c151 F X e.f0 (by omega)
  obtain ⟨i, hi, hx⟩ := place_has h
  have hil := (List.getElem?_eq_some_iff.1 hx).1
  rw [hi] at h151
  have hE : (X.map enc47).length = X.length := List.length_map _
  have hE' : (F.map encT).length = F.length := List.length_map _
  unfold encM at h151
  conv => whnf
  refine ⟨fun w1 => ?_, fun w1 => ?_⟩
  · have := of_decide_eq_true w1
    omega
  · clear w1
    conv => whnf
    refine ⟨fun w2 => ?_, fun w2 => ?_⟩
    · have := of_decide_eq_true w2
      omega
    · clear w2
      conv => whnf
      refine ⟨by omega, ?_⟩
      conv => whnf
      conv => whnf
      refine ⟨by omega, ?_⟩
      conv => whnf
      conv => whnf
      simp only [List.drop_zero]
      refine ⟨_, h151, ?_⟩
      conv => whnf
      conv => whnf
      refine ⟨by kernel_rfl, ?_⟩
      conv => whnf
      conv => whnf
      refine ⟨fun w3 => ?_, fun w3 => ?_⟩
      · have := of_decide_eq_true w3
        omega
      · conv => whnf
        refine ⟨⟨Int.natCast_nonneg _, by omega⟩, ?_⟩
        conv => whnf
        conv => whnf
        refine ⟨fun w4 => ?_, fun w4 => ?_⟩
        · have := of_decide_eq_true w4
          omega
        · conv => whnf
          refine ⟨fun w5 => ?_, fun w5 => ?_⟩
          · have := of_decide_eq_true w5
            omega
          · conv => whnf
            refine ⟨fun w6 => ?_, fun w6 => ?_⟩
            · have := of_decide_eq_true w6
              omega
            · conv => whnf
              exact .of rfl
theorem c104s (F : List ByteArray) (X : List S47) (e : S62) (hn : (X.map S47.f0).Nodup) (hX : X.length ≤ 1024) (h : hasI X e.f0 = true) (h1 : 2 ≤ e.f1 ∧ e.f1 ≤ 4) : ACall cx.P 104 [.bptr 32 0, .agg (enc62 e)] (mS F X) (.lit true) (mR F (updI X e)) := acallA [] Tryz.f104 (by kernel_rfl) (by kernel_rfl) rfl <| by
  have h151 := c151 F X e.f0 (by omega)
  obtain ⟨i, hi, hx⟩ := place_has h
  have hil := (List.getElem?_eq_some_iff.1 hx).1
  have hupd := updI_idx (e := e) hn hx (getI_mem h).2
  generalize getI X e.f0 = x at hx hupd
  rw [hi] at h151
  have hE : (X.map enc47).length = X.length := List.length_map _
  have hE' : (F.map encT).length = F.length := List.length_map _
  unfold encM at h151
  unfold mR
  conv => whnf
  refine ⟨fun w1 => ?_, fun w1 => ?_⟩
  · have := of_decide_eq_true w1
    omega
  · clear w1
    conv => whnf
    refine ⟨fun w2 => ?_, fun w2 => ?_⟩
    · have := of_decide_eq_true w2
      omega
    · clear w2
      conv => whnf
      refine ⟨by omega, ?_⟩
      conv => whnf
      conv => whnf
      refine ⟨by omega, ?_⟩
      conv => whnf
      conv => whnf
      simp only [List.drop_zero]
      refine ⟨_, h151, ?_⟩
      conv => whnf
      conv => whnf
      refine ⟨by kernel_rfl, ?_⟩
      conv => whnf
      conv => whnf
      refine ⟨fun w3 => ?_, fun w3 => ?_⟩
      · have := of_decide_eq_true w3
        omega
      · conv => whnf
        refine ⟨⟨Int.natCast_nonneg _, by omega⟩, ?_⟩
        conv => whnf
        conv => whnf
        refine ⟨fun w4 => ?_, fun w4 => ?_⟩
        · have w4 := of_decide_eq_true w4
          conv => whnf
          refine ⟨_, map_at0 hx, ?_⟩
          conv => whnf
          conv => whnf
          rw [← hupd, List.map_set, List.length_set]
          simp only [Nat.zero_add, Int.toNat_natCast]
          unfold setF
          rw [if_neg (by omega), if_pos w4]
          exact .of rfl
        · have w4 := of_decide_eq_false w4
          conv => whnf
          refine ⟨fun w5 => ?_, fun w5 => ?_⟩
          · have w5 := of_decide_eq_true w5
            conv => whnf
            refine ⟨_, map_at0 hx, ?_⟩
            conv => whnf
            conv => whnf
            rw [← hupd, List.map_set, List.length_set]
            simp only [Nat.zero_add, Int.toNat_natCast]
            unfold setF
            rw [if_neg (by omega), if_neg (by omega), if_pos w5]
            exact .of rfl
          · have w5 := of_decide_eq_false w5
            conv => whnf
            refine ⟨fun w6 => ?_, fun w6 => ?_⟩
            · have w6 := of_decide_eq_true w6
              conv => whnf
              refine ⟨_, map_at0 hx, ?_⟩
              conv => whnf
              conv => whnf
              rw [← hupd, List.map_set, List.length_set]
              simp only [Nat.zero_add, Int.toNat_natCast]
              unfold setF
              rw [if_neg (by omega), if_neg (by omega), if_neg (by omega), if_pos w6]
              exact .of rfl
            · have w6 := of_decide_eq_false w6
              omega
theorem c104 {s : St} (h : Nice s) (hF : s.1.length ≤ 1024) (hX : s.2.length ≤ 1024) (e : S62) : (oneS s e = none → ACall cx.P 104 [.bptr 32 0, .agg (enc62 e)] (mS s.1 s.2) (.lit false) (mR s.1 s.2)) ∧ ∀ t, oneS s e = some t → (ACall cx.P 104 [.bptr 32 0, .agg (enc62 e)] (mS s.1 s.2) (.lit true) (mR t.1 t.2) ∨ ACall cx.P 104 [.bptr 32 0, .agg (enc62 e)] (mS s.1 s.2) (.lit true) (mF t.1 t.2) ∨ ACall cx.P 104 [.bptr 32 0, .agg (enc62 e)] (mS s.1 s.2) (.lit true) (mX t.1 t.2)) := by
  unfold oneS
  by_cases h5 : e.f1 = 5
  · simp only [if_pos h5]
    by_cases hs : hasS s.1 e.f0 = e.f2
    · simp only [if_pos hs]
      exact ⟨fun _ => w150R h5 (c150n _ _ _ hF hs), fun t ht => by cases ht⟩
    · simp only [if_neg hs]
      by_cases h2 : e.f2 = true
      · simp only [if_pos h2]
        exact ⟨fun ht => by (cases ht), fun t ht => by cases ht; exact .inr (.inl (w150F h5 (c150a _ _ _ hF (by rw [h2] at hs; simpa using hs) h2)))⟩
      · simp only [if_neg h2]
        have h2 : e.f2 = false := by simpa using h2
        exact ⟨fun ht => by (cases ht), fun t ht => by cases ht; exact .inl (w150R h5 (c150d _ _ _ h.fn hF (by rw [h2] at hs; simpa using hs) h2))⟩
  · simp only [if_neg h5]
    by_cases h1 : e.f1 = 1
    · simp only [if_pos h1]
      by_cases hh : hasI s.2 e.f0 = true
      · simp only [if_pos hh]
        by_cases h2 : e.f2 = true
        · simp only [if_pos h2]
          exact ⟨fun ht => by (cases ht), fun t ht => by cases ht; exact .inl (w149R h1 (c149s _ _ _ h.xn hX hh h2 h1))⟩
        · simp only [if_neg h2]
          have h2 : e.f2 = false := by simpa using h2
          exact ⟨fun ht => by (cases ht), fun t ht => by cases ht; exact .inl (w149R h1 (c149d _ _ _ h.xn hX hh h2))⟩
      · simp only [if_neg hh]
        have hh : hasI s.2 e.f0 = false := by simpa using hh
        by_cases h2 : e.f2 = true
        · simp only [if_pos h2]
          exact ⟨fun ht => by (cases ht), fun t ht => by cases ht; exact .inr (.inr (w149X h1 (c149a _ _ _ hX hh h2 h1)))⟩
        · simp only [if_neg h2]
          have h2 : e.f2 = false := by simpa using h2
          exact ⟨fun _ => w149R h1 (c149n _ _ _ hX hh h2), fun t ht => by cases ht⟩
    · simp only [if_neg h1]
      by_cases h24 : 2 ≤ e.f1 ∧ e.f1 ≤ 4
      · simp only [if_pos h24]
        by_cases hh : hasI s.2 e.f0 = true
        · simp only [if_pos hh]
          exact ⟨fun ht => by (cases ht), fun t ht => by cases ht; exact .inl (c104s _ _ _ h.xn hX hh h24)⟩
        · simp only [if_neg hh]
          exact ⟨fun _ => c104n _ _ _ hX (by simpa using hh) h1 h5, fun t ht => by cases ht⟩
      · simp only [if_neg h24]
        refine ⟨fun _ => ?_, fun t ht => by cases ht⟩
        by_cases hh : hasI s.2 e.f0 = true
        · exact c104z _ _ _ hX hh (by omega)
        · exact c104n _ _ _ hX (by simpa using hh) h1 h5
end Go.Ab
namespace Go.Ab
open Go.Proofs Sn
set_option maxRecDepth 100000
set_option linter.unnecessarySimpa false
set_option linter.unusedSimpArgs false
set_option maxHeartbeats 4000000
theorem c89o (f : List ByteArray) (m : List S47) (h : SzM f m) : ACall cx.P 89 [encM f m] [] (.agg [.own 1 97 0 (f.map encT).length .opn, .own 7 98 0 (m.map enc47).length .opn]) [(98, .live (.arr 7 (m.map enc47))), (97, .live (.arr 1 (f.map encT)))] := acall3 Tryz.f89 (by kernel_rfl) (by kernel_rfl) rfl <| by
  unfold encM
  conv => whnf
  conv => whnf
  refine ⟨_, _, c78 _ h.hf, ?_⟩
  conv => whnf
  conv => whnf
  refine ⟨_, _, c135 _ h.hm, ?_⟩
  conv => whnf
  conv => whnf
  refine ⟨by kernel_rfl, ?_⟩
  conv => whnf
  conv => whnf
  have hE : (m.map enc47).length = m.length := List.length_map _
  have hm := h.hm
  refine .inr (.inl ⟨[1, 2, 14, 15, 16], Nat, fun j => ([(1, .bptr 80 0), (2, .bptr 144 0), (14, .own 7 82 0 (m.map enc47).length .opn), (15, .int .i64 m.length), (16, .int .i64 j)],
    [(144, .live (.box [.nils, .nils])), (82, .live (.arr 7 (m.map enc47))), (81, .live (.arr 1 (f.map encT))), (80, .live (.box [.own 1 81 0 (f.map encT).length .opn, .own 7 82 0 (m.map enc47).length .opn]))]), fun j => j ≤ m.length, fun j => m.length - j, ?_, fun j hj => ?_⟩)
  · conv => whnf
    exact ⟨0, by rw [← hE]; exact .of rfl, Nat.zero_le _⟩
  · have hj : j ≤ m.length := hj
    conv => whnf
    refine ⟨fun w1 => ?_, fun w1 => ?_⟩
    · replace w1 := lti w1
      obtain ⟨x, hx⟩ := at_ex w1
      have hzx := h.hx x (List.mem_of_getElem? hx)
      have h5 := c136 x.f5 hzx.1.1 hzx.1.2
      have h6 := c136 x.f6 hzx.2.1 hzx.2.2
      conv => whnf
      refine ⟨⟨Int.natCast_nonneg _, by omega⟩, ?_⟩
      conv => whnf
      conv => whnf
      refine ⟨_, map_at0 hx, ?_⟩
      conv => whnf
      conv => whnf
      refine ⟨_, h5, ?_⟩
      conv => whnf
      conv => whnf
      refine ⟨_, h6, ?_⟩
      conv => whnf
      conv => whnf
      conv => whnf
      refine ⟨⟨Int.natCast_nonneg _, by omega⟩, ?_⟩
      conv => whnf
      conv => whnf
      refine ⟨_, map_at0 hx, ?_⟩
      conv => whnf
      conv => whnf
      refine ⟨⟨Int.natCast_nonneg _, by omega⟩, ?_⟩
      conv => whnf
      conv => whnf
      have hset : (m.map enc47).set (0 + j) (enc47 x) = m.map enc47 := set_self (map_at0 hx)
      refine ⟨_, (show ((m.map enc47).set (0 + j) (enc47 x))[0 + j]? = some (enc47 x) by rw [hset]; exact map_at0 hx), ?_⟩
      conv => whnf
      conv => whnf
      conv => whnf
      refine ⟨by kernel_rfl, ?_⟩
      conv => whnf
      conv => whnf
      refine ⟨j + 1, ?_, w1, by show m.length - (j + 1) < m.length - j; omega⟩
      dsimp only
      rw [up1 w1 (by omega)]
      refine .of (Prod.ext rfl ?_)
      show [((144 : Nat), SV.live (.box [.nils, .nils])), (82, .live (.arr 7 (((m.map enc47).set (0 + j) (enc47 x)).set (0 + j) (enc47 x)))), (81, .live (.arr 1 (f.map encT))), (80, .live (.box [.own 1 81 0 (f.map encT).length .opn, .own 7 82 0 (m.map enc47).length .opn]))] = _
      rw [hset, hset]
    · replace w1 := nlti w1
      conv => whnf
      conv => whnf
      exact .of rfl
theorem ap_bad1 {s : St} {l : List S62} (h : IsN s.1 s.2) (ha : ¬ Adj l) : apS s l = (([], []), 1) := by unfold apS; rw [bP_iff.2 h, bP_no.2 ha]; rfl
theorem ap_bad2 {s : St} {l : List S62} (h : IsN s.1 s.2) (hr : runS l s = none) : apS s l = (([], []), 1) := by
  unfold apS
  rw [bP_iff.2 h, hr]
  cases bP (Adj l) <;> rfl
theorem ap_end {s t : St} {l : List S62} (h : IsN s.1 s.2) (ha : Adj l) (hr : runS l s = some t) : apS s l = match ordO t with | none => (([], []), 7) | some n => (n, 0) := by unfold apS; rw [bP_iff.2 h, bP_iff.2 ha, hr]; rfl
theorem run_take {l : List S62} {s t : St} {j : Nat} {e : S62} (h : l[j]? = some e) (hr : runS (l.take j) s = some t) : runS (l.take (j + 1)) s = oneS t e := by
  rw [snoc_take h, runS_append, hr]
  show (match oneS t e with | some t => some t | none => none) = _
  cases oneS t e <;> rfl
theorem run_stop {l : List S62} {s t : St} {j : Nat} {e : S62} (h : l[j]? = some e) (hr : runS (l.take j) s = some t) (ho : oneS t e = none) : runS l s = none := by
  rw [← List.take_append_drop j l, runS_append, hr, drop_at h]
  show (match oneS t e with | some u => runS _ u | none => none) = none
  rw [ho]
theorem one_len {s t : St} {e : S62} (h : oneS s e = some t) : t.1.length ≤ s.1.length + 1 ∧ t.2.length ≤ s.2.length + 1 := by
  have hu : (updI s.2 e).length = s.2.length := List.length_map _
  have hd : (delI s.2 e.f0).length ≤ s.2.length := List.length_filter_le _ _
  have hs : (delS s.1 e.f0).length ≤ s.1.length := List.length_filter_le _ _
  unfold oneS at h
  split at h
  · split at h
    · cases h
    · split at h <;> (cases h; refine ⟨?_, ?_⟩ <;> dsimp only <;> (try simp only [List.length_append, List.length_cons, List.length_nil]) <;> omega)
  · split at h
    · split at h
      · split at h <;> (cases h; refine ⟨?_, ?_⟩ <;> dsimp only <;> omega)
      · split at h
        · cases h; refine ⟨?_, ?_⟩ <;> dsimp only <;> (try simp only [List.length_append, List.length_cons, List.length_nil]) <;> omega
        · cases h
    · split at h
      · split at h
        · cases h; refine ⟨?_, ?_⟩ <;> dsimp only <;> omega
        · cases h
      · cases h
theorem c60 (s : St) (l : List S62) (hsz : SzM s.1 s.2) (hl : l.length ≤ 512) (hne : IsN s.1 s.2 → ∀ e ∈ l, NiceE e) : PCall cx.P 60 [encM s.1 s.2, .row 10 (l.map enc62)] (.tup [encM (apS s l).1.1 (apS s l).1.2, .int .i64 (apS s l).2]) := pcallA [89] Tryz.f60 (by kernel_rfl) (by kernel_rfl) <| by
  have h30 := c30 _ _ hsz
  have h89 := c89o _ _ hsz
  have hE : (l.map enc62).length = l.length := List.length_map _
  unfold encM at h30 h89 ⊢
  conv => whnf
  refine ⟨_, h30, ?_⟩
  conv => whnf
  conv => whnf
  refine ⟨fun w1 => ?_, fun w1 => ?_⟩
  · have hn : ¬ IsN s.1 s.2 := bP_no.1 (by simpa using w1)
    conv => whnf
    rw [ap_no l hn]
    exact .tup2 (.agg2 .nils .nils) .refl
  · have hn : IsN s.1 s.2 := bP_iff.1 (by simpa using w1)
    have hne := hne hn
    obtain ⟨r0, F0, e0, o0, _⟩ := id hn
    have hf6 := o0.files6
    have hx16 : s.2.length ≤ 16 := by rw [e0]; exact Nat.succ_le_succ o0.n16
    conv => whnf
    refine ⟨_, _, h89, ?_⟩
    conv => whnf
    conv => whnf
    refine .inr (.inl ⟨[1, 4, 6, 17, 18, 19], Nat × St, fun p => ([(1, .row 10 (l.map enc62)), (4, .bptr 272 0), (6, .bptr 400 0), (17, .row 10 (l.map enc62)), (18, .int .i64 l.length), (19, .int .i64 p.1)],
      [(402, .live (.arr 7 (p.2.2.map enc47))), (401, .live (.arr 1 (p.2.1.map encT))), (400, .live (.box [.own 1 401 0 (p.2.1.map encT).length .opn, .own 7 402 0 (p.2.2.map enc47).length .opn])), (272, .live (.box [.nils, .nils]))]), fun p => p.1 ≤ l.length ∧ runS (l.take p.1) s = some p.2 ∧ Nice p.2 ∧ (p.2.1.length ≤ 6 + p.1 ∧ p.2.2.length ≤ 16 + p.1) ∧ ∀ i x y, i + 1 < p.1 → l[i]? = some x → l[i + 1]? = some y → cmpE x y = -1, fun p => l.length - p.1, ?_, fun p hp => ?_⟩)
    · conv => whnf
      refine ⟨(0, s), ?_, Nat.zero_le _, rfl, hn.nice.1, ⟨by dsimp only; omega, by dsimp only; omega⟩, fun i x y h => by dsimp only at h; omega⟩
      dsimp only
      rw [← hE]
      exact .of rfl
    · obtain ⟨j, t⟩ := p
      obtain ⟨hj, hr, hN, ⟨hb1, hb2⟩, hadj⟩ := hp
      dsimp only at hj hr hN hb1 hb2 hadj ⊢
      conv => whnf
      refine ⟨fun w2 => ?_, fun w2 => ?_⟩
      · replace w2 := lti w2
        obtain ⟨e, he⟩ := at_ex w2
        have heN := hne e (List.mem_of_getElem? he)
        obtain ⟨q1, q2⟩ := c104 hN (by omega) (by omega) e
        conv => whnf
        refine ⟨⟨Int.natCast_nonneg _, by omega⟩, ?_⟩
        conv => whnf
        conv => whnf
        refine ⟨_, map_at he, ?_⟩
        conv => whnf
        conv => whnf
        rcases j with _ | i
        · refine ⟨fun w3 => ?_, fun w3 => ?_⟩
          · exact absurd w3 (by decide)
          · clear w3
            conv => whnf
            cases ho : oneS t e with
            | none =>
              refine ⟨_, _, q1 ho, ?_⟩
              conv => whnf
              conv => whnf
              refine ⟨by kernel_rfl, ?_⟩
              conv => whnf
              conv => whnf
              rw [ap_bad2 hn (run_stop he hr ho)]
              exact .tup2 (.agg2 .nils .nils) .refl
            | some u =>
              have hul := one_len ho
              rcases q2 u ho with H | H | H
              · refine ⟨_, _, H, ?_⟩
                conv => whnf
                conv => whnf
                refine ⟨by kernel_rfl, ?_⟩
                conv => whnf
                conv => whnf
                refine ⟨(0 + 1, u), ?_, ⟨w2, (run_take he hr).trans ho, hN.one heN ho, ⟨by dsimp only; omega, by dsimp only; omega⟩, fun i x y h => by dsimp only at h; omega⟩, by show l.length - (0 + 1) < l.length - 0; omega⟩
                dsimp only
                rw [up1 w2 (by omega)]
                exact .of rfl
              · refine ⟨_, _, H, ?_⟩
                conv => whnf
                conv => whnf
                refine ⟨by kernel_rfl, ?_⟩
                conv => whnf
                conv => whnf
                refine ⟨(0 + 1, u), ?_, ⟨w2, (run_take he hr).trans ho, hN.one heN ho, ⟨by dsimp only; omega, by dsimp only; omega⟩, fun i x y h => by dsimp only at h; omega⟩, by show l.length - (0 + 1) < l.length - 0; omega⟩
                dsimp only
                rw [up1 w2 (by omega)]
                exact .of rfl
              · refine ⟨_, _, H, ?_⟩
                conv => whnf
                conv => whnf
                refine ⟨by kernel_rfl, ?_⟩
                conv => whnf
                conv => whnf
                refine ⟨(0 + 1, u), ?_, ⟨w2, (run_take he hr).trans ho, hN.one heN ho, ⟨by dsimp only; omega, by dsimp only; omega⟩, fun i x y h => by dsimp only at h; omega⟩, by show l.length - (0 + 1) < l.length - 0; omega⟩
                dsimp only
                rw [up1 w2 (by omega)]
                exact .of rfl
        · obtain ⟨x, hx⟩ := at_ex (show i < l.length by omega)
          have hpv : IntKind.i64.wrap (((i + 1 : Nat) : Int) - 1) = (i : Int) := by rw [IntWalk.i64_in _ (by omega)]; omega
          refine ⟨fun w3 => ?_, fun w3 => ?_⟩
          · clear w3
            conv => whnf
            rw [hpv]
            refine ⟨⟨Int.natCast_nonneg _, by omega⟩, ?_⟩
            conv => whnf
            conv => whnf
            refine ⟨_, map_at hx, ?_⟩
            conv => whnf
            conv => whnf
            refine ⟨_, c94 x e, ?_⟩
            conv => whnf
            conv => whnf
            refine ⟨fun w4 => ?_, fun w4 => ?_⟩
            · have w4 := of_decide_eq_true w4
              conv => whnf
              refine ⟨by kernel_rfl, ?_⟩
              conv => whnf
              conv => whnf
              rw [ap_bad1 hn fun hA => by have := hA i x e hx he; omega]
              exact .tup2 (.agg2 .nils .nils) .refl
            · have w4 := of_decide_eq_false w4
              have hxe : cmpE x e = -1 := by
                rcases (isCmp_pc isCmp_s isCmp_int).rng (keyE x) (keyE e) with h | h | h
                · exact h
                · exact absurd (show cmpE x e ≥ 0 by rw [show cmpE x e = 0 from h]; decide) w4
                · exact absurd (show cmpE x e ≥ 0 by rw [show cmpE x e = 1 from h]; decide) w4
              have hadj' : ∀ k x' y', k + 1 < i + 1 + 1 → l[k]? = some x' → l[k + 1]? = some y' → cmpE x' y' = -1 := fun k x' y' h h1 h2 => by
                by_cases hk : k = i
                · subst hk
                  rw [hx] at h1
                  rw [he] at h2
                  cases h1
                  cases h2
                  exact hxe
                · exact hadj k x' y' (by omega) h1 h2
              conv => whnf
              cases ho : oneS t e with
              | none =>
                refine ⟨_, _, q1 ho, ?_⟩
                conv => whnf
                conv => whnf
                refine ⟨by kernel_rfl, ?_⟩
                conv => whnf
                conv => whnf
                rw [ap_bad2 hn (run_stop he hr ho)]
                exact .tup2 (.agg2 .nils .nils) .refl
              | some u =>
                have hul := one_len ho
                rcases q2 u ho with H | H | H
                · refine ⟨_, _, H, ?_⟩
                  conv => whnf
                  conv => whnf
                  refine ⟨by kernel_rfl, ?_⟩
                  conv => whnf
                  conv => whnf
                  refine ⟨((i + 1) + 1, u), ?_, ⟨w2, (run_take he hr).trans ho, hN.one heN ho, ⟨by dsimp only; omega, by dsimp only; omega⟩, hadj'⟩, by show l.length - ((i + 1) + 1) < l.length - (i + 1); omega⟩
                  dsimp only
                  rw [up1 w2 (by omega)]
                  exact .of rfl
                · refine ⟨_, _, H, ?_⟩
                  conv => whnf
                  conv => whnf
                  refine ⟨by kernel_rfl, ?_⟩
                  conv => whnf
                  conv => whnf
                  refine ⟨((i + 1) + 1, u), ?_, ⟨w2, (run_take he hr).trans ho, hN.one heN ho, ⟨by dsimp only; omega, by dsimp only; omega⟩, hadj'⟩, by show l.length - ((i + 1) + 1) < l.length - (i + 1); omega⟩
                  dsimp only
                  rw [up1 w2 (by omega)]
                  exact .of rfl
                · refine ⟨_, _, H, ?_⟩
                  conv => whnf
                  conv => whnf
                  refine ⟨by kernel_rfl, ?_⟩
                  conv => whnf
                  conv => whnf
                  refine ⟨((i + 1) + 1, u), ?_, ⟨w2, (run_take he hr).trans ho, hN.one heN ho, ⟨by dsimp only; omega, by dsimp only; omega⟩, hadj'⟩, by show l.length - ((i + 1) + 1) < l.length - (i + 1); omega⟩
                  dsimp only
                  rw [up1 w2 (by omega)]
                  exact .of rfl
          · have := of_decide_eq_false w3
            omega
      · replace w2 := nlti w2
        have hjl : j = l.length := by omega
        subst hjl
        rw [List.take_length] at hr
        have hA : Adj l := fun i x y hx hy => hadj i x y (by have := (List.getElem?_eq_some_iff.1 hy).1; omega) hx hy
        obtain ⟨p, hp, hp2⟩ := c105 hN (by omega) (by omega)
        unfold encM at hp
        conv => whnf
        refine ⟨by omega, ?_⟩
        conv => whnf
        conv => whnf
        refine ⟨by omega, ?_⟩
        conv => whnf
        conv => whnf
        simp only [List.drop_zero]
        refine ⟨_, hp, ?_⟩
        conv => whnf
        conv => whnf
        refine ⟨fun w3 => ?_, fun w3 => ?_⟩
        · conv => whnf
          rw [ap_end hn hA hr]
          cases ho : ordO t with
          | some n => rw [ho] at w3; cases w3
          | none => exact .tup2 (.agg2 .nils .nils) .refl
        · conv => whnf
          have ho : ordO t = some p := by
            cases ho : ordO t with
            | some n => rw [hp2 n ho]
            | none => rw [ho] at w3; cases w3
          have hpN := (ordO_some.1 ho).1
          have h89' := c89o _ _ hpN.sz
          have hpl : (p.1.map encT).length = p.1.length := List.length_map _
          have hpl' : (p.2.map enc47).length = p.2.length := List.length_map _
          unfold encM at h89'
          refine ⟨_, _, h89', ?_⟩
          conv => whnf
          conv => whnf
          refine ⟨by omega, ?_⟩
          conv => whnf
          conv => whnf
          refine ⟨by omega, ?_⟩
          conv => whnf
          conv => whnf
          exact .of (by rw [ap_end hn hA hr, ho]; simp only [List.drop_zero])
end Go.Ab
namespace Go.Ab
open Go.Proofs Sn
set_option maxRecDepth 100000
set_option linter.unnecessarySimpa false
set_option linter.unusedSimpArgs false
set_option maxHeartbeats 4000000
def nmS (f : List ByteArray) (r : S47) (F : List S47) : St := (sortL cmpS f, r :: turnT ordID nIt r F)
theorem nmS_N {f : List ByteArray} {r : S47} {F : List S47} (h : Ok f r F) : IsN (nmS f r F).1 (nmS f r F).2 := ⟨r, turnT ordID nIt r F, rfl, h.turn isOrd_ID turns_n (sortL_perm (c := cmpS) f), sortL_of_rises isCmp_s (sortL_rises isCmp_s _), h.norm_norm⟩
theorem n37 {f : List ByteArray} {r : S47} {F : List S47} (h : Ok f r F) : PCall cx.P 37 [encM f (r :: F)] (encM (nmS f r F).1 (nmS f r F).2) := c37 h
theorem specD_len {s t : St} (hs : IsN s.1 s.2) (ht : IsN t.1 t.2) : (specD s.1 s.2 t.1 t.2).length ≤ 320 := by
  obtain ⟨ra, Fa, ea, oa, _⟩ := hs
  obtain ⟨rb, Fb, eb, ob, _⟩ := ht
  have hN : (namesOf [(s.1, s.2), (t.1, t.2)]).length ≤ 64 := by
    refine Nat.le_trans (sortD_length _) ?_
    have h1 : s.2.length ≤ 16 := by rw [ea]; exact Nat.succ_le_succ oa.n16
    have h2 : t.2.length ≤ 16 := by rw [eb]; exact Nat.succ_le_succ ob.n16
    have := oa.files6
    have := ob.files6
    simp only [List.flatMap_cons, List.flatMap_nil, List.append_nil, List.length_append, List.length_map]
    omega
  have key : ∀ L : List ByteArray, (L.flatMap fun id => edI s.2 t.2 id ++ edF s.1 t.1 id).length ≤ 5 * L.length := fun L => by
    induction L with
    | nil => exact Nat.le_refl _
    | cons i L ih =>
      rw [List.flatMap_cons, List.length_append, List.length_append, List.length_cons]
      have := edI_len s.2 t.2 i
      have := edF_len s.1 t.1 i
      omega
  have := key (namesOf [(s.1, s.2), (t.1, t.2)])
  unfold specD
  omega
theorem n47 {s t : St} (hs : IsN s.1 s.2) (ht : IsN t.1 t.2) : PCall cx.P 47 [encM s.1 s.2, encM t.1 t.2] (.tup [.row 10 ((specD s.1 s.2 t.1 t.2).map enc62), .int .i64 0]) := by
  have h := c47 _ _ _ _ hs.sz ht.sz
  rw [dfR_y hs ht] at h
  exact h
theorem n60 {s t : St} (hs : IsN s.1 s.2) (ht : IsN t.1 t.2) : PCall cx.P 60 [encM s.1 s.2, .row 10 ((specD s.1 s.2 t.1 t.2).map enc62)] (.tup [encM t.1 t.2, .int .i64 0]) := by
  have h := c60 s (specD s.1 s.2 t.1 t.2) hs.sz (Nat.le_trans (specD_len hs ht) (by decide)) fun _ => spec_nice (NiceF.of hs) (NiceF.of ht)
  rw [ap_spec hs ht] at h
  exact h
theorem n60n {s : St} (hs : IsN s.1 s.2) : PCall cx.P 60 [encM s.1 s.2, .nils] (.tup [encM s.1 s.2, .int .i64 0]) := by
  have h := c60 s [] hs.sz (by decide) fun _ e he => by cases he
  rw [ap_nil hs] at h
  exact h.by2 .refl .nils
theorem n35 {s : St} (hs : IsN s.1 s.2) : PCall cx.P 35 [encM s.1 s.2, encM s.1 s.2] (.lit true) := (c35 _ _ _ _ hs.sz hs.sz).to (.blit (eqq_y rfl))
theorem c24 (f : List ByteArray) (m : List S47) (h : BgM f m) : PCall cx.P 24 [encM f m] (.lit true) := pcall3 Tryz.f24 (by kernel_rfl) (by kernel_rfl) <| by
  have h46 := c46 f m h
  unfold encM at h46 ⊢
  conv => whnf
  refine ⟨_, h46, ?_⟩
  conv => whnf
  conv => whnf
  refine ⟨fun w1 => ?_, fun w1 => ?_⟩
  · conv => whnf
    exact .of rfl
  · replace w1 := of_decide_eq_false w1
    have hz := SzM.of (f := f) (m := m) (by omega)
    have h34 := c34 f m hz
    unfold encM at h34
    conv => whnf
    refine ⟨_, h34, ?_⟩
    conv => whnf
    conv => whnf
    refine ⟨fun w2 => ?_, fun w2 => ?_⟩
    · conv => whnf
      exact .of rfl
    · obtain ⟨r, F, rfl, ho⟩ := isB_iff.1 (show isB f m = true by simpa using w2)
      have hN := nmS_N ho
      have h37 := n37 ho
      have h47 := n47 hN hN
      rw [spec_self] at h47
      have h60 := n60n hN
      have h35 := n35 hN
      unfold encM at h37 h47 h60 h35
      conv => whnf
      refine ⟨_, h37, ?_⟩
      conv => whnf
      conv => whnf
      refine ⟨_, h47, ?_⟩
      conv => whnf
      conv => whnf
      refine ⟨_, h60, ?_⟩
      conv => whnf
      conv => whnf
      refine ⟨fun w3 => ?_, fun w3 => ?_⟩
      rotate_left
      · exact absurd w3 (by decide)
      conv => whnf
      refine ⟨fun w4 => ?_, fun w4 => ?_⟩
      rotate_left
      · exact absurd w4 (by decide)
      conv => whnf
      refine ⟨fun w5 => ?_, fun w5 => ?_⟩
      rotate_left
      · exact absurd w5 (by decide)
      conv => whnf
      refine ⟨_, h35, ?_⟩
      conv => whnf
      conv => whnf
      refine ⟨_, c50, ?_⟩
      conv => whnf
      conv => whnf
      exact .of rfl
theorem c23 (f g : List ByteArray) (m n : List S47) (h : BgM f m) (h' : BgM g n) : PCall cx.P 23 [encM f m, encM g n] (.lit true) := pcall3 Tryz.f23 (by kernel_rfl) (by kernel_rfl) <| by
  have h46 := c46 f m h
  have h46' := c46 g n h'
  unfold encM at h46 h46' ⊢
  conv => whnf
  refine ⟨_, h46, ?_⟩
  conv => whnf
  conv => whnf
  refine ⟨fun w1 => ?_, fun w1 => ?_⟩
  · conv => whnf
    exact .of rfl
  · replace w1 := of_decide_eq_false w1
    have hz := SzM.of (f := f) (m := m) (by omega)
    have h34 := c34 f m hz
    unfold encM at h34
    conv => whnf
    refine ⟨_, h46', ?_⟩
    conv => whnf
    conv => whnf
    refine ⟨fun w2 => ?_, fun w2 => ?_⟩
    · conv => whnf
      exact .of rfl
    · replace w2 := of_decide_eq_false w2
      have hz' := SzM.of (f := g) (m := n) (by omega)
      have h34' := c34 g n hz'
      unfold encM at h34'
      conv => whnf
      refine ⟨_, h34, ?_⟩
      conv => whnf
      conv => whnf
      refine ⟨fun w3 => ?_, fun w3 => ?_⟩
      · conv => whnf
        exact .of rfl
      · conv => whnf
        refine ⟨_, h34', ?_⟩
        conv => whnf
        conv => whnf
        refine ⟨fun w4 => ?_, fun w4 => ?_⟩
        · conv => whnf
          exact .of rfl
        · obtain ⟨r, F, rfl, ho⟩ := isB_iff.1 (show isB f m = true by simpa using w3)
          obtain ⟨r', F', rfl, ho'⟩ := isB_iff.1 (show isB g n = true by simpa using w4)
          have hN := nmS_N ho
          have hN' := nmS_N ho'
          have h37 := n37 ho
          have h37' := n37 ho'
          have h47 := n47 hN hN'
          have h47' := n47 hN' hN
          have h60 := n60 hN hN'
          have h60' := n60 hN' hN
          have h35 := n35 hN
          have h35' := n35 hN'
          unfold encM at h37 h37' h47 h47' h60 h60' h35 h35'
          conv => whnf
          refine ⟨_, h37, ?_⟩
          conv => whnf
          conv => whnf
          refine ⟨_, h37', ?_⟩
          conv => whnf
          conv => whnf
          refine ⟨by kernel_rfl, ?_⟩
          conv => whnf
          conv => whnf
          refine ⟨_, h47, ?_⟩
          conv => whnf
          conv => whnf
          refine ⟨_, h47', ?_⟩
          conv => whnf
          conv => whnf
          refine ⟨fun w5 => ?_, fun w5 => ?_⟩
          · exact absurd w5 (by decide)
          conv => whnf
          refine ⟨fun w6 => ?_, fun w6 => ?_⟩
          · exact absurd w6 (by decide)
          conv => whnf
          refine ⟨_, h60, ?_⟩
          conv => whnf
          conv => whnf
          refine ⟨_, h60', ?_⟩
          conv => whnf
          conv => whnf
          refine ⟨fun w7 => ?_, fun w7 => ?_⟩
          rotate_left
          · exact absurd w7 (by decide)
          conv => whnf
          refine ⟨fun w8 => ?_, fun w8 => ?_⟩
          rotate_left
          · exact absurd w8 (by decide)
          conv => whnf
          refine ⟨_, h35', ?_⟩
          conv => whnf
          conv => whnf
          refine ⟨_, h35, ?_⟩
          conv => whnf
          conv => whnf
          refine ⟨_, c50, ?_⟩
          conv => whnf
          conv => whnf
          exact .of rfl
end Go.Ab
