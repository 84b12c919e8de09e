/- Proof texts of one seat, in one file: an evaluator of the program's form, shown sound, and the functions told by it. There are no conditions but those that each theorem names. -/
import Derived.Test.YtpbembafpnknhaaGreatAb0
import Derived.Test.YtpbembafpnknhaaGreatAb1
import Derived.Test.YtpbembafpnknhaaGreatAb2
import Derived.Test.YtpbembafpnknhaaGreatAb3
import Derived.Test.YtpbembafpnknhaaGreatAb4
import Derived.Test.YtpbembafpnknhaaGreatAb5
import Derived.Test.YtpbembafpnknhaaGreatAb6
set_option linter.unusedVariables false
set_option linter.unusedSimpArgs false
set_option linter.unusedSectionVars false
set_option linter.unnecessarySimpa false
namespace Go.Ab
open Go.Proofs Sn
set_option maxRecDepth 100000
set_option linter.unnecessarySimpa false
set_option linter.unusedSimpArgs false
set_option linter.unusedVariables false
set_option maxHeartbeats 40000000
theorem isN_sz {s : St} (h : IsN s.1 s.2) : s.1.length ≤ 6 ∧ s.2.length ≤ 16 := by
  obtain ⟨r, F, e, o, _⟩ := h
  exact ⟨o.files6, by rw [e]; exact Nat.succ_le_succ o.n16⟩
end Go.Ab
namespace Go.Ab
open Go.Proofs Sn
set_option maxRecDepth 100000
set_option linter.unnecessarySimpa false
set_option linter.unusedSimpArgs false
set_option linter.unusedVariables false
set_option maxHeartbeats 40000000
theorem c148 (x : S47) (e : S62) : PCall cx.P 148 [.agg (enc47 x), .agg (enc62 e)] (.agg (enc47 (setF x e))) := pcall3 Tryz.f148 (by kernel_rfl) (by kernel_rfl) <| by
  conv => whnf
  refine ⟨fun w1 => ?_, fun w1 => ?_⟩
  · have h1 : e.f1 = 1 := eq_of_beq w1
    conv => whnf
    refine ⟨by kernel_rfl, ?_⟩
    conv => whnf
    conv => whnf
    unfold setF
    rw [if_pos h1]
    exact .of rfl
  have h1 : e.f1 ≠ 1 := ne_of_beq w1
  conv => whnf
  refine ⟨fun w2 => ?_, fun w2 => ?_⟩
  · have h2 : e.f1 = 2 := eq_of_beq w2
    conv => whnf
    unfold setF
    rw [if_neg h1, if_pos h2]
    exact .of rfl
  have h2 : e.f1 ≠ 2 := ne_of_beq w2
  conv => whnf
  refine ⟨fun w3 => ?_, fun w3 => ?_⟩
  · have h3 : e.f1 = 3 := eq_of_beq w3
    conv => whnf
    unfold setF
    rw [if_neg h1, if_neg h2, if_pos h3]
    exact .of rfl
  have h3 : e.f1 ≠ 3 := ne_of_beq w3
  conv => whnf
  refine ⟨fun w4 => ?_, fun w4 => ?_⟩
  · have h4 : e.f1 = 4 := eq_of_beq w4
    conv => whnf
    unfold setF
    rw [if_neg h1, if_neg h2, if_neg h3, if_pos h4]
    exact .of rfl
  have h4 : e.f1 ≠ 4 := ne_of_beq w4
  conv => whnf
  unfold setF
  rw [if_neg h1, if_neg h2, if_neg h3, if_neg h4]
  exact .of rfl
theorem c147a (s : St) (e : S62) (hs : s.1.length ≤ 1024) (h : hasS s.1 e.f0 = false) (h2 : e.f2 = true) : PCall cx.P 147 [encM s.1 s.2, .agg (enc62 e)] (.tup [encM (s.1 ++ [e.f0]) s.2, .lit true]) := pcall3 Tryz.f147 (by kernel_rfl) (by kernel_rfl) <| by
  have h73 := c73 s.1 e.f0 (by omega)
  rw [h] at h73
  have hE : (s.1.map encT).length = s.1.length := List.length_map _
  unfold encM
  conv => whnf
  refine ⟨_, h73, ?_⟩
  conv => whnf
  conv => whnf
  refine ⟨by kernel_rfl, ?_⟩
  conv => whnf
  conv => whnf
  refine ⟨fun w1 => ?_, fun w1 => ?_⟩
  · rw [h2] at w1; cases w1
  conv => whnf
  refine ⟨fun w2 => ?_, fun w2 => ?_⟩
  rotate_left
  · rw [h2] at w2; cases w2
  conv => whnf
  refine ⟨by show _ * 16 ≤ 2 ^ 47; omega, ?_⟩
  conv => whnf
  conv => whnf
  refine ⟨rfl, ?_⟩
  conv => whnf
  conv => whnf
  refine ⟨⟨Nat.zero_add _, by show (_ + 1) * 16 ≤ 2 ^ 47; omega⟩, ?_⟩
  conv => whnf
  conv => whnf
  refine ⟨by kernel_rfl, ?_⟩
  conv => whnf
  conv => whnf
  refine ⟨by rw [Nat.zero_add, List.drop_zero, List.length_append]; rfl, ?_⟩
  conv => whnf
  conv => whnf
  rw [List.map_append]
  exact .refl
theorem c147b (s : St) (e : S62) (hs : s.1.length ≤ 1024) (h : hasS s.1 e.f0 = true) (h2 : e.f2 = false) : PCall cx.P 147 [encM s.1 s.2, .agg (enc62 e)] (.tup [encM (delS s.1 e.f0) s.2, .lit true]) := pcall3 Tryz.f147 (by kernel_rfl) (by kernel_rfl) <| by
  have h73 := c73 s.1 e.f0 (by omega)
  rw [h] at h73
  have hE : (s.1.map encT).length = s.1.length := List.length_map _
  unfold encM
  conv => whnf
  refine ⟨_, h73, ?_⟩
  conv => whnf
  conv => whnf
  refine ⟨by kernel_rfl, ?_⟩
  conv => whnf
  conv => whnf
  refine ⟨fun w1 => ?_, fun w1 => ?_⟩
  · rw [h2] at w1; cases w1
  conv => whnf
  refine ⟨fun w2 => ?_, fun w2 => ?_⟩
  · rw [h2] at w2; cases w2
  conv => whnf
  have hT : ∀ i, (delS (s.1.take i) e.f0).length ≤ 1024 := fun i => Nat.le_trans (List.length_filter_le _ _) (Nat.le_trans (by rw [List.length_take]; exact Nat.min_le_right _ _) hs)
  refine .inr (.inl ⟨[2, 3, 4, 6, 7], Nat, fun i => ([(2, .bptr 144 0), (3, .bptr 208 0), (4, .bptr 272 0), (6, .own 1 400 0 ((delS (s.1.take i) e.f0).map encT).length .opn), (7, .int .i64 i)], [(400, .live (.arr 1 ((delS (s.1.take i) e.f0).map encT))), (272, .live (.box [.nils, .nils])), (208, .live (.box (enc62 e))), (144, .live (.box [.row 1 (s.1.map encT), .row 7 (s.2.map enc47)]))]), fun i => i ≤ s.1.length, fun i => s.1.length - i, ?_, fun i hi => ?_⟩)
  · conv => whnf
    refine ⟨0, ?_, Nat.zero_le _⟩
    exact .nil rfl rfl (.same <| .same <| .same <| .chg <| .same .nil) .here
  have hi : i ≤ s.1.length := hi
  have hti := hT i
  have hTe : ((delS (s.1.take i) e.f0).map encT).length = (delS (s.1.take i) e.f0).length := List.length_map _
  conv => whnf
  refine ⟨fun w3 => ?_, fun w3 => ?_⟩
  · have w3 : i < s.1.length := by have := of_decide_eq_true w3; omega
    obtain ⟨x, hx⟩ := at_ex w3
    conv => whnf
    refine ⟨⟨Int.natCast_nonneg _, by omega⟩, ?_⟩
    conv => whnf
    conv => whnf
    refine ⟨_, map_at hx, ?_⟩
    conv => whnf
    conv => whnf
    refine ⟨by kernel_rfl, ?_⟩
    conv => whnf
    conv => whnf
    refine ⟨fun w4 => ?_, fun w4 => ?_⟩
    · have hne : x ≠ e.f0 := seN w4
      have hst : delS (s.1.take (i + 1)) e.f0 = delS (s.1.take i) e.f0 ++ [x] := by
        unfold delS
        rw [snoc_take hx, List.filter_append, List.filter_cons_of_pos (by simpa using hne)]; rfl
      conv => whnf
      refine ⟨⟨Int.natCast_nonneg _, by omega⟩, ?_⟩
      conv => whnf
      conv => whnf
      refine ⟨_, map_at hx, ?_⟩
      conv => whnf
      conv => whnf
      refine ⟨rfl, ?_⟩
      conv => whnf
      conv => whnf
      refine ⟨⟨Nat.zero_add _, by show (_ + 1) * 16 ≤ 2 ^ 47; omega⟩, ?_⟩
      conv => whnf
      conv => whnf
      refine ⟨i + 1, ?_, w3, by show s.1.length - (i + 1) < s.1.length - i; omega⟩
      dsimp only
      rw [up1 w3 (by omega), hst, List.map_append, List.length_append]
      exact .of rfl
    · have heq : x = e.f0 := seY w4
      have hst : delS (s.1.take (i + 1)) e.f0 = delS (s.1.take i) e.f0 := by
        unfold delS
        rw [snoc_take hx, List.filter_append, List.filter_cons_of_neg (by simpa using heq), List.filter_nil, List.append_nil]
      conv => whnf
      refine ⟨i + 1, ?_, w3, by show s.1.length - (i + 1) < s.1.length - i; omega⟩
      dsimp only
      rw [up1 w3 (by omega), hst]
      exact .of rfl
  · have w3 : ¬ i < s.1.length := by have := of_decide_eq_false w3; omega
    have hie : i = s.1.length := by omega
    have hfin : delS (s.1.take i) e.f0 = delS s.1 e.f0 := by rw [hie, List.take_length]
    conv => whnf
    refine ⟨Nat.zero_add _, ?_⟩
    conv => whnf
    conv => whnf
    rw [hfin]
    exact .refl
theorem placeI_no {X : List S47} {id : ByteArray} (h : hasI X id = false) : placeI X id = -1 := by
  have : X.findIdx? (fun x => sEq x.f0 id) = none := by
    rw [List.findIdx?_eq_none_iff]
    intro x hx
    rw [← Bool.not_eq_true, sEq_iff]
    intro e
    rw [hasI_iff.2 ⟨x, hx, e⟩] at h
    cases h
  unfold placeI
  rw [this]
theorem placeI_at {X : List S47} {i : Nat} {x : S47} (hn : (X.map S47.f0).Nodup) (hx : X[i]? = some x) : placeI X x.f0 = i := by
  obtain ⟨hi, e⟩ := List.getElem?_eq_some_iff.1 hx
  have : X.findIdx? (fun y => sEq y.f0 x.f0) = some i := by
    rw [List.findIdx?_eq_some_iff_getElem]
    refine ⟨hi, (sEq_iff _ _).2 (by rw [e]), fun j hj => ?_⟩
    rw [sEq_iff]
    intro h
    have hp := List.pairwise_iff_getElem.1 hn j i (by rw [List.length_map]; omega) (by rw [List.length_map]; omega) hj
    rw [List.getElem_map, List.getElem_map] at hp
    exact hp (h.trans (by rw [e]))
  unfold placeI
  rw [this]
theorem placeI_has {X : List S47} {id : ByteArray} (hn : (X.map S47.f0).Nodup) (h : hasI X id = true) : ∃ i : Nat, placeI X id = i ∧ X[i]? = some (getI X id) := by
  obtain ⟨i, _, hx⟩ := place_has h
  refine ⟨i, ?_, hx⟩
  have := placeI_at hn hx
  rw [(getI_mem h).2] at this
  exact this
theorem c103u (s : St) (e : S62) (hn : (s.2.map S47.f0).Nodup) (hs : s.2.length ≤ 1024) (h : hasI s.2 e.f0 = true) (h1 : (e.f1 = 1 ∧ e.f2 = true) ∨ 2 ≤ e.f1 ∧ e.f1 ≤ 4) : PCall cx.P 103 [encM s.1 s.2, .agg (enc62 e)] (.tup [encM s.1 (updI s.2 e), .lit true]) := pcall3 Tryz.f103 (by kernel_rfl) (by kernel_rfl) <| by
  have h45 := c45 s.1 s.2 e.f0 (by omega)
  obtain ⟨i, hi, hx⟩ := placeI_has hn h
  have hil := (List.getElem?_eq_some_iff.1 hx).1
  have hupd := updI_idx (e := e) hn hx (getI_mem h).2
  have h148 := c148 (getI s.2 e.f0) e
  generalize getI s.2 e.f0 = x at hx hupd h148
  have hset : (s.2.map enc47).set (0 + (i : Int).toNat) (enc47 (setF x e)) = (updI s.2 e).map enc47 := by rw [Nat.zero_add, Int.toNat_natCast, ← List.map_set, hupd]
  rw [hi] at h45
  have hE : (s.2.map enc47).length = s.2.length := List.length_map _
  unfold encM at h45 ⊢
  conv => whnf
  refine ⟨_, h45, ?_⟩
  conv => whnf
  conv => whnf
  refine ⟨by show _ * 104 ≤ 2 ^ 47; omega, ?_⟩
  conv => whnf
  conv => whnf
  refine ⟨fun w1 => ?_, fun w1 => ?_⟩
  · have := eq_of_beq w1
    omega
  conv => whnf
  refine ⟨fun w2 => ?_, fun w2 => ?_⟩
  · have := of_decide_eq_true w2
    omega
  conv => whnf
  refine ⟨fun w3 => ?_, fun w3 => ?_⟩
  · have := of_decide_eq_true w3
    omega
  conv => whnf
  refine ⟨fun w4 => ?_, fun w4 => ?_⟩
  · have w4 := ne_of_bne w4
    conv => whnf
    refine ⟨fun w5 => ?_, fun w5 => ?_⟩
    · have := of_decide_eq_true w5
      omega
    conv => whnf
    refine ⟨⟨Int.natCast_nonneg _, by omega⟩, ?_⟩
    conv => whnf
    conv => whnf
    refine ⟨_, map_at0 hx, ?_⟩
    conv => whnf
    conv => whnf
    refine ⟨_, h148, ?_⟩
    conv => whnf
    conv => whnf
    refine ⟨⟨Int.natCast_nonneg _, by omega⟩, ?_⟩
    conv => whnf
    conv => whnf
    refine ⟨_, map_at0 hx, ?_⟩
    conv => whnf
    conv => whnf
    refine ⟨by kernel_rfl, ?_⟩
    conv => whnf
    conv => whnf
    refine ⟨by rw [Nat.zero_add, List.length_set], ?_⟩
    conv => whnf
    conv => whnf
    show Le (.tup [.agg [.row 1 (s.1.map encT), .row 7 (List.drop 0 ((s.2.map enc47).set (0 + (i : Int).toNat) (enc47 (setF x e))))], .lit true]) _
    rw [List.drop_zero, hset]
    exact .refl
  · have w4 := eq_of_bne w4
    have h2 : e.f2 = true := by
      rcases h1 with h1 | h1
      · exact h1.2
      · omega
    conv => whnf
    refine ⟨fun w5 => ?_, fun w5 => ?_⟩
    · rw [h2] at w5; cases w5
    conv => whnf
    refine ⟨fun w6 => ?_, fun w6 => ?_⟩
    · have := of_decide_eq_true w6
      omega
    conv => whnf
    refine ⟨⟨Int.natCast_nonneg _, by omega⟩, ?_⟩
    conv => whnf
    conv => whnf
    refine ⟨_, map_at0 hx, ?_⟩
    conv => whnf
    conv => whnf
    refine ⟨_, h148, ?_⟩
    conv => whnf
    conv => whnf
    refine ⟨⟨Int.natCast_nonneg _, by omega⟩, ?_⟩
    conv => whnf
    conv => whnf
    refine ⟨_, map_at0 hx, ?_⟩
    conv => whnf
    conv => whnf
    refine ⟨by kernel_rfl, ?_⟩
    conv => whnf
    conv => whnf
    refine ⟨by rw [Nat.zero_add, List.length_set], ?_⟩
    conv => whnf
    conv => whnf
    show Le (.tup [.agg [.row 1 (s.1.map encT), .row 7 (List.drop 0 ((s.2.map enc47).set (0 + (i : Int).toNat) (enc47 (setF x e))))], .lit true]) _
    rw [List.drop_zero, hset]
    exact .refl
theorem cut_eq {es R : List (List AV)} {i : Nat} (hi : i < es.length) : List.take (i + (es.drop (i + 1)).length) (es.take i ++ (es.drop (i + 1) ++ R)) = es.eraseIdx i := by
  have h1 : es.eraseIdx i = es.take i ++ es.drop (i + 1) := List.eraseIdx_eq_take_drop_succ ..
  have h2 : i + (es.drop (i + 1)).length = (es.take i ++ es.drop (i + 1)).length := by rw [List.length_append, List.length_take]; omega
  rw [h1, h2, ← List.append_assoc, List.take_left']
  rfl
theorem c103d (s : St) (e : S62) (hn : (s.2.map S47.f0).Nodup) (hs : s.2.length ≤ 1024) (h : hasI s.2 e.f0 = true) (h1 : e.f1 = 1) (h2 : e.f2 = false) : PCall cx.P 103 [encM s.1 s.2, .agg (enc62 e)] (.tup [encM s.1 (delI s.2 e.f0), .lit true]) := pcall3 Tryz.f103 (by kernel_rfl) (by kernel_rfl) <| by
  have h45 := c45 s.1 s.2 e.f0 (by omega)
  obtain ⟨i, hi, hx⟩ := placeI_has hn h
  have hil := (List.getElem?_eq_some_iff.1 hx).1
  have hdel := delI_idx hn hx
  rw [(getI_mem h).2] at hdel
  rw [hi] at h45
  have hE : (s.2.map enc47).length = s.2.length := List.length_map _
  unfold encM at h45 ⊢
  conv => whnf
  refine ⟨_, h45, ?_⟩
  conv => whnf
  conv => whnf
  refine ⟨by show _ * 104 ≤ 2 ^ 47; omega, ?_⟩
  conv => whnf
  conv => whnf
  refine ⟨fun w1 => ?_, fun w1 => ?_⟩
  · have := eq_of_beq w1
    omega
  conv => whnf
  refine ⟨fun w2 => ?_, fun w2 => ?_⟩
  · have := of_decide_eq_true w2
    omega
  conv => whnf
  refine ⟨fun w3 => ?_, fun w3 => ?_⟩
  · have := of_decide_eq_true w3
    omega
  conv => whnf
  refine ⟨fun w4 => ?_, fun w4 => ?_⟩
  · exact absurd h1 (ne_of_bne w4)
  conv => whnf
  refine ⟨fun w5 => ?_, fun w5 => ?_⟩
  rotate_left
  · rw [h2] at w5; cases w5
  conv => whnf
  refine ⟨fun w6 => ?_, fun w6 => ?_⟩
  · have := of_decide_eq_true w6
    omega
  conv => whnf
  refine ⟨⟨Int.natCast_nonneg _, by omega⟩, ?_⟩
  conv => whnf
  conv => whnf
  have hw := up1 hil (by omega)
  refine ⟨by rw [hw]; omega, ?_⟩
  conv => whnf
  conv => whnf
  refine ⟨by rw [hw, Int.toNat_natCast]; omega, ?_⟩
  conv => whnf
  conv => whnf
  refine ⟨⟨by simp only [hw, Int.toNat_natCast, List.length_drop, Nat.zero_add]; omega, by simp only [hw, Int.toNat_natCast, List.length_drop, Nat.zero_add]; omega⟩, ?_⟩
  conv => whnf
  conv => whnf
  refine ⟨by kernel_rfl, ?_⟩
  conv => whnf
  conv => whnf
  refine ⟨by simp only [hw, Int.toNat_natCast, Nat.zero_add, List.length_append, List.length_take, List.length_drop]; omega, ?_⟩
  conv => whnf
  conv => whnf
  simp only [hw, Int.toNat_natCast, Nat.zero_add, List.drop_zero]
  rw [cut_eq (by omega), ← map_erase, hdel]
  exact .refl
theorem c103a (s : St) (e : S62) (hs : s.2.length ≤ 1024) (h : hasI s.2 e.f0 = false) (h1 : e.f1 = 1) (h2 : e.f2 = true) : PCall cx.P 103 [encM s.1 s.2, .agg (enc62 e)] (.tup [encM s.1 (s.2 ++ [setF (only e.f0) e]), .lit true]) := pcall3 Tryz.f103 (by kernel_rfl) (by kernel_rfl) <| by
  have h45 := c45 s.1 s.2 e.f0 (by omega)
  rw [placeI_no h] at h45
  have h148 : PCall cx.P 148 [.agg [.str e.f0, .int .i64 0, .str ⟨#[]⟩, .lit false, .int .i64 0, .nils, .nils], .agg (enc62 e)] (.agg (enc47 (setF (only e.f0) e))) := (c148 (only e.f0) e).by2 (.it (.lit rfl) .nils .nils) .refl
  generalize setF (only e.f0) e = x at h148
  have hE : (s.2.map enc47).length = s.2.length := List.length_map _
  unfold encM at h45 ⊢
  conv => whnf
  refine ⟨_, h45, ?_⟩
  conv => whnf
  conv => whnf
  refine ⟨by show _ * 104 ≤ 2 ^ 47; omega, ?_⟩
  conv => whnf
  conv => whnf
  refine ⟨fun w1 => ?_, fun w1 => ?_⟩
  · have := eq_of_beq w1
    omega
  conv => whnf
  refine ⟨fun w2 => ?_, fun w2 => ?_⟩
  · have := of_decide_eq_true w2
    omega
  conv => whnf
  refine ⟨fun w3 => ?_, fun w3 => ?_⟩
  · have := of_decide_eq_true w3
    omega
  conv => whnf
  refine ⟨fun w4 => ?_, fun w4 => ?_⟩
  · exact absurd h1 (ne_of_bne w4)
  conv => whnf
  refine ⟨fun w5 => ?_, fun w5 => ?_⟩
  · rw [h2] at w5; cases w5
  conv => whnf
  refine ⟨fun w6 => ?_, fun w6 => ?_⟩
  rotate_left
  · exact absurd w6 (by decide)
  conv => whnf
  refine ⟨_, h148, ?_⟩
  conv => whnf
  conv => whnf
  refine ⟨rfl, ?_⟩
  conv => whnf
  conv => whnf
  refine ⟨⟨Nat.zero_add _, by show (_ + 1) * 104 ≤ 2 ^ 47; omega⟩, ?_⟩
  conv => whnf
  conv => whnf
  refine ⟨by rw [Nat.zero_add, List.drop_zero, List.length_append]; rfl, ?_⟩
  conv => whnf
  conv => whnf
  rw [List.map_append]
  exact .refl
theorem c103f (s : St) (e : S62) (hf : s.1.length ≤ 1024) (hs : s.2.length ≤ 1024) (h1 : e.f1 = 5) {u : St} (h147 : PCall cx.P 147 [encM s.1 s.2, .agg (enc62 e)] (.tup [encM u.1 u.2, .lit true])) : PCall cx.P 103 [encM s.1 s.2, .agg (enc62 e)] (.tup [encM u.1 u.2, .lit true]) := pcall3 Tryz.f103 (by kernel_rfl) (by kernel_rfl) <| by
  have h45 := c45 s.1 s.2 e.f0 (by omega)
  have hE : (s.2.map enc47).length = s.2.length := List.length_map _
  unfold encM at h45 h147 ⊢
  conv => whnf
  refine ⟨_, h45, ?_⟩
  conv => whnf
  conv => whnf
  refine ⟨by show _ * 104 ≤ 2 ^ 47; omega, ?_⟩
  conv => whnf
  conv => whnf
  refine ⟨fun w1 => ?_, fun w1 => ?_⟩
  rotate_left
  · exact absurd h1 (ne_of_beq w1)
  conv => whnf
  refine ⟨_, h147, ?_⟩
  conv => whnf
  conv => whnf
  exact .refl
theorem c103 {s u : St} {e : S62} (hN : Nice s) (hf : s.1.length ≤ 1024) (hs : s.2.length ≤ 1024) (h : oneS s e = some u) : PCall cx.P 103 [encM s.1 s.2, .agg (enc62 e)] (.tup [encM u.1 u.2, .lit true]) := by
  unfold oneS at h
  split at h
  · rename_i h5
    split at h
    · cases h
    · rename_i hh
      split at h
      · rename_i h2
        cases h
        exact c103f s e hf hs h5 (u := (s.1 ++ [e.f0], s.2)) (c147a s e hf (by cases hx : hasS s.1 e.f0 with
          | false => rfl
          | true => exact absurd (hx.trans h2.symm) hh) h2)
      · rename_i h2
        have h2 : e.f2 = false := by simpa using h2
        cases h
        exact c103f s e hf hs h5 (u := (delS s.1 e.f0, s.2)) (c147b s e hf (by cases hx : hasS s.1 e.f0 with
          | true => rfl
          | false => exact absurd (hx.trans h2.symm) hh) h2)
  · split at h
    · rename_i h1
      split at h
      · rename_i hh
        split at h
        · rename_i h2
          cases h
          exact c103u s e hN.xn hs hh (.inl ⟨h1, h2⟩)
        · rename_i h2
          cases h
          exact c103d s e hN.xn hs hh h1 (by simpa using h2)
      · rename_i hh
        split at h
        · rename_i h2
          cases h
          exact c103a s e hs (by simpa using hh) h1 h2
        · cases h
    · split at h
      · rename_i h24
        split at h
        · rename_i hh
          cases h
          exact c103u s e hN.xn hs hh (.inr h24)
        · cases h
      · cases h
end Go.Ab
namespace Go.Ab
open Go.Proofs Sn
set_option maxRecDepth 100000
set_option linter.unnecessarySimpa false
set_option linter.unusedSimpArgs false
set_option linter.unusedVariables false
set_option maxHeartbeats 40000000
theorem bel_preN {m : List S47} (hn : (m.map S47.f0).Nodup) : ∀ (k : Nat) (x : S47), bel m k x = pre S47.f0 S47.f2 ordID nIt m (k + 1) x := by
  intro k
  induction k with
  | zero =>
    intro x
    show [nIt x] = nIt x :: (ordID (kidsOf S47.f2 m x.f0)).flatMap fun _ => []
    congr 1
    induction ordID (kidsOf S47.f2 m x.f0) with
    | nil => rfl
    | cons a l ih => rw [List.flatMap_cons, ← ih]; rfl
  | succ k ih =>
    intro x
    rw [belS, kidIds_of]
    show _ = nIt x :: (ordID (kidsOf S47.f2 m x.f0)).flatMap (pre S47.f0 S47.f2 ordID nIt m (k + 1))
    congr 1
    rw [← sortL_map (c := cmpS) (key := S47.f0), List.flatMap_map]
    refine flatMap_congr' (fun y hy => ?_)
    have hy : y ∈ ordID (kidsOf S47.f2 m x.f0) := hy
    rw [mem_ord isOrd_ID, mem_kidsOf] at hy
    obtain ⟨i, hi, e, ep⟩ := place_mem hn hy.1
    rw [ep, Int.toNat_natCast, e]
    exact ih y
def rtAt (k i : Nat) : Int := if k < i then (k : Int) else -1
theorem c101 {s n : St} (hN : Nice s) (hO : ordO s = some n) : PCall cx.P 101 [.row 1 (s.1.map encT), .row 7 (s.2.map enc47)] (.tup [encM n.1 n.2, .lit true]) := pcall3 Tryz.f101 (by kernel_rfl) (by kernel_rfl) <| by
  obtain ⟨⟨r, F, hF, o, hso, hto⟩, hp1, hp2⟩ := ordO_some.1 hO
  obtain ⟨f', m'⟩ := n
  obtain ⟨fs, xs⟩ := s
  dsimp only at hF o hso hp1 hp2 ⊢
  subst hF
  have hn : (xs.map S47.f0).Nodup := hN.xn
  have hxl : xs.length ≤ 16 := by rw [← hp2.length_eq]; exact Nat.succ_le_succ o.n16
  have hfl : fs.length ≤ 6 := by rw [← hp1.length_eq]; exact o.files6
  have hr : r ∈ xs := hp2.mem_iff.1 (List.mem_cons_self ..)
  have he : r.f2 = ByteArray.empty := o.plan.2.1
  have honly : ∀ y ∈ xs, y.f2 = ByteArray.empty → y = r := fun y hy h => o.root_only (hp2.mem_iff.2 hy) h
  obtain ⟨k, hk⟩ := List.getElem?_of_mem hr
  have hkl := (List.getElem?_eq_some_iff.1 hk).1
  have hz : SzM fs xs := ⟨by omega, by omega, fun x hx => o.sz.hx x (hp2.mem_iff.2 hx)⟩
  have hsort : sortL cmpS fs = f' := (sortL_of_perm isCmp_s hp1.symm).trans hso
  have hpre : ∀ j x, pre S47.f0 S47.f2 ordID nIt xs j x = pre S47.f0 S47.f2 ordID nIt (r :: F) j x := fun j x => pre_of_perm o.nodup hp2.symm nIt j x
  have hB : ∀ k, ∀ x ∈ xs, (bel xs k x).length ≤ 1048576 := fun k x hx => by
    rw [bel_preN hn, hpre]
    exact Nat.le_trans (pre_len o isOrd_ID (f := nIt) (fun _ => rfl) (k + 1) (hp2.mem_iff.2 hx)) o.sz.hm
  have h82 := c82 fs xs hz hB 20 0 k r rfl hk
  rw [bel_preN hn, hpre, show (20 : Nat) + 1 = 20 + 1 from rfl, pre_more isOrd_ID 20 r (List.mem_cons_self ..) fun y n hy ha => by have := o.deep hy ha; omega, turn_pre, norm_root o, hto] at h82
  have h81 := c81 fs (by omega)
  rw [hsort] at h81
  have h34 := (c34 f' (r :: F) o.sz).to (.blit (isB_iff.2 ⟨r, F, rfl, o⟩))
  have hE : (xs.map enc47).length = xs.length := List.length_map _
  have hE' : ((r :: F).map enc47).length = xs.length := by rw [List.length_map]; exact hp2.length_eq
  have h45 := fun {j : Nat} {x : S47} (hx : xs[j]? = some x) => show PCall cx.P 45 [encM fs xs, .str x.f0] (.int .i64 (j : Int)) from (placeI_at hn hx) ▸ c45 fs xs x.f0 (by omega)
  unfold encM at h82 h34 h45 ⊢
  conv => whnf
  refine .inr (.inl ⟨[0, 1, 4, 6, 7, 8], Nat, fun i => ([(0, .row 1 (fs.map encT)), (1, .row 7 (xs.map enc47)), (4, .bptr 272 0), (6, .bptr 400 0), (7, .int .i64 (rtAt k i)), (8, .int .i64 i)], [(400, .live (.box [.row 1 (fs.map encT), .row 7 (xs.map enc47)])), (272, .live (.box [.nils, .nils]))]), fun i => i ≤ xs.length, fun i => xs.length - i, ?_, fun i hi => ?_⟩)
  · conv => whnf
    exact ⟨0, .of rfl, Nat.zero_le _⟩
  have hi : i ≤ xs.length := hi
  conv => whnf
  refine ⟨fun w1 => ?_, fun w1 => ?_⟩
  · have w1 : i < xs.length := by have := of_decide_eq_true w1; omega
    obtain ⟨x, hx⟩ := at_ex w1
    have h45 := h45 hx
    conv => whnf
    refine ⟨⟨Int.natCast_nonneg _, by omega⟩, ?_⟩
    conv => whnf
    conv => whnf
    refine ⟨_, map_at hx, ?_⟩
    conv => whnf
    conv => whnf
    refine ⟨_, h45, ?_⟩
    conv => whnf
    conv => whnf
    refine ⟨fun w2 => ?_, fun w2 => ?_⟩
    · exact absurd rfl (ne_of_bne w2)
    conv => whnf
    refine ⟨⟨Int.natCast_nonneg _, by omega⟩, ?_⟩
    conv => whnf
    conv => whnf
    refine ⟨_, map_at hx, ?_⟩
    conv => whnf
    conv => whnf
    refine ⟨fun w3 => ?_, fun w3 => ?_⟩
    · have h3 : x = r := honly x (List.mem_of_getElem? hx) ((sEq_iff _ _).1 w3)
      have hik : i = k := by
        have := placeI_at hn hx
        rw [h3, placeI_at hn hk] at this
        omega
      have hrt : rtAt k i = -1 := by unfold rtAt; rw [if_neg (by omega)]
      have hrt' : rtAt k (i + 1) = i := by unfold rtAt; rw [if_pos (by omega), hik]
      conv => whnf
      refine ⟨by kernel_rfl, ?_⟩
      conv => whnf
      conv => whnf
      refine ⟨fun w4 => ?_, fun w4 => ?_⟩
      · have := of_decide_eq_true w4
        omega
      conv => whnf
      refine ⟨⟨Int.natCast_nonneg _, by omega⟩, ?_⟩
      conv => whnf
      conv => whnf
      refine ⟨_, map_at hx, ?_⟩
      conv => whnf
      conv => whnf
      refine ⟨fun w5 => ?_, fun w5 => ?_⟩
      rotate_left
      · rw [w3] at w5; cases w5
      conv => whnf
      refine ⟨i + 1, ?_, w1, by show xs.length - (i + 1) < xs.length - i; omega⟩
      dsimp only
      rw [up1 w1 (by omega), hrt']
      exact .of rfl
    · have h3 : i ≠ k := fun h => by
        rw [h, hk] at hx
        cases hx
        have := (sEq_iff r.f2 ⟨#[]⟩).2 he
        rw [w3] at this
        cases this
      have hrt' : rtAt k (i + 1) = rtAt k i := by
        unfold rtAt
        by_cases hki : k < i
        · rw [if_pos hki, if_pos (by omega)]
        · rw [if_neg hki, if_neg (by omega)]
      conv => whnf
      refine ⟨by kernel_rfl, ?_⟩
      conv => whnf
      conv => whnf
      conv => whnf
      refine ⟨⟨Int.natCast_nonneg _, by omega⟩, ?_⟩
      conv => whnf
      conv => whnf
      refine ⟨_, map_at hx, ?_⟩
      conv => whnf
      conv => whnf
      refine ⟨fun w5 => ?_, fun w5 => ?_⟩
      · rw [w3] at w5; cases w5
      conv => whnf
      refine ⟨i + 1, ?_, w1, by show xs.length - (i + 1) < xs.length - i; omega⟩
      dsimp only
      rw [up1 w1 (by omega), hrt']
      exact .of rfl
  · have w1 : ¬ i < xs.length := by have := of_decide_eq_false w1; omega
    have hrt : rtAt k i = k := by unfold rtAt; rw [if_pos (by omega)]
    conv => whnf
    refine ⟨fun w2 => ?_, fun w2 => ?_⟩
    · have := of_decide_eq_true w2
      omega
    conv => whnf
    refine ⟨fun w3 => ?_, fun w3 => ?_⟩
    · have := of_decide_eq_true w3
      omega
    conv => whnf
    refine ⟨_, h81, ?_⟩
    conv => whnf
    conv => whnf
    rw [← hrt] at h82
    refine ⟨_, h82, ?_⟩
    conv => whnf
    conv => whnf
    refine ⟨by kernel_rfl, ?_⟩
    conv => whnf
    conv => whnf
    refine ⟨fun w4 => ?_, fun w4 => ?_⟩
    · exact absurd (congrArg (fun n : Nat => (n : Int)) (hE'.trans hE.symm)) (ne_of_bne w4)
    conv => whnf
    refine ⟨_, h34, ?_⟩
    conv => whnf
    conv => whnf
    exact .refl
end Go.Ab
namespace Go.Ab
open Go.Proofs Sn
set_option maxRecDepth 100000
set_option linter.unnecessarySimpa false
set_option linter.unusedSimpArgs false
set_option linter.unusedVariables false
set_option maxHeartbeats 40000000
theorem up_of {x y : S62} (hxy : cmpE x y = -1) : cmpS x.f0 y.f0 = -1 ∨ (x.f0 = y.f0 ∧ x.f1 < y.f1) := by
  unfold cmpE orC at hxy
  by_cases h0 : cmpS x.f0 y.f0 ≠ 0
  · rw [if_pos h0] at hxy
    exact .inl hxy
  · rw [if_neg h0] at hxy
    refine .inr ⟨cmpS_eq.1 (by simpa using h0), ?_⟩
    unfold cmpInt at hxy
    split at hxy
    · assumption
    · split at hxy <;> omega
theorem pw_adj2 {α : Type} {R : α → α → Prop} {l : List α} (h : l.Pairwise R) (i : Nat) (x y : α) (hx : l[i]? = some x) (hy : l[i + 1]? = some y) : R x y := by
  obtain ⟨h1, e1⟩ := List.getElem?_eq_some_iff.1 hx
  obtain ⟨h2, e2⟩ := List.getElem?_eq_some_iff.1 hy
  rw [← e1, ← e2]
  exact List.pairwise_iff_getElem.1 h i (i + 1) h1 h2 (Nat.lt_succ_self i)
theorem c59n {s t : St} (hs : IsN s.1 s.2) (ht : IsN t.1 t.2) : PCall cx.P 59 [encM s.1 s.2, .row 10 ((specD s.1 s.2 t.1 t.2).map enc62)] (.tup [encM t.1 t.2, .int .i64 0]) := pcall3 Tryz.f59 (by kernel_rfl) (by kernel_rfl) <| by
  obtain ⟨u, hru, hu, hul⟩ := run_spec (NiceF.of hs) (NiceF.of ht)
  have hO := ord_loc (f := t.1) (m := t.2) hu ht hul
  have h101 := c101 hu hO
  have hst := specD_strict s.1 s.2 t.1 t.2
  have hlen := specD_len hs ht
  have hnice := spec_nice (NiceF.of hs) (NiceF.of ht)
  have h31 := (c31 s.1 s.2 hs.sz).to (.blit (bP_iff.2 hs))
  obtain ⟨hs6, hs16⟩ := isN_sz hs
  generalize specD s.1 s.2 t.1 t.2 = L at hru hst hlen hnice
  have hE : (L.map enc62).length = L.length := List.length_map _
  unfold encM at h31 h101 ⊢
  conv => whnf
  refine ⟨_, h31, ?_⟩
  conv => whnf
  conv => whnf
  refine .inr (.inl ⟨[1, 4, 6, 7], Nat × St, fun p => ([(1, .row 10 (L.map enc62)), (4, .bptr 272 0), (6, .bptr 400 0), (7, .int .i64 p.1)], [(400, .live (.box [.row 1 (p.2.1.map encT), .row 7 (p.2.2.map enc47)])), (272, .live (.box [.nils, .nils]))]), fun p => p.1 ≤ L.length ∧ runS (L.take p.1) s = some p.2 ∧ Nice p.2 ∧ p.2.1.length ≤ 6 + p.1 ∧ p.2.2.length ≤ 16 + p.1, fun p => L.length - p.1, ?_, ?_⟩)
  · conv => whnf
    exact ⟨(0, s), .of rfl, Nat.zero_le _, rfl, hs.nice.1, hs6, hs16⟩
  rintro ⟨j, m⟩ ⟨hj, hr, hN, hb1, hb2⟩
  dsimp only at hj hr hN hb1 hb2 ⊢
  conv => whnf
  refine ⟨fun w1 => ?_, fun w1 => ?_⟩
  · have w2 : j < L.length := by have := of_decide_eq_true w1; omega
    obtain ⟨e, he⟩ := at_ex w2
    obtain ⟨v, ho⟩ : ∃ v, oneS m e = some v := by
      cases ho : oneS m e with
      | none => rw [run_stop he hr ho] at hru; cases hru
      | some v => exact ⟨v, rfl⟩
    have hul := one_len ho
    have h103 := c103 hN (by omega) (by omega) ho
    have hNv := hN.one (hnice e (List.mem_of_getElem? he)) ho
    have hrv := (run_take he hr).trans ho
    unfold encM at h103
    conv => whnf
    refine ⟨fun w3 => ?_, fun w3 => ?_⟩
    · have hj0 : 0 < j := by have := of_decide_eq_true w3; omega
      obtain ⟨x, hx⟩ := at_ex (show j - 1 < L.length by omega)
      have hcs := up_of (pw_adj2 hst (j - 1) x e hx (by rw [Nat.sub_add_cancel hj0]; exact he))
      have hpv : IntKind.i64.wrap (((j : Nat) : Int) - 1) = ((j - 1 : Nat) : Int) := by rw [IntWalk.i64_in _ (by omega)]; omega
      have hxw : (L.map enc62)[(IntKind.i64.wrap (((j : Nat) : Int) - 1)).toNat]? = some (enc62 x) := by rw [hpv]; exact map_at hx
      have hxb : 0 ≤ IntKind.i64.wrap (((j : Nat) : Int) - 1) ∧ IntKind.i64.wrap (((j : Nat) : Int) - 1) < ((L.map enc62).length : Int) := by rw [hpv]; omega
      conv => whnf
      refine ⟨hxb, ?_⟩
      conv => whnf
      conv => whnf
      refine ⟨_, hxw, ?_⟩
      conv => whnf
      conv => whnf
      refine ⟨⟨Int.natCast_nonneg _, by omega⟩, ?_⟩
      conv => whnf
      conv => whnf
      refine ⟨_, map_at he, ?_⟩
      conv => whnf
      conv => whnf
      refine ⟨fun w4 => ?_, fun w4 => ?_⟩
      · have hle : (sLt x.f0 e.f0 || sEq x.f0 e.f0) = true := by
          rcases hcs with h | ⟨h, _⟩
          · rw [sLt_iff.2 h]; rfl
          · rw [(sEq_iff _ _).2 h, Bool.or_true]
        rw [hle] at w4
        cases w4
      clear w4
      conv => whnf
      refine ⟨hxb, ?_⟩
      conv => whnf
      conv => whnf
      refine ⟨_, hxw, ?_⟩
      conv => whnf
      conv => whnf
      refine ⟨⟨Int.natCast_nonneg _, by omega⟩, ?_⟩
      conv => whnf
      conv => whnf
      refine ⟨_, map_at he, ?_⟩
      conv => whnf
      conv => whnf
      refine ⟨fun w5 => ?_, fun w5 => ?_⟩
      · have hlt : x.f1 < e.f1 := by
          rcases hcs with h | ⟨_, h⟩
          · rw [(sEq_iff _ _).1 w5, isCmp_s.self] at h
            cases h
          · exact h
        conv => whnf
        refine ⟨hxb, ?_⟩
        conv => whnf
        conv => whnf
        refine ⟨_, hxw, ?_⟩
        conv => whnf
        conv => whnf
        refine ⟨⟨Int.natCast_nonneg _, by omega⟩, ?_⟩
        conv => whnf
        conv => whnf
        refine ⟨_, map_at he, ?_⟩
        conv => whnf
        conv => whnf
        refine ⟨by kernel_rfl, ?_⟩
        conv => whnf
        conv => whnf
        refine ⟨fun w6 => ?_, fun w6 => ?_⟩
        · have := of_decide_eq_true w6
          omega
        conv => whnf
        refine ⟨⟨Int.natCast_nonneg _, by omega⟩, ?_⟩
        conv => whnf
        conv => whnf
        refine ⟨_, map_at he, ?_⟩
        conv => whnf
        conv => whnf
        refine ⟨_, h103, ?_⟩
        conv => whnf
        conv => whnf
        refine ⟨by kernel_rfl, ?_⟩
        conv => whnf
        conv => whnf
        refine ⟨(j + 1, v), ?_, ⟨w2, hrv, hNv, by dsimp only; omega, by dsimp only; omega⟩, by show L.length - (j + 1) < L.length - j; omega⟩
        dsimp only
        rw [up1 w2 (by omega)]
        exact .of rfl
      · conv => whnf
        refine ⟨by kernel_rfl, ?_⟩
        conv => whnf
        conv => whnf
        refine ⟨⟨Int.natCast_nonneg _, by omega⟩, ?_⟩
        conv => whnf
        conv => whnf
        refine ⟨_, map_at he, ?_⟩
        conv => whnf
        conv => whnf
        refine ⟨_, h103, ?_⟩
        conv => whnf
        conv => whnf
        refine ⟨by kernel_rfl, ?_⟩
        conv => whnf
        conv => whnf
        refine ⟨(j + 1, v), ?_, ⟨w2, hrv, hNv, by dsimp only; omega, by dsimp only; omega⟩, by show L.length - (j + 1) < L.length - j; omega⟩
        dsimp only
        rw [up1 w2 (by omega)]
        exact .of rfl
    · conv => whnf
      refine ⟨by kernel_rfl, ?_⟩
      conv => whnf
      conv => whnf
      refine ⟨⟨Int.natCast_nonneg _, by omega⟩, ?_⟩
      conv => whnf
      conv => whnf
      refine ⟨_, map_at he, ?_⟩
      conv => whnf
      conv => whnf
      refine ⟨_, h103, ?_⟩
      conv => whnf
      conv => whnf
      refine ⟨by kernel_rfl, ?_⟩
      conv => whnf
      conv => whnf
      refine ⟨(j + 1, v), ?_, ⟨w2, hrv, hNv, by dsimp only; omega, by dsimp only; omega⟩, by show L.length - (j + 1) < L.length - j; omega⟩
      dsimp only
      rw [up1 w2 (by omega)]
      exact .of rfl
  · have hjL : j = L.length := by have := of_decide_eq_false w1; omega
    rw [hjL, List.take_length, hru] at hr
    rw [Option.some.inj hr] at h101
    conv => whnf
    refine ⟨_, h101, ?_⟩
    conv => whnf
    conv => whnf
    exact .refl
end Go.Ab
namespace Go.Ab
open Go.Proofs Sn
set_option maxRecDepth 100000
set_option linter.unnecessarySimpa false
set_option linter.unusedSimpArgs false
set_option linter.unusedVariables false
set_option maxHeartbeats 40000000
theorem c147n (s : St) (e : S62) (hs : s.1.length ≤ 1024) (h : hasS s.1 e.f0 = e.f2) : PCall cx.P 147 [encM s.1 s.2, .agg (enc62 e)] (.tup [encM s.1 s.2, .lit false]) := pcall3 Tryz.f147 (by kernel_rfl) (by kernel_rfl) <| by
  have h73 := c73 s.1 e.f0 (by omega)
  rw [h] at h73
  unfold encM
  conv => whnf
  refine ⟨_, h73, ?_⟩
  conv => whnf
  conv => whnf
  refine ⟨by kernel_rfl, ?_⟩
  conv => whnf
  conv => whnf
  refine ⟨fun w1 => ?_, fun w1 => ?_⟩
  rotate_left
  · rw [beq_self_eq_true] at w1; cases w1
  conv => whnf
  exact .refl
theorem c103n {s : St} {e : S62} (hf : s.1.length ≤ 1024) (hs : s.2.length ≤ 1024) (h : oneS s e = none) : PCall cx.P 103 [encM s.1 s.2, .agg (enc62 e)] (.tup [encM s.1 s.2, .lit false]) := pcall3 Tryz.f103 (by kernel_rfl) (by kernel_rfl) <| by
  have h45 := c45 s.1 s.2 e.f0 (by omega)
  have hE : (s.2.map enc47).length = s.2.length := List.length_map _
  have hno : e.f1 ≠ 5 → 1 ≤ e.f1 ∧ e.f1 ≤ 4 → hasI s.2 e.f0 = false ∧ (e.f1 = 1 → e.f2 = false) := fun h5 h14 => by
    unfold oneS at h
    rw [if_neg h5] at h
    cases hh : hasI s.2 e.f0 with
    | false =>
      refine ⟨rfl, fun h1 => ?_⟩
      rw [if_pos h1, if_neg (by rw [hh]; decide)] at h
      cases h2 : e.f2 with
      | false => rfl
      | true => rw [if_pos h2] at h; cases h
    | true =>
      exfalso
      by_cases h1 : e.f1 = 1
      · rw [if_pos h1, if_pos hh] at h
        split at h <;> cases h
      · rw [if_neg h1, if_pos (by omega), if_pos hh] at h
        cases h
  by_cases h5 : e.f1 = 5
  · have h147 := c147n s e hf (by
      unfold oneS at h
      rw [if_pos h5] at h
      split at h
      · assumption
      · split at h <;> cases h)
    unfold encM at h45 h147 ⊢
    conv => whnf
    refine ⟨_, h45, ?_⟩
    conv => whnf
    conv => whnf
    refine ⟨by show _ * 104 ≤ 2 ^ 47; omega, ?_⟩
    conv => whnf
    conv => whnf
    refine ⟨fun w1 => ?_, fun w1 => ?_⟩
    rotate_left
    · exact absurd h5 (ne_of_beq w1)
    conv => whnf
    refine ⟨_, h147, ?_⟩
    conv => whnf
    conv => whnf
    exact .refl
  by_cases h14 : 1 ≤ e.f1 ∧ e.f1 ≤ 4
  rotate_left
  · unfold encM at h45 ⊢
    conv => whnf
    refine ⟨_, h45, ?_⟩
    conv => whnf
    conv => whnf
    refine ⟨by show _ * 104 ≤ 2 ^ 47; omega, ?_⟩
    conv => whnf
    conv => whnf
    refine ⟨fun w1 => ?_, fun w1 => ?_⟩
    · exact absurd (eq_of_beq w1) h5
    conv => whnf
    refine ⟨fun w2 => ?_, fun w2 => ?_⟩
    · conv => whnf
      exact .refl
    conv => whnf
    refine ⟨fun w3 => ?_, fun w3 => ?_⟩
    rotate_left
    · have := of_decide_eq_false w2
      have := of_decide_eq_false w3
      omega
    conv => whnf
    exact .refl
  obtain ⟨hI, hd1⟩ := hno h5 h14
  rw [placeI_no hI] at h45
  unfold encM at h45 ⊢
  conv => whnf
  refine ⟨_, h45, ?_⟩
  conv => whnf
  conv => whnf
  refine ⟨by show _ * 104 ≤ 2 ^ 47; omega, ?_⟩
  conv => whnf
  conv => whnf
  refine ⟨fun w1 => ?_, fun w1 => ?_⟩
  · exact absurd (eq_of_beq w1) h5
  conv => whnf
  refine ⟨fun w2 => ?_, fun w2 => ?_⟩
  · have := of_decide_eq_true w2
    omega
  conv => whnf
  refine ⟨fun w3 => ?_, fun w3 => ?_⟩
  · have := of_decide_eq_true w3
    omega
  conv => whnf
  refine ⟨fun w4 => ?_, fun w4 => ?_⟩
  · conv => whnf
    refine ⟨fun w5 => ?_, fun w5 => ?_⟩
    rotate_left
    · exact absurd w5 (by decide)
    conv => whnf
    exact .refl
  have h1 : e.f1 = 1 := eq_of_bne w4
  conv => whnf
  refine ⟨fun w5 => ?_, fun w5 => ?_⟩
  rotate_left
  · rw [hd1 h1] at w5; cases w5
  conv => whnf
  refine ⟨fun w6 => ?_, fun w6 => ?_⟩
  rotate_left
  · exact absurd w6 (by decide)
  conv => whnf
  exact .refl
end Go.Ab
namespace Go.Ab
open Go.Proofs Sn
set_option maxRecDepth 100000
set_option linter.unnecessarySimpa false
set_option linter.unusedSimpArgs false
set_option linter.unusedVariables false
set_option maxHeartbeats 40000000
theorem c59g (s : St) (L : List S62) (hs : IsN s.1 s.2) (hlen : L.length ≤ 512) (hnice : ∀ e ∈ L, NiceE e) (h101n : ∀ u, runS L s = some u → ordO u = none → PCall cx.P 101 [.row 1 (u.1.map encT), .row 7 (u.2.map enc47)] (.tup [encM [] [], .lit false])) : PCall cx.P 59 [encM s.1 s.2, .row 10 (L.map enc62)] (.tup [encM (apS s L).1.1 (apS s L).1.2, .int .i64 (apS s L).2]) := pcall3 Tryz.f59 (by kernel_rfl) (by kernel_rfl) <| by
  have h31 := (c31 s.1 s.2 hs.sz).to (.blit (bP_iff.2 hs))
  obtain ⟨hs6, hs16⟩ := isN_sz hs
  have hE : (L.map enc62).length = L.length := List.length_map _
  have bad2 : runS L s = none → Le (.tup [.agg [.nils, .nils], .int .i64 1]) (.tup [.agg [.row 1 ((apS s L).1.1.map encT), .row 7 ((apS s L).1.2.map enc47)], .int .i64 (apS s L).2]) := fun h => by
    rw [ap_bad2 hs h]
    exact .tup2 (.agg2 .nils .nils) .refl
  have bad1 : ¬ Adj L → Le (.tup [.agg [.nils, .nils], .int .i64 1]) (.tup [.agg [.row 1 ((apS s L).1.1.map encT), .row 7 ((apS s L).1.2.map enc47)], .int .i64 (apS s L).2]) := fun h => by
    rw [ap_bad1 hs h]
    exact .tup2 (.agg2 .nils .nils) .refl
  unfold encM at h31 ⊢
  conv => whnf
  refine ⟨_, h31, ?_⟩
  conv => whnf
  conv => whnf
  refine .inr (.inl ⟨[1, 4, 6, 7], Nat × St, fun p => ([(1, .row 10 (L.map enc62)), (4, .bptr 272 0), (6, .bptr 400 0), (7, .int .i64 p.1)], [(400, .live (.box [.row 1 (p.2.1.map encT), .row 7 (p.2.2.map enc47)])), (272, .live (.box [.nils, .nils]))]), fun p => p.1 ≤ L.length ∧ runS (L.take p.1) s = some p.2 ∧ Nice p.2 ∧ (p.2.1.length ≤ 6 + p.1 ∧ p.2.2.length ≤ 16 + p.1) ∧ ∀ i x y, i + 1 < p.1 → L[i]? = some x → L[i + 1]? = some y → cmpE x y = -1, fun p => L.length - p.1, ?_, ?_⟩)
  · conv => whnf
    exact ⟨(0, s), .of rfl, Nat.zero_le _, rfl, hs.nice.1, ⟨hs6, hs16⟩, fun i x y h => by dsimp only at h; omega⟩
  rintro ⟨j, m⟩ ⟨hj, hr, hN, ⟨hb1, hb2⟩, hadj⟩
  dsimp only at hj hr hN hb1 hb2 hadj ⊢
  conv => whnf
  refine ⟨fun w1 => ?_, fun w1 => ?_⟩
  · have w2 : j < L.length := by have := of_decide_eq_true w1; omega
    obtain ⟨e, he⟩ := at_ex w2
    have q1 := fun ho => c103n (s := m) (e := e) (by omega) (by omega) ho
    have q2 := fun u ho => c103 (u := u) (e := e) hN (by omega) (by omega) ho
    have hul := fun u (ho : oneS m e = some u) => one_len ho
    unfold encM at q1 q2
    have hex : oneS m e = none ∨ ∃ v, oneS m e = some v := by
      cases ho : oneS m e with
      | none => exact .inl rfl
      | some v => exact .inr ⟨v, rfl⟩
    conv => whnf
    refine ⟨fun w3 => ?_, fun w3 => ?_⟩
    · have hj0 : 0 < j := by have := of_decide_eq_true w3; omega
      obtain ⟨x, hx⟩ := at_ex (show j - 1 < L.length by omega)
      have he' : L[j - 1 + 1]? = some e := by rw [Nat.sub_add_cancel hj0]; exact he
      have hpv : IntKind.i64.wrap (((j : Nat) : Int) - 1) = ((j - 1 : Nat) : Int) := by rw [IntWalk.i64_in _ (by omega)]; omega
      have hxw : (L.map enc62)[(IntKind.i64.wrap (((j : Nat) : Int) - 1)).toNat]? = some (enc62 x) := by rw [hpv]; exact map_at hx
      have hxb : 0 ≤ IntKind.i64.wrap (((j : Nat) : Int) - 1) ∧ IntKind.i64.wrap (((j : Nat) : Int) - 1) < ((L.map enc62).length : Int) := by rw [hpv]; omega
      have hstep : cmpE x e = -1 → ∀ i a b, i + 1 < j + 1 → L[i]? = some a → L[i + 1]? = some b → cmpE a b = -1 := fun hc i a b hi ha hb => by
        by_cases hij : i + 1 < j
        · exact hadj i a b hij ha hb
        · have : i = j - 1 := by omega
          subst this
          rw [hx] at ha
          rw [he'] at hb
          cases ha
          cases hb
          exact hc
      have hbad : cmpE x e ≠ -1 → ¬ Adj L := fun hc hA => hc (hA (j - 1) x e hx he')
      conv => whnf
      refine ⟨hxb, ?_⟩
      conv => whnf
      conv => whnf
      refine ⟨_, hxw, ?_⟩
      conv => whnf
      conv => whnf
      refine ⟨⟨Int.natCast_nonneg _, by omega⟩, ?_⟩
      conv => whnf
      conv => whnf
      refine ⟨_, map_at he, ?_⟩
      conv => whnf
      conv => whnf
      refine ⟨fun w4 => ?_, fun w4 => ?_⟩
      · conv => whnf
        refine ⟨by kernel_rfl, ?_⟩
        conv => whnf
        conv => whnf
        exact bad1 (hbad fun hc => by
          have hle : (sLt x.f0 e.f0 || sEq x.f0 e.f0) = true := by
            rcases up_of hc with h | ⟨h, _⟩
            · rw [sLt_iff.2 h]; rfl
            · rw [(sEq_iff _ _).2 h, Bool.or_true]
          rw [hle] at w4
          cases w4)
      conv => whnf
      refine ⟨hxb, ?_⟩
      conv => whnf
      conv => whnf
      refine ⟨_, hxw, ?_⟩
      conv => whnf
      conv => whnf
      refine ⟨⟨Int.natCast_nonneg _, by omega⟩, ?_⟩
      conv => whnf
      conv => whnf
      refine ⟨_, map_at he, ?_⟩
      conv => whnf
      conv => whnf
      refine ⟨fun w5 => ?_, fun w5 => ?_⟩
      · conv => whnf
        refine ⟨hxb, ?_⟩
        conv => whnf
        conv => whnf
        refine ⟨_, hxw, ?_⟩
        conv => whnf
        conv => whnf
        refine ⟨⟨Int.natCast_nonneg _, by omega⟩, ?_⟩
        conv => whnf
        conv => whnf
        refine ⟨_, map_at he, ?_⟩
        conv => whnf
        conv => whnf
        refine ⟨by kernel_rfl, ?_⟩
        conv => whnf
        conv => whnf
        refine ⟨fun w6 => ?_, fun w6 => ?_⟩
        · conv => whnf
          exact bad1 (hbad fun hc => by
            have := of_decide_eq_true w6
            rcases up_of hc with h | ⟨_, h⟩
            · rw [(sEq_iff _ _).1 w5, isCmp_s.self] at h
              cases h
            · omega)
        have hadj' := hstep (cmpE_f1 ((sEq_iff _ _).1 w5) (by have := of_decide_eq_false w6; omega))
        conv => whnf
        refine ⟨⟨Int.natCast_nonneg _, by omega⟩, ?_⟩
        conv => whnf
        conv => whnf
        refine ⟨_, map_at he, ?_⟩
        conv => whnf
        conv => whnf
        refine Or.elim hex (fun ho => ?_) (fun ho => ?_)
        · refine ⟨_, q1 ho, ?_⟩
          conv => whnf
          conv => whnf
          refine ⟨by kernel_rfl, ?_⟩
          conv => whnf
          conv => whnf
          exact bad2 (run_stop he hr ho)
        · obtain ⟨v, ho⟩ := ho
          have hul := hul v ho
          refine ⟨_, q2 v ho, ?_⟩
          conv => whnf
          conv => whnf
          refine ⟨by kernel_rfl, ?_⟩
          conv => whnf
          conv => whnf
          refine ⟨(j + 1, v), ?_, ⟨w2, (run_take he hr).trans ho, hN.one (hnice e (List.mem_of_getElem? he)) ho, ⟨by dsimp only; omega, by dsimp only; omega⟩, hadj'⟩, by show L.length - (j + 1) < L.length - j; omega⟩
          dsimp only
          rw [up1 w2 (by omega)]
          exact .of rfl
      · have hadj' := hstep (cmpE_f0 (by
          have h4 : (sLt x.f0 e.f0 || sEq x.f0 e.f0) = true := by
            cases h : (sLt x.f0 e.f0 || sEq x.f0 e.f0) with
            | true => rfl
            | false => rw [h] at w4; cases w4
          rw [w5, Bool.or_false] at h4
          exact sLt_iff.1 h4))
        conv => whnf
        refine ⟨by kernel_rfl, ?_⟩
        conv => whnf
        conv => whnf
        refine ⟨⟨Int.natCast_nonneg _, by omega⟩, ?_⟩
        conv => whnf
        conv => whnf
        refine ⟨_, map_at he, ?_⟩
        conv => whnf
        conv => whnf
        refine Or.elim hex (fun ho => ?_) (fun ho => ?_)
        · refine ⟨_, q1 ho, ?_⟩
          conv => whnf
          conv => whnf
          refine ⟨by kernel_rfl, ?_⟩
          conv => whnf
          conv => whnf
          exact bad2 (run_stop he hr ho)
        · obtain ⟨v, ho⟩ := ho
          have hul := hul v ho
          refine ⟨_, q2 v ho, ?_⟩
          conv => whnf
          conv => whnf
          refine ⟨by kernel_rfl, ?_⟩
          conv => whnf
          conv => whnf
          refine ⟨(j + 1, v), ?_, ⟨w2, (run_take he hr).trans ho, hN.one (hnice e (List.mem_of_getElem? he)) ho, ⟨by dsimp only; omega, by dsimp only; omega⟩, hadj'⟩, by show L.length - (j + 1) < L.length - j; omega⟩
          dsimp only
          rw [up1 w2 (by omega)]
          exact .of rfl
    · have hadj' : ∀ i a b, i + 1 < j + 1 → L[i]? = some a → L[i + 1]? = some b → cmpE a b = -1 := fun i a b hi => by
        have := of_decide_eq_false w3
        omega
      conv => whnf
      refine ⟨by kernel_rfl, ?_⟩
      conv => whnf
      conv => whnf
      refine ⟨⟨Int.natCast_nonneg _, by omega⟩, ?_⟩
      conv => whnf
      conv => whnf
      refine ⟨_, map_at he, ?_⟩
      conv => whnf
      conv => whnf
      refine Or.elim hex (fun ho => ?_) (fun ho => ?_)
      · refine ⟨_, q1 ho, ?_⟩
        conv => whnf
        conv => whnf
        refine ⟨by kernel_rfl, ?_⟩
        conv => whnf
        conv => whnf
        exact bad2 (run_stop he hr ho)
      · obtain ⟨v, ho⟩ := ho
        have hul := hul v ho
        refine ⟨_, q2 v ho, ?_⟩
        conv => whnf
        conv => whnf
        refine ⟨by kernel_rfl, ?_⟩
        conv => whnf
        conv => whnf
        refine ⟨(j + 1, v), ?_, ⟨w2, (run_take he hr).trans ho, hN.one (hnice e (List.mem_of_getElem? he)) ho, ⟨by dsimp only; omega, by dsimp only; omega⟩, hadj'⟩, by show L.length - (j + 1) < L.length - j; omega⟩
        dsimp only
        rw [up1 w2 (by omega)]
        exact .of rfl
  · have hjL : j = L.length := by have := of_decide_eq_false w1; omega
    rw [hjL, List.take_length] at hr
    have hA : Adj L := fun i x y hx hy => hadj i x y (by have := (List.getElem?_eq_some_iff.1 hy).1; omega) hx hy
    refine Or.elim (show ordO m = none ∨ ∃ n, ordO m = some n by cases hO : ordO m with
      | none => exact .inl rfl
      | some n => exact .inr ⟨n, rfl⟩) (fun hO => ?_) (fun hO => ?_)
    · skip
      have h101 := h101n m hr hO
      have hap := ap_end hs hA hr
      rw [hO] at hap
      unfold encM at h101
      conv => whnf
      refine ⟨_, h101, ?_⟩
      conv => whnf
      conv => whnf
      rw [hap]
      exact .tup2 (.agg2 .nils .nils) .refl
    · obtain ⟨n, hO⟩ := hO
      have h101 := c101 hN hO
      have hap := ap_end hs hA hr
      rw [hO] at hap
      unfold encM at h101
      conv => whnf
      refine ⟨_, h101, ?_⟩
      conv => whnf
      conv => whnf
      rw [hap]
      exact .refl
end Go.Ab
namespace Go.Ab
open Go.Proofs Sn
def iP : S47 := ⟨⟨#[112]⟩, 1, ⟨#[]⟩, false, 0, [], []⟩
def iT (n : Int) : S47 := ⟨⟨#[116]⟩, n, ⟨#[112]⟩, false, 0, [], []⟩
end Go.Ab
namespace Go.Ab
open Go.Proofs Sn
def oD : St := ([⟨#[102]⟩], [iP, iT 2])
theorem noD : IsN oD.1 oD.2 := isN_by (by kernel_rfl) (by kernel_rfl) (by kernel_rfl)
def eD (id : ByteArray) (k : Int) (b : Bool) (x : S47) : S62 := ⟨id, k, b, x⟩
theorem od1 : runS [eD ⟨#[116]⟩ 6 false z47] oD = none := by kernel_rfl
theorem od2 : runS [eD ⟨#[120]⟩ 2 true z47] oD = none := by kernel_rfl
theorem od3 : runS [eD ⟨#[120]⟩ 1 false z47] oD = none := by kernel_rfl
theorem od4 : runS [eD ⟨#[102]⟩ 5 true z47] oD = none := by kernel_rfl
theorem od5 : runS [eD ⟨#[103]⟩ 5 false z47] oD = none := by kernel_rfl
theorem od7 (e : S62) : runS [eD ⟨#[117]⟩ 1 false z47, e] oD = none := by kernel_rfl
theorem od8 : runS [eD ⟨#[112]⟩ 1 false z47] oD = some ([⟨#[102]⟩], [iT 2]) := by kernel_rfl
theorem od9 : runS [eD ⟨#[116]⟩ 1 true ⟨⟨#[]⟩, 2, ⟨#[120]⟩, false, 0, [], []⟩] oD = some ([⟨#[102]⟩], [iP, ⟨⟨#[116]⟩, 2, ⟨#[120]⟩, false, 0, [], []⟩]) := by kernel_rfl
theorem od10 : runS [eD ⟨#[116]⟩ 3 true ⟨⟨#[]⟩, 0, ⟨#[]⟩, false, 0, [⟨[], []⟩], []⟩] oD = some ([⟨#[102]⟩], [iP, ⟨⟨#[116]⟩, 2, ⟨#[112]⟩, false, 0, [⟨[], []⟩], []⟩]) := by kernel_rfl
theorem on8 : ordO ([⟨#[102]⟩], [iT 2]) = none := ord_no_root fun x hx => by
  cases List.mem_singleton.1 hx
  intro h
  cases h
def iX : S47 := ⟨⟨#[116]⟩, 2, ⟨#[120]⟩, false, 0, [], []⟩
def iE : S47 := ⟨⟨#[116]⟩, 2, ⟨#[112]⟩, false, 0, [⟨[], []⟩], []⟩
theorem smE : Small [⟨[], []⟩] := ⟨by decide, fun s hs => by cases List.mem_singleton.1 hs; exact ⟨by decide, by decide⟩⟩
theorem nm_iP : Nm iP := .of rfl rfl small_nil small_nil
theorem nc9 : Nice ([⟨#[102]⟩], [iP, iX]) := ⟨by decide, by decide, fun x hx => by
  simp only [List.mem_cons, List.not_mem_nil, or_false] at hx
  rcases hx with rfl | rfl <;> kernel_rfl, fun x hx => by
  simp only [List.mem_cons, List.not_mem_nil, or_false] at hx
  rcases hx with rfl | rfl
  · exact nm_iP
  · exact .of rfl rfl small_nil small_nil⟩
theorem nc10 : Nice ([⟨#[102]⟩], [iP, iE]) := ⟨by decide, by decide, fun x hx => by
  simp only [List.mem_cons, List.not_mem_nil, or_false] at hx
  rcases hx with rfl | rfl <;> kernel_rfl, fun x hx => by
  simp only [List.mem_cons, List.not_mem_nil, or_false] at hx
  rcases hx with rfl | rfl
  · exact nm_iP
  · exact .of (by kernel_rfl) rfl smE small_nil⟩
theorem on9 : ordO ([⟨#[102]⟩], [iP, iX]) = none := ord_no_reach' nc9 (r := iP) (List.mem_cons_self ..) rfl (by
  rw [show (preN [iP, iX] iP).length = 1 by kernel_rfl]
  decide)
theorem on10 : ordO ([⟨#[102]⟩], [iP, iE]) = none := by
  rw [ord_last nc10 (r := iP) (List.mem_cons_self ..) rfl (by decide) (by kernel_rfl)]
  rw [show isB (sortL cmpS ([⟨#[102]⟩] : List ByteArray)) (preN [iP, iE] iP) = false by kernel_rfl]
  rfl
end Go.Ab
namespace Go.Ab
open Go.Proofs Sn
set_option maxRecDepth 100000
set_option linter.unnecessarySimpa false
set_option linter.unusedSimpArgs false
set_option linter.unusedVariables false
set_option maxHeartbeats 40000000
theorem c101k {fs : List ByteArray} {xs B : List S47} {r : S47} {k : Nat} (hz : SzM fs xs) (hn : (xs.map S47.f0).Nodup) (hxl : xs.length ≤ 16) (hfl : fs.length ≤ 6) (hk : xs[k]? = some r) (he : r.f2 = ByteArray.empty) (honly : ∀ y ∈ xs, y.f2 = ByteArray.empty → y = r) (h82 : PCall cx.P 82 [encM fs xs, .int .i64 k, .int .i64 0] (.row 7 (B.map enc47))) (hbad : B.length ≠ xs.length ∨ B.length = xs.length ∧ SzM (sortL cmpS fs) B ∧ isB (sortL cmpS fs) B = false) : PCall cx.P 101 [.row 1 (fs.map encT), .row 7 (xs.map enc47)] (.tup [encM [] [], .lit false]) := pcall3 Tryz.f101 (by kernel_rfl) (by kernel_rfl) <| by
  have hkl := (List.getElem?_eq_some_iff.1 hk).1
  have h81 := c81 fs (by omega)
  have hE : (xs.map enc47).length = xs.length := List.length_map _
  have hE' : (B.map enc47).length = B.length := List.length_map _
  have h45 := fun {j : Nat} {x : S47} (hx : xs[j]? = some x) => show PCall cx.P 45 [encM fs xs, .str x.f0] (.int .i64 (j : Int)) from (placeI_at hn hx) ▸ c45 fs xs x.f0 (by omega)
  have h34 := fun (h : SzM (sortL cmpS fs) B) => c34 (sortL cmpS fs) B h
  unfold encM at h82 h34 h45 ⊢
  conv => whnf
  refine .inr (.inl ⟨[0, 1, 4, 6, 7, 8], Nat, fun i => ([(0, .row 1 (fs.map encT)), (1, .row 7 (xs.map enc47)), (4, .bptr 272 0), (6, .bptr 400 0), (7, .int .i64 (rtAt k i)), (8, .int .i64 i)], [(400, .live (.box [.row 1 (fs.map encT), .row 7 (xs.map enc47)])), (272, .live (.box [.nils, .nils]))]), fun i => i ≤ xs.length, fun i => xs.length - i, ?_, fun i hi => ?_⟩)
  · conv => whnf
    exact ⟨0, .of rfl, Nat.zero_le _⟩
  have hi : i ≤ xs.length := hi
  conv => whnf
  refine ⟨fun w1 => ?_, fun w1 => ?_⟩
  · have w1 : i < xs.length := by have := of_decide_eq_true w1; omega
    obtain ⟨x, hx⟩ := at_ex w1
    have h45 := h45 hx
    conv => whnf
    refine ⟨⟨Int.natCast_nonneg _, by omega⟩, ?_⟩
    conv => whnf
    conv => whnf
    refine ⟨_, map_at hx, ?_⟩
    conv => whnf
    conv => whnf
    refine ⟨_, h45, ?_⟩
    conv => whnf
    conv => whnf
    refine ⟨fun w2 => ?_, fun w2 => ?_⟩
    · exact absurd rfl (ne_of_bne w2)
    conv => whnf
    refine ⟨⟨Int.natCast_nonneg _, by omega⟩, ?_⟩
    conv => whnf
    conv => whnf
    refine ⟨_, map_at hx, ?_⟩
    conv => whnf
    conv => whnf
    refine ⟨fun w3 => ?_, fun w3 => ?_⟩
    · have h3 : x = r := honly x (List.mem_of_getElem? hx) ((sEq_iff _ _).1 w3)
      have hik : i = k := by
        have := placeI_at hn hx
        rw [h3, placeI_at hn hk] at this
        omega
      have hrt : rtAt k i = -1 := by unfold rtAt; rw [if_neg (by omega)]
      have hrt' : rtAt k (i + 1) = i := by unfold rtAt; rw [if_pos (by omega), hik]
      conv => whnf
      refine ⟨by kernel_rfl, ?_⟩
      conv => whnf
      conv => whnf
      refine ⟨fun w4 => ?_, fun w4 => ?_⟩
      · have := of_decide_eq_true w4
        omega
      conv => whnf
      refine ⟨⟨Int.natCast_nonneg _, by omega⟩, ?_⟩
      conv => whnf
      conv => whnf
      refine ⟨_, map_at hx, ?_⟩
      conv => whnf
      conv => whnf
      refine ⟨fun w5 => ?_, fun w5 => ?_⟩
      rotate_left
      · rw [w3] at w5; cases w5
      conv => whnf
      refine ⟨i + 1, ?_, w1, by show xs.length - (i + 1) < xs.length - i; omega⟩
      dsimp only
      rw [up1 w1 (by omega), hrt']
      exact .of rfl
    · have h3 : i ≠ k := fun h => by
        rw [h, hk] at hx
        cases hx
        have := (sEq_iff r.f2 ⟨#[]⟩).2 he
        rw [w3] at this
        cases this
      have hrt' : rtAt k (i + 1) = rtAt k i := by
        unfold rtAt
        by_cases hki : k < i
        · rw [if_pos hki, if_pos (by omega)]
        · rw [if_neg hki, if_neg (by omega)]
      conv => whnf
      refine ⟨by kernel_rfl, ?_⟩
      conv => whnf
      conv => whnf
      conv => whnf
      refine ⟨⟨Int.natCast_nonneg _, by omega⟩, ?_⟩
      conv => whnf
      conv => whnf
      refine ⟨_, map_at hx, ?_⟩
      conv => whnf
      conv => whnf
      refine ⟨fun w5 => ?_, fun w5 => ?_⟩
      · rw [w3] at w5; cases w5
      conv => whnf
      refine ⟨i + 1, ?_, w1, by show xs.length - (i + 1) < xs.length - i; omega⟩
      dsimp only
      rw [up1 w1 (by omega), hrt']
      exact .of rfl
  · have w1 : ¬ i < xs.length := by have := of_decide_eq_false w1; omega
    have hrt : rtAt k i = k := by unfold rtAt; rw [if_pos (by omega)]
    conv => whnf
    refine ⟨fun w2 => ?_, fun w2 => ?_⟩
    · have := of_decide_eq_true w2
      omega
    conv => whnf
    refine ⟨fun w3 => ?_, fun w3 => ?_⟩
    · have := of_decide_eq_true w3
      omega
    conv => whnf
    refine ⟨_, h81, ?_⟩
    conv => whnf
    conv => whnf
    rw [← hrt] at h82
    refine ⟨_, h82, ?_⟩
    conv => whnf
    conv => whnf
    refine ⟨by kernel_rfl, ?_⟩
    conv => whnf
    conv => whnf
    refine ⟨fun w4 => ?_, fun w4 => ?_⟩
    · conv => whnf
      exact .tup2 (.agg2 .nils .nils) .refl
    have hl : B.length = xs.length := by
      have := eq_of_bne w4
      omega
    rcases hbad with h | ⟨_, h, hb⟩
    · exact absurd hl h
    have h34 := h34 h
    rw [hb] at h34
    conv => whnf
    refine ⟨_, h34, ?_⟩
    conv => whnf
    conv => whnf
    refine ⟨fun w5 => ?_, fun w5 => ?_⟩
    rotate_left
    · cases w5
    conv => whnf
    exact .tup2 (.agg2 .nils .nils) .refl
theorem c101z {fs : List ByteArray} {xs : List S47} (hn : (xs.map S47.f0).Nodup) (hxl : xs.length ≤ 16) (hno : ∀ y ∈ xs, y.f2 ≠ ByteArray.empty) : PCall cx.P 101 [.row 1 (fs.map encT), .row 7 (xs.map enc47)] (.tup [encM [] [], .lit false]) := pcall3 Tryz.f101 (by kernel_rfl) (by kernel_rfl) <| by
  have hE : (xs.map enc47).length = xs.length := List.length_map _
  have h45 := fun {j : Nat} {x : S47} (hx : xs[j]? = some x) => show PCall cx.P 45 [encM fs xs, .str x.f0] (.int .i64 (j : Int)) from (placeI_at hn hx) ▸ c45 fs xs x.f0 (by omega)
  unfold encM at h45 ⊢
  conv => whnf
  refine .inr (.inl ⟨[0, 1, 4, 6, 7, 8], Nat, fun i => ([(0, .row 1 (fs.map encT)), (1, .row 7 (xs.map enc47)), (4, .bptr 272 0), (6, .bptr 400 0), (7, .int .i64 (-1)), (8, .int .i64 i)], [(400, .live (.box [.row 1 (fs.map encT), .row 7 (xs.map enc47)])), (272, .live (.box [.nils, .nils]))]), fun i => i ≤ xs.length, fun i => xs.length - i, ?_, fun i hi => ?_⟩)
  · conv => whnf
    exact ⟨0, .of rfl, Nat.zero_le _⟩
  have hi : i ≤ xs.length := hi
  conv => whnf
  refine ⟨fun w1 => ?_, fun w1 => ?_⟩
  · have w1 : i < xs.length := by have := of_decide_eq_true w1; omega
    obtain ⟨x, hx⟩ := at_ex w1
    have h45 := h45 hx
    have hx2 := hno x (List.mem_of_getElem? hx)
    conv => whnf
    refine ⟨⟨Int.natCast_nonneg _, by omega⟩, ?_⟩
    conv => whnf
    conv => whnf
    refine ⟨_, map_at hx, ?_⟩
    conv => whnf
    conv => whnf
    refine ⟨_, h45, ?_⟩
    conv => whnf
    conv => whnf
    refine ⟨fun w2 => ?_, fun w2 => ?_⟩
    · exact absurd rfl (ne_of_bne w2)
    conv => whnf
    refine ⟨⟨Int.natCast_nonneg _, by omega⟩, ?_⟩
    conv => whnf
    conv => whnf
    refine ⟨_, map_at hx, ?_⟩
    conv => whnf
    conv => whnf
    refine ⟨fun w3 => ?_, fun w3 => ?_⟩
    · exact absurd ((sEq_iff _ _).1 w3) hx2
    conv => whnf
    refine ⟨by kernel_rfl, ?_⟩
    conv => whnf
    conv => whnf
    refine ⟨⟨Int.natCast_nonneg _, by omega⟩, ?_⟩
    conv => whnf
    conv => whnf
    refine ⟨_, map_at hx, ?_⟩
    conv => whnf
    conv => whnf
    refine ⟨fun w5 => ?_, fun w5 => ?_⟩
    · exact absurd ((sEq_iff _ _).1 w5) hx2
    conv => whnf
    refine ⟨i + 1, ?_, w1, by show xs.length - (i + 1) < xs.length - i; omega⟩
    dsimp only
    rw [up1 w1 (by omega)]
    exact .of rfl
  · conv => whnf
    refine ⟨fun w2 => ?_, fun w2 => ?_⟩
    rotate_left
    · exact absurd w2 (by decide)
    conv => whnf
    exact .tup2 (.agg2 .nils .nils) .refl
end Go.Ab
namespace Go.Ab
open Go.Proofs Sn
set_option maxRecDepth 100000
set_option linter.unnecessarySimpa false
set_option linter.unusedSimpArgs false
set_option linter.unusedVariables false
set_option maxHeartbeats 40000000
def eT : S62 := ⟨⟨#[116]⟩, 2, true, ⟨⟨#[116]⟩, 0, ⟨#[]⟩, true, 0, [], []⟩⟩
theorem c61 (id : ByteArray) : PCall cx.P 61 [.str id] (.agg (enc62 ⟨id, 2, true, ⟨id, 0, ⟨#[]⟩, true, 0, [], []⟩⟩)) := pcall3 Tryz.f61 (by kernel_rfl) (by kernel_rfl) <| by
  conv => whnf
  exact .agg (by rfl) fun j x y hx hy => by
    match j with
    | 0 => cases hx; cases hy; exact .refl
    | 1 => cases hx; cases hy; exact .refl
    | 2 => cases hx; cases hy; exact .lit rfl
    | 3 => cases hx; cases hy; exact .refl
    | 4 => cases hx; cases hy; exact .refl
    | 5 => cases hx; cases hy; exact .refl
    | 6 => cases hx; cases hy; exact .lit rfl
    | 7 => cases hx; cases hy; exact .refl
    | 8 => cases hx; cases hy; exact .nils
    | 9 => cases hx; cases hy; exact .nils
    | j + 10 => simp at hx
def vE (id : ByteArray) (k : Int) (b : Bool) (x : List AV) : List AV := .str id :: .int .i64 k :: .lit b :: x
def v0 : List AV := [.str ⟨#[]⟩, .int .i64 0, .str ⟨#[]⟩, .lit false, .int .i64 0, .nils, .nils]
def vX : List AV := [.str ⟨#[]⟩, .int .i64 2, .str ⟨#[120]⟩, .lit false, .int .i64 0, .nils, .nils]
def vS : List AV := [.str ⟨#[]⟩, .int .i64 0, .str ⟨#[]⟩, .lit false, .int .i64 0, .row 2 [[.nils, .nils]], .nils]
def oddT : List (List AV) := [[.row 10 [vE ⟨#[116]⟩ 6 false v0]], [.row 10 [vE ⟨#[120]⟩ 2 true v0]], [.row 10 [vE ⟨#[120]⟩ 1 false v0]], [.row 10 [vE ⟨#[102]⟩ 5 true v0]], [.row 10 [vE ⟨#[103]⟩ 5 false v0]], [.row 10 [enc62 eT, enc62 eT]], [.row 10 [vE ⟨#[117]⟩ 1 false v0, enc62 eT]], [.row 10 [vE ⟨#[112]⟩ 1 false v0]], [.row 10 [vE ⟨#[116]⟩ 1 true vX]], [.row 10 [vE ⟨#[116]⟩ 3 true vS]]]
def oddR : List (List AV) := [.row 10 []] :: oddT
def oddM : AV := .agg [.row 1 [[.str ⟨#[102]⟩]], .row 7 [rP, [.str ⟨#[116]⟩, .int .i64 2, .str ⟨#[112]⟩, .lit false, .int .i64 0, .nils, .nils]]]
def oddC (n : Int) : Int := if n = 0 then 0 else if 8 ≤ n then 7 else 1
theorem c26k (n : Int) (hn : 0 ≤ n ∧ n < 11) (row : List (List AV)) (hrow : oddR[n.toNat]? = some [.row 10 row]) (a a' b b' : List (List AV)) (h60 : PCall cx.P 60 [oddM, .row 10 row] (.tup [.agg [.row 1 a, .row 7 b], .int .i64 (oddC n)])) (h59 : PCall cx.P 59 [oddM, .row 10 row] (.tup [.agg [.row 1 a', .row 7 b'], .int .i64 (oddC n)])) : PCall cx.P 26 [.int .i64 n] (.lit true) := pcallA [1004] Tryz.f26 (by kernel_rfl) (by kernel_rfl) <| by
  conv => whnf
  refine ⟨_, c61 _, ?_⟩
  conv => whnf
  conv => whnf
  refine ⟨rfl, ?_⟩
  conv => whnf
  conv => whnf
  refine ⟨rfl, ?_⟩
  conv => whnf
  conv => whnf
  refine ⟨rfl, ?_⟩
  conv => whnf
  conv => whnf
  refine ⟨rfl, ?_⟩
  conv => whnf
  conv => whnf
  refine ⟨rfl, ?_⟩
  conv => whnf
  conv => whnf
  refine ⟨rfl, ?_⟩
  conv => whnf
  conv => whnf
  refine ⟨rfl, ?_⟩
  conv => whnf
  conv => whnf
  refine ⟨rfl, ?_⟩
  conv => whnf
  conv => whnf
  refine ⟨rfl, ?_⟩
  conv => whnf
  conv => whnf
  refine ⟨rfl, ?_⟩
  conv => whnf
  conv => whnf
  refine ⟨rfl, ?_⟩
  conv => whnf
  conv => whnf
  refine ⟨[0, 3, 5], ([(0, .int .i64 n), (3, .bptr 208 0), (5, .row 1 oddR)], [(208, .live (.box [.row 1 [[.str ⟨#[102]⟩]], .row 7 [rP, [.str ⟨#[116]⟩, .int .i64 2, .str ⟨#[112]⟩, .lit false, .int .i64 0, .nils, .nils]]]))]), ?_⟩
  conv => whnf
  refine ⟨(StLe.frz 336 (by kernel_rfl) ?_).trans ((StLe.frz 209 (by kernel_rfl) ?_).trans ((StLe.frz 210 (by kernel_rfl) ?_).trans (.trans (q := ([(0, .int .i64 n), (3, .bptr 208 0), (5, .row 1 ([.nils] :: oddT))], [(208, .live (.box [.row 1 [[.str ⟨#[102]⟩]], .row 7 [rP, [.str ⟨#[116]⟩, .int .i64 2, .str ⟨#[112]⟩, .lit false, .int .i64 0, .nils, .nils]]]))])) (.of rfl) (.le (.cons _ _ _ _ _ .refl <| .cons _ _ _ _ _ .refl <| .cons _ _ _ _ _ (.rows (.cons (.cons .nils .nil) (.refl _))) <| .refl _) (.refl _))))), ?_⟩
  · repeat' (first | exact True.intro | exact rfl | refine And.intro ?_ ?_)
  · repeat' (first | exact True.intro | exact rfl | refine And.intro ?_ ?_)
  · repeat' (first | exact True.intro | exact rfl | refine And.intro ?_ ?_)
  have hl : oddR.length = 11 := rfl
  unfold oddM at h60 h59
  conv => whnf
  refine ⟨fun w1 => ?_, fun w1 => ?_⟩
  · have := of_decide_eq_true w1
    omega
  conv => whnf
  refine ⟨fun w2 => ?_, fun w2 => ?_⟩
  · have := of_decide_eq_true w2
    omega
  conv => whnf
  refine ⟨by omega, ?_⟩
  conv => whnf
  conv => whnf
  refine ⟨_, hrow, ?_⟩
  conv => whnf
  conv => whnf
  refine ⟨_, h60, ?_⟩
  conv => whnf
  conv => whnf
  refine ⟨by kernel_rfl, ?_⟩
  conv => whnf
  conv => whnf
  refine ⟨fun w3 => ?_, fun w3 => ?_⟩
  · have h0 : n = 0 := eq_of_beq w3
    have hC : oddC n = 0 := by unfold oddC; rw [if_pos h0]
    conv => whnf
    refine ⟨fun w4 => ?_, fun w4 => ?_⟩
    · have := of_decide_eq_true w4
      omega
    conv => whnf
    refine ⟨by omega, ?_⟩
    conv => whnf
    conv => whnf
    refine ⟨_, hrow, ?_⟩
    conv => whnf
    conv => whnf
    refine ⟨_, h59, ?_⟩
    conv => whnf
    conv => whnf
    refine ⟨by kernel_rfl, ?_⟩
    conv => whnf
    conv => whnf
    refine ⟨fun w5 => ?_, fun w5 => ?_⟩
    rotate_left
    · rw [hC] at w5; exact absurd w5 (by decide)
    conv => whnf
    refine ⟨fun w6 => ?_, fun w6 => ?_⟩
    rotate_left
    · rw [beq_self_eq_true] at w6; cases w6
    conv => whnf
    refine ⟨_, c50, ?_⟩
    conv => whnf
    conv => whnf
    exact .of rfl
  have h0 : n ≠ 0 := ne_of_beq w3
  conv => whnf
  refine ⟨fun w4 => ?_, fun w4 => ?_⟩
  · have h8 : 8 ≤ n := by have := of_decide_eq_true w4; omega
    have hC : oddC n = 7 := by unfold oddC; rw [if_neg h0, if_pos h8]
    conv => whnf
    refine ⟨by omega, ?_⟩
    conv => whnf
    conv => whnf
    refine ⟨_, hrow, ?_⟩
    conv => whnf
    conv => whnf
    refine ⟨_, h59, ?_⟩
    conv => whnf
    conv => whnf
    refine ⟨by kernel_rfl, ?_⟩
    conv => whnf
    conv => whnf
    refine ⟨fun w5 => ?_, fun w5 => ?_⟩
    rotate_left
    · rw [hC] at w5; exact absurd w5 (by decide)
    conv => whnf
    refine ⟨fun w6 => ?_, fun w6 => ?_⟩
    rotate_left
    · rw [beq_self_eq_true] at w6; cases w6
    conv => whnf
    refine ⟨_, c50, ?_⟩
    conv => whnf
    conv => whnf
    exact .of rfl
  · have h8 : ¬ 8 ≤ n := by have := of_decide_eq_false w4; omega
    have hC : oddC n = 1 := by unfold oddC; rw [if_neg h0, if_neg h8]
    conv => whnf
    refine ⟨by omega, ?_⟩
    conv => whnf
    conv => whnf
    refine ⟨_, hrow, ?_⟩
    conv => whnf
    conv => whnf
    refine ⟨_, h59, ?_⟩
    conv => whnf
    conv => whnf
    refine ⟨by kernel_rfl, ?_⟩
    conv => whnf
    conv => whnf
    refine ⟨fun w5 => ?_, fun w5 => ?_⟩
    rotate_left
    · rw [hC] at w5; exact absurd w5 (by decide)
    conv => whnf
    refine ⟨fun w6 => ?_, fun w6 => ?_⟩
    rotate_left
    · rw [beq_self_eq_true] at w6; cases w6
    conv => whnf
    refine ⟨_, c50, ?_⟩
    conv => whnf
    conv => whnf
    exact .of rfl
end Go.Ab
namespace Go.Ab
open Go.Proofs Sn
set_option maxRecDepth 100000
set_option linter.unnecessarySimpa false
set_option linter.unusedSimpArgs false
set_option linter.unusedVariables false
set_option maxHeartbeats 40000000
theorem c26o (n : Int) (h : ¬ (0 ≤ n ∧ n < 11)) : PCall cx.P 26 [.int .i64 n] (.lit true) := pcallA [] Tryz.f26 (by kernel_rfl) (by kernel_rfl) <| by
  conv => whnf
  refine ⟨_, c61 _, ?_⟩
  conv => whnf
  conv => whnf
  refine ⟨rfl, ?_⟩
  conv => whnf
  conv => whnf
  refine ⟨rfl, ?_⟩
  conv => whnf
  conv => whnf
  refine ⟨rfl, ?_⟩
  conv => whnf
  conv => whnf
  refine ⟨rfl, ?_⟩
  conv => whnf
  conv => whnf
  refine ⟨rfl, ?_⟩
  conv => whnf
  conv => whnf
  refine ⟨rfl, ?_⟩
  conv => whnf
  conv => whnf
  refine ⟨rfl, ?_⟩
  conv => whnf
  conv => whnf
  refine ⟨rfl, ?_⟩
  conv => whnf
  conv => whnf
  refine ⟨rfl, ?_⟩
  conv => whnf
  conv => whnf
  refine ⟨rfl, ?_⟩
  conv => whnf
  conv => whnf
  refine ⟨rfl, ?_⟩
  conv => whnf
  conv => whnf
  refine ⟨fun w1 => ?_, fun w1 => ?_⟩
  · conv => whnf
    exact .of rfl
  conv => whnf
  refine ⟨fun w2 => ?_, fun w2 => ?_⟩
  rotate_left
  · have h1 := of_decide_eq_false w1
    have h2 := of_decide_eq_false w2
    have h2 : ¬ 11 ≤ n := h2
    omega
  conv => whnf
  exact .of rfl
theorem leOddM : Le oddM (encM oD.1 oD.2) := by
  refine .agg2 .refl (.rows (.cons ?_ (.cons ?_ .nil)))
  · unfold rP
    repeat (first | exact .nil | refine .cons (by first | exact .refl | exact .lit rfl | exact .nils) ?_)
  · repeat (first | exact .nil | refine .cons (by first | exact .refl | exact .lit rfl | exact .nils) ?_)
theorem leVE {id : ByteArray} {k : Int} {b : Bool} {x : List AV} {y : S47} (h : LeX x (enc47 y)) : LeX (vE id k b x) (enc62 (eD id k b y)) := .cons .refl (.cons .refl (.cons (.lit rfl) h))
theorem lev0 : LeX v0 (enc47 z47) := by
  unfold v0
  repeat (first | exact .nil | refine .cons (by first | exact .refl | exact .lit rfl | exact .nils) ?_)
def yX : S47 := ⟨⟨#[]⟩, 2, ⟨#[120]⟩, false, 0, [], []⟩
def yE : S47 := ⟨⟨#[]⟩, 0, ⟨#[]⟩, false, 0, [⟨[], []⟩], []⟩
theorem levX : LeX vX (enc47 yX) := by
  unfold vX
  repeat (first | exact .nil | refine .cons (by first | exact .refl | exact .lit rfl | exact .nils) ?_)
theorem leRw {s : Nat} {es es' : List (List AV)} (h : LeXX es es') : LeP (.row s es) (.row s es') := .row h.len fun i e e' h1 h2 => ⟨(h.get i e e' h1 h2).len, (h.get i e e' h1 h2).get⟩
theorem levS : LeX vS (enc47 yE) := by
  unfold vS
  repeat (first | exact .nil | refine .cons (by first | exact .refl | exact .lit rfl | exact .nils | exact leRw (.cons (.cons .nils (.cons .nils .nil)) .nil)) ?_)
theorem odd_of (n : Int) (hn : 0 ≤ n ∧ n < 11) (L : List S62) (row : List (List AV)) (hrow : oddR[n.toNat]? = some [.row 10 row]) (hle : LeXX row (L.map enc62)) (hnice : ∀ e ∈ L, NiceE e) (hlen : L.length ≤ 512) (M : St) (hap : apS oD L = (M, oddC n)) (h101 : ∀ u, runS L oD = some u → ordO u = none → PCall cx.P 101 [.row 1 (u.1.map encT), .row 7 (u.2.map enc47)] (.tup [encM [] [], .lit false])) : PCall cx.P 26 [.int .i64 n] (.lit true) := by
  have h1 := c60 oD L noD.sz hlen (fun _ => hnice)
  have h2 := c59g oD L noD hlen hnice h101
  rw [hap] at h1 h2
  exact c26k n hn row hrow _ _ _ _ (h1.by2 leOddM (.rows hle)) (h2.by2 leOddM (.rows hle))
theorem nE (id : ByteArray) (k : Int) (b : Bool) (h : nameIs id = true) : NiceE (eD id k b z47) := ⟨h, .of rfl rfl small_nil small_nil⟩
theorem one_mem {L : S62} (h : NiceE L) : ∀ e ∈ [L], NiceE e := fun e he => by cases List.mem_singleton.1 he; exact h
theorem vac {L : List S62} {P : St → Prop} (h : runS L oD = none) : ∀ u, runS L oD = some u → P u := fun u hu => by rw [h] at hu; cases hu
theorem b8 : PCall cx.P 101 [.row 1 ([⟨#[102]⟩].map encT), .row 7 ([iT 2].map enc47)] (.tup [encM [] [], .lit false]) := c101z (by decide) (by decide) fun y hy => by
  cases List.mem_singleton.1 hy
  intro h
  cases h
theorem sz9 : SzM [⟨#[102]⟩] [iP, iX] := SzM.of (by decide)
theorem sz10 : SzM [⟨#[102]⟩] [iP, iE] := SzM.of (by decide)
theorem b9 : PCall cx.P 101 [.row 1 ([⟨#[102]⟩].map encT), .row 7 ([iP, iX].map enc47)] (.tup [encM [] [], .lit false]) := by
  have h82 := c82r [⟨#[102]⟩] [iP, iX] sz9 (fun x => x = iP) (fun x _ hx id q hid _ => by
    subst hx
    rw [show kidIds [iP, iX] iP.f0 = [] by kernel_rfl] at hid
    cases hid) (fun k x _ hx => by
    subst hx
    cases k with
    | zero => decide
    | succ k =>
      rw [belS, show kidIds [iP, iX] iP.f0 = [] by kernel_rfl, show sortL cmpS ([] : List ByteArray) = [] by kernel_rfl]
      exact (by decide : 1 ≤ 1048576)) 20 0 0 iP rfl rfl rfl
  refine c101k sz9 (by decide) (by decide) (by decide) (k := 0) (r := iP) rfl rfl (fun y hy h => ?_) h82 (.inl ?_)
  · simp only [List.mem_cons, List.not_mem_nil, or_false] at hy
    rcases hy with rfl | rfl
    · rfl
    · cases h
  · rw [show (bel [iP, iX] 20 iP).length = 1 by kernel_rfl]
    decide
theorem kd10 : kidIds [iP, iE] iP.f0 = [⟨#[116]⟩] ∧ kidIds [iP, iE] iE.f0 = [] := ⟨by kernel_rfl, by kernel_rfl⟩
theorem bE (k : Nat) : (bel [iP, iE] k iE).length = 1 := by
  cases k with
  | zero => rfl
  | succ k =>
    rw [belS, kd10.2, show sortL cmpS ([] : List ByteArray) = [] by kernel_rfl]
    rfl
theorem bPp (k : Nat) : (bel [iP, iE] k iP).length ≤ 2 := by
  cases k with
  | zero => exact (by decide : 1 ≤ 2)
  | succ k =>
    rw [belS, kd10.1, show sortL cmpS ([⟨#[116]⟩] : List ByteArray) = [⟨#[116]⟩] by kernel_rfl, List.flatMap_cons, List.flatMap_nil, List.append_nil, show [iP, iE].getD (placeOf [iP, iE] ⟨#[116]⟩).toNat z47 = iE by kernel_rfl, List.length_cons, bE]
    exact Nat.le_refl _
theorem b10 : PCall cx.P 101 [.row 1 ([⟨#[102]⟩].map encT), .row 7 ([iP, iE].map enc47)] (.tup [encM [] [], .lit false]) := by
  have h82 := c82r [⟨#[102]⟩] [iP, iE] sz10 (fun x => x = iP ∨ x = iE) (fun x _ hx id q hid hq => by
    rcases hx with rfl | rfl
    · rw [kd10.1] at hid
      cases List.mem_singleton.1 hid
      rw [show placeOf [iP, iE] ⟨#[116]⟩ = ((1 : Nat) : Int) by kernel_rfl] at hq
      have : q = 1 := by omega
      subst this
      exact .inr rfl
    · rw [kd10.2] at hid
      cases hid) (fun k x _ hx => by
    rcases hx with rfl | rfl
    · exact Nat.le_trans (bPp k) (by decide)
    · rw [bE]; decide) 20 0 0 iP rfl rfl (.inl rfl)
  refine c101k sz10 (by decide) (by decide) (by decide) (k := 0) (r := iP) rfl rfl (fun y hy h => ?_) h82 (.inr ⟨by kernel_rfl, ?_, by kernel_rfl⟩)
  · simp only [List.mem_cons, List.not_mem_nil, or_false] at hy
    rcases hy with rfl | rfl
    · rfl
    · cases h
  · rw [show bel [iP, iE] 20 iP = [iP, iE] by kernel_rfl, show sortL cmpS ([⟨#[102]⟩] : List ByteArray) = [⟨#[102]⟩] by kernel_rfl]
    exact sz10
theorem c26 (n : Int) : PCall cx.P 26 [.int .i64 n] (.lit true) := by
  by_cases h : 0 ≤ n ∧ n < 11
  rotate_left
  · exact c26o n h
  have a8 : apS oD [eD ⟨#[112]⟩ 1 false z47] = (([], []), 7) := by rw [ap_end noD (fun i x y h1 h2 => by cases i <;> simp at h2) od8, on8]
  have a9 : apS oD [eD ⟨#[116]⟩ 1 true yX] = (([], []), 7) := by
    have q := ap_end (l := [eD ⟨#[116]⟩ 1 true yX]) noD (fun i x y h1 h2 => by cases i <;> simp at h2) od9
    rw [show ordO ([⟨#[102]⟩], [iP, ⟨⟨#[116]⟩, 2, ⟨#[120]⟩, false, 0, [], []⟩]) = none from on9] at q
    exact q
  have a10 : apS oD [eD ⟨#[116]⟩ 3 true yE] = (([], []), 7) := by
    have q := ap_end (l := [eD ⟨#[116]⟩ 3 true yE]) noD (fun i x y h1 h2 => by cases i <;> simp at h2) od10
    rw [show ordO ([⟨#[102]⟩], [iP, ⟨⟨#[116]⟩, 2, ⟨#[112]⟩, false, 0, [⟨[], []⟩], []⟩]) = none from on10] at q
    exact q
  have nT : NiceE eT := ⟨by kernel_rfl, .of rfl rfl small_nil small_nil⟩
  have h6 : ¬ Adj [eT, eT] := fun hA => by
    have := hA 0 eT eT rfl rfl
    rw [show cmpE eT eT = 0 by kernel_rfl] at this
    cases this
  have hc : n = 0 ∨ n = 1 ∨ n = 2 ∨ n = 3 ∨ n = 4 ∨ n = 5 ∨ n = 6 ∨ n = 7 ∨ n = 8 ∨ n = 9 ∨ n = 10 := by omega
  rcases hc with rfl | rfl | rfl | rfl | rfl | rfl | rfl | rfl | rfl | rfl | rfl
  · exact odd_of 0 h [] _ rfl .nil (fun e he => by cases he) (by decide) oD (ap_nil noD) fun u hu ho => by
      cases hu
      rw [ordO_some.2 (OrdTo.self noD)] at ho
      cases ho
  · exact odd_of 1 h [eD ⟨#[116]⟩ 6 false z47] _ rfl (.cons (leVE lev0) .nil) (one_mem (nE _ _ _ (by kernel_rfl))) (by decide) _ (ap_bad2 noD od1) (vac od1)
  · exact odd_of 2 h [eD ⟨#[120]⟩ 2 true z47] _ rfl (.cons (leVE lev0) .nil) (one_mem (nE _ _ _ (by kernel_rfl))) (by decide) _ (ap_bad2 noD od2) (vac od2)
  · exact odd_of 3 h [eD ⟨#[120]⟩ 1 false z47] _ rfl (.cons (leVE lev0) .nil) (one_mem (nE _ _ _ (by kernel_rfl))) (by decide) _ (ap_bad2 noD od3) (vac od3)
  · exact odd_of 4 h [eD ⟨#[102]⟩ 5 true z47] _ rfl (.cons (leVE lev0) .nil) (one_mem (nE _ _ _ (by kernel_rfl))) (by decide) _ (ap_bad2 noD od4) (vac od4)
  · exact odd_of 5 h [eD ⟨#[103]⟩ 5 false z47] _ rfl (.cons (leVE lev0) .nil) (one_mem (nE _ _ _ (by kernel_rfl))) (by decide) _ (ap_bad2 noD od5) (vac od5)
  · refine odd_of 6 h [eT, eT] _ rfl (.cons (.refl _) (.cons (.refl _) .nil)) (fun e he => ?_) (by decide) _ (ap_bad1 noD h6) fun u hu ho => ?_
    · simp only [List.mem_cons, List.not_mem_nil, or_false] at he
      rcases he with rfl | rfl <;> exact nT
    · exfalso
      have e : runS [eT, eT] oD = some ([⟨#[102]⟩], [iP, ⟨⟨#[116]⟩, 2, ⟨#[112]⟩, true, 0, [], []⟩]) := by kernel_rfl
      rw [e] at hu
      cases hu
      rw [show ordO ([⟨#[102]⟩], [iP, ⟨⟨#[116]⟩, 2, ⟨#[112]⟩, true, 0, [], []⟩]) = some ([⟨#[102]⟩], [iP, ⟨⟨#[116]⟩, 2, ⟨#[112]⟩, true, 0, [], []⟩]) from ordO_some.2 (OrdTo.self (isN_by (by kernel_rfl) (by kernel_rfl) (by kernel_rfl)))] at ho
      cases ho
  · refine odd_of 7 h [eD ⟨#[117]⟩ 1 false z47, eT] _ rfl (.cons (leVE lev0) (.cons (.refl _) .nil)) (fun e he => ?_) (by decide) _ (ap_bad2 noD (od7 _)) (vac (od7 _))
    simp only [List.mem_cons, List.not_mem_nil, or_false] at he
    rcases he with rfl | rfl
    · exact nE _ _ _ (by kernel_rfl)
    · exact nT
  · exact odd_of 8 h [eD ⟨#[112]⟩ 1 false z47] _ rfl (.cons (leVE lev0) .nil) (one_mem (nE _ _ _ (by kernel_rfl))) (by decide) _ a8 fun u hu _ => by
      rw [od8] at hu
      cases hu
      exact b8
  · exact odd_of 9 h [eD ⟨#[116]⟩ 1 true yX] _ rfl (.cons (leVE levX) .nil) (one_mem ⟨by kernel_rfl, .of rfl rfl small_nil small_nil⟩) (by decide) _ a9 fun u hu _ => by
      rw [show runS [eD ⟨#[116]⟩ 1 true yX] oD = _ from od9] at hu
      cases hu
      exact b9
  · exact odd_of 10 h [eD ⟨#[116]⟩ 3 true yE] _ rfl (.cons (leVE levS) .nil) (one_mem ⟨by kernel_rfl, .of (by kernel_rfl) rfl smE small_nil⟩) (by decide) _ a10 fun u hu _ => by
      rw [show runS [eD ⟨#[116]⟩ 3 true yE] oD = _ from od10] at hu
      cases hu
      exact b10
end Go.Ab
