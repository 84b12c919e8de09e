/- Proof texts of one seat, in one file: an evaluator of the program's form, shown sound, and the functions told by it. There are no conditions but those that each theorem names. -/
import Derived.Test.YtpbembafpnknhaaGreatAb0
import Derived.Test.YtpbembafpnknhaaGreatAb1
import Derived.Test.YtpbembafpnknhaaGreatAb2
import Derived.Test.YtpbembafpnknhaaGreatAb3
import Derived.Test.YtpbembafpnknhaaGreatAb4
import Derived.Test.YtpbembafpnknhaaGreatAb5
import Derived.Test.YtpbembafpnknhaaGreatAb6
set_option linter.unusedVariables false
set_option linter.unusedSimpArgs false
set_option linter.unusedSectionVars false
set_option linter.unnecessarySimpa false
namespace Go.Ab
open Go.Proofs Sn
set_option maxRecDepth 100000
set_option linter.unnecessarySimpa false
set_option linter.unusedSimpArgs false
set_option maxHeartbeats 4000000
theorem apS_sz (s : St) (l : List S62) : SzM (apS s l).1.1 (apS s l).1.2 := by
  have z : SzM ([] : List ByteArray) ([] : List S47) := ⟨by decide, by decide, fun x h => by cases h⟩
  unfold apS
  cases bP (IsN s.1 s.2) with
  | false => exact z
  | true =>
    cases bP (Adj l) with
    | false => exact z
    | true =>
      cases runS l s with
      | none => exact z
      | some t =>
        show SzM (match ordO t with | none => ((([], []) : St), (7 : Int)) | some n => (n, 0)).1.1 (match ordO t with | none => ((([], []) : St), (7 : Int)) | some n => (n, 0)).1.2
        cases ho : ordO t with
        | none => exact z
        | some n => exact (ordO_some.1 ho).1.sz
theorem and1023 (a : Int) : 0 ≤ IntKind.i64.wrap ((BitVec.ofInt IntKind.i64.bits a &&& BitVec.ofInt IntKind.i64.bits 1023).toNat : Int) := by
  have h : (BitVec.ofInt IntKind.i64.bits a &&& BitVec.ofInt IntKind.i64.bits 1023).toNat ≤ 1023 := by
    rw [BitVec.toNat_and]
    exact Nat.le_trans Nat.and_le_right (by decide)
  rw [IntWalk.i64_in _ (by omega)]
  exact Int.natCast_nonneg _
theorem c25 (f g : List ByteArray) (m n : List S47) (at_ : Int) (h : BgM f m) (h' : BgM g n) : PCall cx.P 25 [encM f m, encM g n, .int .i64 at_] (.lit true) := pcall3 Tryz.f25 (by kernel_rfl) (by kernel_rfl) <| by
  have h46 := c46 f m h
  have h46' := c46 g n h'
  unfold encM at h46 h46' ⊢
  conv => whnf
  refine ⟨_, h46, ?_⟩
  conv => whnf
  conv => whnf
  refine ⟨fun w1 => ?_, fun w1 => ?_⟩
  · conv => whnf
    exact .of rfl
  replace w1 := of_decide_eq_false w1
  have hz := SzM.of (f := f) (m := m) (by omega)
  have h34 := c34 f m hz
  unfold encM at h34
  conv => whnf
  refine ⟨_, h46', ?_⟩
  conv => whnf
  conv => whnf
  refine ⟨fun w2 => ?_, fun w2 => ?_⟩
  · conv => whnf
    exact .of rfl
  replace w2 := of_decide_eq_false w2
  have hz' := SzM.of (f := g) (m := n) (by omega)
  have h34' := c34 g n hz'
  unfold encM at h34'
  conv => whnf
  refine ⟨_, h34, ?_⟩
  conv => whnf
  conv => whnf
  refine ⟨fun w3 => ?_, fun w3 => ?_⟩
  · conv => whnf
    exact .of rfl
  conv => whnf
  refine ⟨_, h34', ?_⟩
  conv => whnf
  conv => whnf
  refine ⟨fun w4 => ?_, fun w4 => ?_⟩
  · conv => whnf
    exact .of rfl
  obtain ⟨r, F, rfl, ho⟩ := isB_iff.1 (show isB f m = true by simpa using w3)
  obtain ⟨r', F', rfl, ho'⟩ := isB_iff.1 (show isB g n = true by simpa using w4)
  have hN := nmS_N ho
  have hN' := nmS_N ho'
  have h37 := n37 ho
  have h37' := n37 ho'
  generalize nmS f r F = s at hN h37
  generalize nmS g r' F' = t at hN' h37'
  have h47 := n47 hN hN'
  have h35 := n35 hN'
  have hlen := specD_len hN hN'
  have hst := specD_strict s.1 s.2 t.1 t.2
  have hnil := spec_nil hN hN'
  have hnice := spec_nice (NiceF.of hN) (NiceF.of hN')
  have hleast := fun {k : Nat} => ap_least (k := k) hN hN'
  generalize specD s.1 s.2 t.1 t.2 = L at h47 hlen hst hnil hnice hleast
  have hE : (L.map enc62).length = L.length := List.length_map _
  unfold encM at h37 h37' h47 h35
  conv => whnf
  refine ⟨_, h37, ?_⟩
  conv => whnf
  conv => whnf
  refine ⟨_, h37', ?_⟩
  conv => whnf
  conv => whnf
  refine ⟨by kernel_rfl, ?_⟩
  conv => whnf
  conv => whnf
  refine ⟨_, h47, ?_⟩
  conv => whnf
  conv => whnf
  refine ⟨fun w5 => ?_, fun w5 => ?_⟩
  · exact absurd w5 (by decide)
  conv => whnf
  refine .inr (.inl ⟨[2, 3, 4, 7, 9], Nat, fun j => ([(2, .int .i64 at_), (3, .bptr 208 0), (4, .bptr 272 0), (7, .row 10 (L.map enc62)), (9, .int .i64 ((j + 1 : Nat) : Int))], [(272, .live (.box [.row 1 (t.1.map encT), .row 7 (t.2.map enc47)])), (208, .live (.box [.row 1 (s.1.map encT), .row 7 (s.2.map enc47)]))]), fun j => j ≤ L.length, fun j => L.length - j, ?_, fun j hj => ?_⟩)
  · conv => whnf
    exact ⟨0, .of rfl, Nat.zero_le _⟩
  have hj : j ≤ L.length := hj
  conv => whnf
  refine ⟨fun w6 => ?_, fun w6 => ?_⟩
  · have w6 : j + 1 < L.length := by have := of_decide_eq_true w6; omega
    obtain ⟨x, hx⟩ := at_ex (show j < L.length by omega)
    obtain ⟨y, hy⟩ := at_ex w6
    have hxy : cmpE x y = -1 := adj_of hst j x y hx hy
    have hpv : IntKind.i64.wrap (((j + 1 : Nat) : Int) - 1) = (j : Int) := by rw [IntWalk.i64_in _ (by omega)]; omega
    have hxw : (L.map enc62)[(IntKind.i64.wrap (((j + 1 : Nat) : Int) - 1)).toNat]? = some (enc62 x) := by rw [hpv]; exact map_at hx
    have hxb : 0 ≤ IntKind.i64.wrap (((j + 1 : Nat) : Int) - 1) ∧ IntKind.i64.wrap (((j + 1 : Nat) : Int) - 1) < ((L.map enc62).length : Int) := by rw [hpv]; omega
    conv => whnf
    refine ⟨hxb, ?_⟩
    conv => whnf
    conv => whnf
    refine ⟨_, hxw, ?_⟩
    conv => whnf
    conv => whnf
    refine ⟨⟨Int.natCast_nonneg _, by omega⟩, ?_⟩
    conv => whnf
    conv => whnf
    refine ⟨_, map_at hy, ?_⟩
    conv => whnf
    conv => whnf
    have hcs : cmpS x.f0 y.f0 = -1 ∨ (x.f0 = y.f0 ∧ x.f1 < y.f1) := by
      unfold cmpE orC at hxy
      by_cases h0 : cmpS x.f0 y.f0 ≠ 0
      · rw [if_pos h0] at hxy
        exact .inl hxy
      · rw [if_neg h0] at hxy
        refine .inr ⟨cmpS_eq.1 (by simpa using h0), ?_⟩
        unfold cmpInt at hxy
        split at hxy
        · assumption
        · split at hxy <;> omega
    have hle : (sLt x.f0 y.f0 || sEq x.f0 y.f0) = true := by
      rcases hcs with h | ⟨h, _⟩
      · rw [sLt_iff.2 h]; rfl
      · rw [(sEq_iff _ _).2 h, Bool.or_true]
    refine ⟨fun w8 => ?_, fun w8 => ?_⟩
    · rw [hle] at w8
      cases w8
    clear w8
    conv => whnf
    refine ⟨hxb, ?_⟩
    conv => whnf
    conv => whnf
    refine ⟨_, hxw, ?_⟩
    conv => whnf
    conv => whnf
    refine ⟨⟨Int.natCast_nonneg _, by omega⟩, ?_⟩
    conv => whnf
    conv => whnf
    refine ⟨_, map_at hy, ?_⟩
    conv => whnf
    conv => whnf
    refine ⟨fun w9 => ?_, fun w9 => ?_⟩
    · have he := (sEq_iff _ _).1 w9
      have hlt : x.f1 < y.f1 := by
        rcases hcs with h | ⟨_, h⟩
        · rw [he, isCmp_s.self] at h
          cases h
        · exact h
      conv => whnf
      refine ⟨hxb, ?_⟩
      conv => whnf
      conv => whnf
      refine ⟨_, hxw, ?_⟩
      conv => whnf
      conv => whnf
      refine ⟨⟨Int.natCast_nonneg _, by omega⟩, ?_⟩
      conv => whnf
      conv => whnf
      refine ⟨_, map_at hy, ?_⟩
      conv => whnf
      conv => whnf
      refine ⟨by kernel_rfl, ?_⟩
      conv => whnf
      conv => whnf
      refine ⟨fun w10 => ?_, fun w10 => ?_⟩
      · have := of_decide_eq_true w10
        omega
      conv => whnf
      refine ⟨j + 1, ?_, by omega, by show L.length - (j + 1) < L.length - j; omega⟩
      dsimp only
      rw [up1 w6 (by omega)]
      exact .of rfl
    · conv => whnf
      refine ⟨by kernel_rfl, ?_⟩
      conv => whnf
      conv => whnf
      refine ⟨j + 1, ?_, by omega, by show L.length - (j + 1) < L.length - j; omega⟩
      dsimp only
      rw [up1 w6 (by omega)]
      exact .of rfl
  · have w6 : ¬ j + 1 < L.length := by have := of_decide_eq_false w6; omega
    conv => whnf
    refine ⟨fun w7 => ?_, fun w7 => ?_⟩
    · have hL : L = [] := List.eq_nil_of_length_eq_zero (by have := eq_of_beq w7; omega)
      have hst : s = t := hnil hL
      subst hst
      conv => whnf
      refine ⟨_, h35, ?_⟩
      conv => whnf
      conv => whnf
      refine ⟨_, c50, ?_⟩
      conv => whnf
      conv => whnf
      exact .of rfl
    · have hL : L.length ≠ 0 := by have := ne_of_beq w7; omega
      conv => whnf
      have h10 : 0 ≤ IntKind.i64.wrap ((BitVec.ofInt IntKind.i64.bits at_ &&& BitVec.ofInt IntKind.i64.bits 1023).toNat : Int) := and1023 at_
      generalize IntKind.i64.wrap ((BitVec.ofInt IntKind.i64.bits at_ &&& BitVec.ofInt IntKind.i64.bits 1023).toNat : Int) = Y at h10
      refine ⟨by omega, ?_⟩
      conv => whnf
      conv => whnf
      generalize hZ : Y.tmod ((L.map enc62).length : Int) = Z
      obtain ⟨k, rfl⟩ : ∃ k : Nat, Z = k := by
        obtain ⟨u, rfl⟩ := Int.eq_ofNat_of_zero_le h10
        exact ⟨_, hZ.symm.trans (Int.ofNat_tmod u (L.map enc62).length).symm⟩
      have hkl : k < L.length := by
        have := Int.tmod_lt_of_pos Y (b := ((L.map enc62).length : Int)) (by omega)
        rw [hZ] at this
        omega
      have hW : IntKind.i64.wrap ((k : Int) + 1) = ((k + 1 : Nat) : Int) := up1 hkl (by omega)
      refine ⟨⟨Int.natCast_nonneg _, by omega⟩, ?_⟩
      conv => whnf
      conv => whnf
      have hT : (List.take ((k : Int)).toNat (L.map enc62)).length = k := by rw [Int.toNat_natCast, List.length_take]; omega
      refine ⟨by show (List.take ((k : Int)).toNat (L.map enc62)).length * 136 ≤ 2 ^ 47; omega, ?_⟩
      conv => whnf
      conv => whnf
      refine ⟨by rw [hW]; omega, ?_⟩
      conv => whnf
      conv => whnf
      have hD : (List.drop (IntKind.i64.wrap ((k : Int) + 1)).toNat (L.map enc62)).length ≤ 320 := by rw [List.length_drop]; omega
      refine ⟨⟨Nat.zero_add _, by show (_ + _) * 136 ≤ 2 ^ 47; omega⟩, ?_⟩
      conv => whnf
      conv => whnf
      refine ⟨by rw [Nat.zero_add, List.length_append, List.drop_zero], ?_⟩
      conv => whnf
      conv => whnf
      have hrow : List.drop 0 (List.drop 0 (List.take ((k : Int)).toNat (L.map enc62)) ++ List.drop (IntKind.i64.wrap ((k : Int) + 1)).toNat (L.map enc62)) = (L.take k ++ L.drop (k + 1)).map enc62 := by
        rw [hW, Int.toNat_natCast, Int.toNat_natCast, List.drop_zero, List.drop_zero, List.map_append, List.map_take, List.map_drop]
      have h60 := c60 s (L.take k ++ L.drop (k + 1)) hN.sz (by rw [List.length_append, List.length_take, List.length_drop]; omega) fun _ e he => hnice e (by
        rcases List.mem_append.1 he with he | he
        · exact List.mem_of_mem_take he
        · exact List.mem_of_mem_drop he)
      rw [← hrow] at h60
      have hl := hleast hkl
      have hsz := apS_sz s (L.take k ++ L.drop (k + 1))
      generalize apS s (L.take k ++ L.drop (k + 1)) = p at h60 hl hsz
      have h35' := c35 p.1.1 t.1 p.1.2 t.2 hsz hN'.sz
      unfold encM at h60 h35'
      refine ⟨_, h60, ?_⟩
      conv => whnf
      conv => whnf
      refine ⟨by kernel_rfl, ?_⟩
      conv => whnf
      conv => whnf
      refine ⟨fun w8 => ?_, fun w8 => ?_⟩
      · conv => whnf
        refine ⟨_, c50, ?_⟩
        conv => whnf
        conv => whnf
        exact .of rfl
      · conv => whnf
        refine ⟨_, h35', ?_⟩
        conv => whnf
        conv => whnf
        refine ⟨fun w9 => ?_, fun w9 => ?_⟩
        · conv => whnf
          refine ⟨_, c50, ?_⟩
          conv => whnf
          conv => whnf
          exact .of rfl
        · have e1 : (p.1.1, p.1.2) = (t.1, t.2) := eqq_iff.1 (by simpa using w9)
          have e2 : p.2 = 0 := by simpa using w8
          exact absurd (Prod.ext e1 e2) hl
end Go.Ab
