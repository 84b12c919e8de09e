/- Proof texts of one seat, in one file: an evaluator of the program's form, shown sound, and the functions told by it. There are no conditions but those that each theorem names. -/
import Derived.Test.YtpbembafpnknhaaGreatAb0
import Derived.Test.YtpbembafpnknhaaGreatAb1
import Derived.Test.YtpbembafpnknhaaGreatAb2
import Derived.Test.YtpbembafpnknhaaGreatAb3
import Derived.Test.YtpbembafpnknhaaGreatAb4
import Derived.Test.YtpbembafpnknhaaGreatAb5
import Derived.Test.YtpbembafpnknhaaGreatAb6
set_option linter.unusedVariables false
set_option linter.unusedSimpArgs false
set_option linter.unusedSectionVars false
set_option linter.unnecessarySimpa false
namespace Go.Ab
open Go.Proofs Sn
set_option maxRecDepth 100000
set_option linter.unnecessarySimpa false
set_option linter.unusedSimpArgs false
set_option maxHeartbeats 4000000
theorem apS_sz (s : St) (l : List S62) : SzM (apS s l).1.1 (apS s l).1.2 := by
  have z : SzM ([] : List ByteArray) ([] : List S47) := ⟨by decide, by decide, fun x h => by cases h⟩
  unfold apS
  cases bP (IsN s.1 s.2) with
  | false => exact z
  | true =>
    cases bP (Adj l) with
    | false => exact z
    | true =>
      cases runS l s with
      | none => exact z
      | some t =>
        show SzM (match ordO t with | none => ((([], []) : St), (7 : Int)) | some n => (n, 0)).1.1 (match ordO t with | none => ((([], []) : St), (7 : Int)) | some n => (n, 0)).1.2
        cases ho : ordO t with
        | none => exact z
        | some n => exact (ordO_some.1 ho).1.sz
theorem and1023 (a : Int) : 0 ≤ IntKind.i64.wrap ((BitVec.ofInt IntKind.i64.bits a &&& BitVec.ofInt IntKind.i64.bits 1023).toNat : Int) := by
  have h : (BitVec.ofInt IntKind.i64.bits a &&& BitVec.ofInt IntKind.i64.bits 1023).toNat ≤ 1023 := by
    rw [BitVec.toNat_and]
    exact Nat.le_trans Nat.and_le_right (by decide)
  rw [IntWalk.i64_in _ (by omega)]
  exact Int.natCast_nonneg _
theorem c25 (f g : List ByteArray) (m n : List S47) (at_ : Int) (h : BgM f m) (h' : BgM g n) : PCall cx.P 25 [encM f m, encM g n, .int .i64 at_] (.lit true) := pcall3 Tryz.f25 (by kernel_rfl) (by kernel_rfl) <| by
  have h46 := c46 f m h
  have h46' := c46 g n h'
  unfold encM at h46 h46' ⊢
  conv => whnf
  refine ⟨_, h46, ?_⟩
  conv => whnf
  conv => whnf
  refine ⟨fun w1 => ?_, fun w1 => ?_⟩
  · conv => whnf
    exact .of rfl
  replace w1 := of_decide_eq_false w1
  have hz := SzM.of (f := f) (m := m) (by omega)
  have h34 := c34 f m hz
  unfold encM at h34
  conv => whnf
  refine ⟨_, h46', ?_⟩
  conv => whnf
  conv => whnf
  refine ⟨fun w2 => ?_, fun w2 => ?_⟩
  · conv => whnf
    exact .of rfl
  replace w2 := of_decide_eq_false w2
  have hz' := SzM.of (f := g) (m := n) (by omega)
  have h34' := c34 g n hz'
  unfold encM at h34'
  conv => whnf
  refine ⟨_, h34, ?_⟩
  conv => whnf
  conv => whnf
  refine ⟨fun w3 => ?_, fun w3 => ?_⟩
  · conv => whnf
    exact .of rfl
  conv => whnf
  refine ⟨_, h34', ?_⟩
  conv => whnf
  conv => whnf
  refine ⟨fun w4 => ?_, fun w4 => ?_⟩
  · conv => whnf
    exact .of rfl
  obtain ⟨r, F, rfl, ho⟩ := isB_iff.1 (show isB f m = true by simpa using w3)
  obtain ⟨r', F', rfl, ho'⟩ := isB_iff.1 (show isB g n = true by simpa using w4)
  have hN := nmS_N ho
  have hN' := nmS_N ho'
  have h37 := n37 ho
  have h37' := n37 ho'
  generalize nmS f r F = s at hN h37
  generalize nmS g r' F' = t at hN' h37'
  have h47 := n47 hN hN'
  have h35 := n35 hN'
  have hlen := specD_len hN hN'
  have hst := specD_strict s.1 s.2 t.1 t.2
  have hnil := spec_nil hN hN'
  have hnice := spec_nice (NiceF.of hN) (NiceF.of hN')
  have hleast := fun {k : Nat} => ap_least (k := k) hN hN'
  generalize specD s.1 s.2 t.1 t.2 = L at h47 hlen hst hnil hnice hleast
  have hE : (L.map enc62).length = L.length := List.length_map _
  unfold encM at h37 h37' h47 h35
  conv => whnf
  refine ⟨_, h37, ?_⟩
  conv => whnf
  conv => whnf
  refine ⟨_, h37', ?_⟩
  conv => whnf
  conv => whnf
  refine ⟨by kernel_rfl, ?_⟩
  conv => whnf
  conv => whnf
  refine ⟨_, h47, ?_⟩
  conv => whnf
  conv => whnf
  refine ⟨fun w5 => ?_, fun w5 => ?_⟩
  · exact absurd w5 (by decide)
  conv => whnf
  refine .inr (.inl ⟨[2, 3, 4, 7, 9], Nat, fun j => ([(2, .int .i64 at_), (3, .bptr 208 0), (4, .bptr 272 0), (7, .row 10 (L.map enc62)), (9, .int .i64 ((j + 1 : Nat) : Int))], [(272, .live (.box [.row 1 (t.1.map encT), .row 7 (t.2.map enc47)])), (208, .live (.box [.row 1 (s.1.map encT), .row 7 (s.2.map enc47)]))]), fun j => j ≤ L.length, fun j => L.length - j, ?_, fun j hj => ?_⟩)
  · conv => whnf
    exact ⟨0, .of rfl, Nat.zero_le _⟩
  have hj : j ≤ L.length := hj
  conv => whnf
  refine ⟨fun w6 => ?_, fun w6 => ?_⟩
  · have w6 : j + 1 < L.length := by have := of_decide_eq_true w6; omega
    obtain ⟨x, hx⟩ := at_ex (show j < L.length by omega)
    obtain ⟨y, hy⟩ := at_ex w6
    have hxy : cmpE x y = -1 := adj_of hst j x y hx hy
    have hpv : IntKind.i64.wrap (((j + 1 : Nat) : Int) - 1) = (j : Int) := by rw [IntWalk.i64_in _ (by omega)]; omega
    have hxw : (L.map enc62)[(IntKind.i64.wrap (((j + 1 : Nat) : Int) - 1)).toNat]? = some (enc62 x) := by rw [hpv]; exact map_at hx
    have hxb : 0 ≤ IntKind.i64.wrap (((j + 1 : Nat) : Int) - 1) ∧ IntKind.i64.wrap (((j + 1 : Nat) : Int) - 1) < ((L.map enc62).length : Int) := by rw [hpv]; omega
    conv => whnf
    refine ⟨hxb, ?_⟩
    conv => whnf
    conv => whnf
    refine ⟨_, hxw, ?_⟩
    conv => whnf
    conv => whnf
    refine ⟨⟨Int.natCast_nonneg _, by omega⟩, ?_⟩
    conv => whnf
    conv => whnf
    refine ⟨_, map_at hy, ?_⟩
    conv => whnf
    conv => whnf
    have hcs : cmpS x.f0 y.f0 = -1 ∨ (x.f0 = y.f0 ∧ x.f1 < y.f1) := by
      unfold cmpE orC at hxy
      by_cases h0 : cmpS x.f0 y.f0 ≠ 0
      · rw [if_pos h0] at hxy
        exact .inl hxy
      · rw [if_neg h0] at hxy
        refine .inr ⟨cmpS_eq.1 (by simpa using h0), ?_⟩
        unfold cmpInt at hxy
        split at hxy
        · assumption
        · split at hxy <;> omega
    have hle : (sLt x.f0 y.f0 || sEq x.f0 y.f0) = true := by
      rcases hcs with h | ⟨h, _⟩
      · rw [sLt_iff.2 h]; rfl
      · rw [(sEq_iff _ _).2 h, Bool.or_true]
    refine ⟨fun w8 => ?_, fun w8 => ?_⟩
    · rw [hle] at w8
      cases w8
    clear w8
    conv => whnf
    refine ⟨hxb, ?_⟩
    conv => whnf
    conv => whnf
    refine ⟨_, hxw, ?_⟩
    conv => whnf
    conv => whnf
    refine ⟨⟨Int.natCast_nonneg _, by omega⟩, ?_⟩
    conv => whnf
    conv => whnf
    refine ⟨_, map_at hy, ?_⟩
    conv => whnf
    conv => whnf
    refine ⟨fun w9 => ?_, fun w9 => ?_⟩
    · have he := (sEq_iff _ _).1 w9
      have hlt : x.f1 < y.f1 := by
        rcases hcs with h | ⟨_, h⟩
        · rw [he, isCmp_s.self] at h
          cases h
        · exact h
      conv => whnf
      refine ⟨hxb, ?_⟩
      conv => whnf
      conv => whnf
      refine ⟨_, hxw, ?_⟩
      conv => whnf
      conv => whnf
      refine ⟨⟨Int.natCast_nonneg _, by omega⟩, ?_⟩
      conv => whnf
      conv => whnf
      refine ⟨_, map_at hy, ?_⟩
      conv => whnf
      conv => whnf
      refine ⟨by kernel_rfl, ?_⟩
      conv => whnf
      conv => whnf
      refine ⟨fun w10 => ?_, fun w10 => ?_⟩
      · have := of_decide_eq_true w10
        omega
      conv => whnf
      refine ⟨j + 1, ?_, by omega, by show L.length - (j + 1) < L.length - j; omega⟩
      dsimp only
      rw [up1 w6 (by omega)]
      exact .of rfl
    · conv => whnf
      refine ⟨by kernel_rfl, ?_⟩
      conv => whnf
      conv => whnf
      refine ⟨j + 1, ?_, by omega, by show L.length - (j + 1) < L.length - j; omega⟩
      dsimp only
      rw [up1 w6 (by omega)]
      exact .of rfl
  · have w6 : ¬ j + 1 < L.length := by have := of_decide_eq_false w6; omega
    conv => whnf
    refine ⟨fun w7 => ?_, fun w7 => ?_⟩
    · have hL : L = [] := List.eq_nil_of_length_eq_zero (by have := eq_of_beq w7; omega)
      have hst : s = t := hnil hL
      subst hst
      conv => whnf
      refine ⟨_, h35, ?_⟩
      conv => whnf
      conv => whnf
      refine ⟨_, c50, ?_⟩
      conv => whnf
      conv => whnf
      exact .of rfl
    · have hL : L.length ≠ 0 := by have := ne_of_beq w7; omega
      conv => whnf
      have h10 : 0 ≤ IntKind.i64.wrap ((BitVec.ofInt IntKind.i64.bits at_ &&& BitVec.ofInt IntKind.i64.bits 1023).toNat : Int) := and1023 at_
      generalize IntKind.i64.wrap ((BitVec.ofInt IntKind.i64.bits at_ &&& BitVec.ofInt IntKind.i64.bits 1023).toNat : Int) = Y at h10
      refine ⟨by omega, ?_⟩
      conv => whnf
      conv => whnf
      generalize hZ : Y.tmod ((L.map enc62).length : Int) = Z
      obtain ⟨k, rfl⟩ : ∃ k : Nat, Z = k := by
        obtain ⟨u, rfl⟩ := Int.eq_ofNat_of_zero_le h10
        exact ⟨_, hZ.symm.trans (Int.ofNat_tmod u (L.map enc62).length).symm⟩
      have hkl : k < L.length := by
        have := Int.tmod_lt_of_pos Y (b := ((L.map enc62).length : Int)) (by omega)
        rw [hZ] at this
        omega
      have hW : IntKind.i64.wrap ((k : Int) + 1) = ((k + 1 : Nat) : Int) := up1 hkl (by omega)
      refine ⟨⟨Int.natCast_nonneg _, by omega⟩, ?_⟩
      conv => whnf
      conv => whnf
      have hT : (List.take ((k : Int)).toNat (L.map enc62)).length = k := by rw [Int.toNat_natCast, List.length_take]; omega
      refine ⟨by show (List.take ((k : Int)).toNat (L.map enc62)).length * 136 ≤ 2 ^ 47; omega, ?_⟩
      conv => whnf
      conv => whnf
      refine ⟨by rw [hW]; omega, ?_⟩
      conv => whnf
      conv => whnf
      have hD : (List.drop (IntKind.i64.wrap ((k : Int) + 1)).toNat (L.map enc62)).length ≤ 320 := by rw [List.length_drop]; omega
      refine ⟨⟨Nat.zero_add _, by show (_ + _) * 136 ≤ 2 ^ 47; omega⟩, ?_⟩
      conv => whnf
      conv => whnf
      refine ⟨by rw [Nat.zero_add, List.length_append, List.drop_zero], ?_⟩
      conv => whnf
      conv => whnf
      have hrow : List.drop 0 (List.drop 0 (List.take ((k : Int)).toNat (L.map enc62)) ++ List.drop (IntKind.i64.wrap ((k : Int) + 1)).toNat (L.map enc62)) = (L.take k ++ L.drop (k + 1)).map enc62 := by
        rw [hW, Int.toNat_natCast, Int.toNat_natCast, List.drop_zero, List.drop_zero, List.map_append, List.map_take, List.map_drop]
      have h60 := c60 s (L.take k ++ L.drop (k + 1)) hN.sz (by rw [List.length_append, List.length_take, List.length_drop]; omega) fun _ e he => hnice e (by
        rcases List.mem_append.1 he with he | he
        · exact List.mem_of_mem_take he
        · exact List.mem_of_mem_drop he)
      rw [← hrow] at h60
      have hl := hleast hkl
      have hsz := apS_sz s (L.take k ++ L.drop (k + 1))
      generalize apS s (L.take k ++ L.drop (k + 1)) = p at h60 hl hsz
      have h35' := c35 p.1.1 t.1 p.1.2 t.2 hsz hN'.sz
      unfold encM at h60 h35'
      refine ⟨_, h60, ?_⟩
      conv => whnf
      conv => whnf
      refine ⟨by kernel_rfl, ?_⟩
      conv => whnf
      conv => whnf
      refine ⟨fun w8 => ?_, fun w8 => ?_⟩
      · conv => whnf
        refine ⟨_, c50, ?_⟩
        conv => whnf
        conv => whnf
        exact .of rfl
      · conv => whnf
        refine ⟨_, h35', ?_⟩
        conv => whnf
        conv => whnf
        refine ⟨fun w9 => ?_, fun w9 => ?_⟩
        · conv => whnf
          refine ⟨_, c50, ?_⟩
          conv => whnf
          conv => whnf
          exact .of rfl
        · have e1 : (p.1.1, p.1.2) = (t.1, t.2) := eqq_iff.1 (by simpa using w9)
          have e2 : p.2 = 0 := by simpa using w8
          exact absurd (Prod.ext e1 e2) hl
end Go.Ab
namespace Go.Ab
open Sn
def wayX (w : Nat) (x : S47) : S47 := match w with | 0 => ⟨x.f0, x.f1, x.f2, !x.f3, x.f4, x.f5, x.f6⟩ | 1 => ⟨x.f0, x.f1, x.f2, x.f3, x.f4, x.f5, []⟩ | _ => ⟨x.f0, x.f1, x.f2, x.f3, x.f4, [], x.f6⟩
def wayF (w : Nat) : Int := match w with | 0 => 2 | 1 => 4 | _ => 3
theorem wayX_f0 (w : Nat) (x : S47) : (wayX w x).f0 = x.f0 := by unfold wayX; split <;> rfl
theorem edX_way {w : Nat} {x : S47} {id : ByteArray} (h : wayX w x ≠ x) : ∃ y, edX true true x (wayX w x) id = [⟨id, wayF w, true, y⟩] := by
  unfold edX ed2 ed3 ed4
  match w with
  | 0 =>
    have hs : sameHd x (wayX 0 x) = true := sameHd_iff.2 ⟨rfl, rfl, rfl⟩
    have h3 : (x.f3 != (wayX 0 x).f3) = true := by show (x.f3 != !x.f3) = true; cases x.f3 <;> rfl
    rw [hs, h3, show eqq x.f5 (wayX 0 x).f5 = true from eqq_y rfl, show eqq x.f6 (wayX 0 x).f6 = true from eqq_y rfl]
    exact ⟨_, rfl⟩
  | 1 =>
    have hs : sameHd x (wayX 1 x) = true := sameHd_iff.2 ⟨rfl, rfl, rfl⟩
    have h3 : (x.f3 != (wayX 1 x).f3) = false := bne_self_eq_false _
    have h6 : eqq x.f6 (wayX 1 x).f6 = false := eqq_n fun e => h (by obtain ⟨a, b, c, d, f, g, i⟩ := x; have e : i = [] := e; rw [e]; rfl)
    rw [hs, h3, show eqq x.f5 (wayX 1 x).f5 = true from eqq_y rfl, h6]
    exact ⟨_, rfl⟩
  | w + 2 =>
    have hs : sameHd x (wayX (w + 2) x) = true := sameHd_iff.2 ⟨rfl, rfl, rfl⟩
    have h3 : (x.f3 != (wayX (w + 2) x).f3) = false := bne_self_eq_false _
    have h5 : eqq x.f5 (wayX (w + 2) x).f5 = false := eqq_n fun e => h (by obtain ⟨a, b, c, d, f, g, i⟩ := x; have e : g = [] := e; rw [e]; rfl)
    rw [hs, h3, h5, show eqq x.f6 (wayX (w + 2) x).f6 = true from eqq_y rfl]
    exact ⟨_, rfl⟩
theorem spec_one {fs : List ByteArray} {X : List S47} {k w : Nat} {x : S47} (h : Nice (fs, X)) (hx : X[k]? = some x) (h' : Nice (fs, X.set k (wayX w x))) (hne : X.set k (wayX w x) ≠ X) : ∃ y, specD fs X fs (X.set k (wayX w x)) = [⟨x.f0, wayF w, true, y⟩] := by
  obtain ⟨hk, hxe⟩ := List.getElem?_eq_some_iff.1 hx
  have hwx : wayX w x ≠ x := fun e => hne (by rw [e, ← hxe]; exact List.set_getElem_self hk)
  have hmx : x ∈ X := List.mem_of_getElem? hx
  have hmx' : wayX w x ∈ X.set k (wayX w x) := List.mem_iff_getElem.2 ⟨k, by rw [List.length_set]; exact hk, List.getElem_set_self ..⟩
  have hmem : ∀ y : S47, y.f0 ≠ x.f0 → (y ∈ X.set k (wayX w x) ↔ y ∈ X) := fun y hy => by
    rw [List.mem_iff_getElem?, List.mem_iff_getElem?]
    constructor
    · rintro ⟨i, hi⟩
      rw [List.getElem?_set] at hi
      split at hi
      · rename_i e
        cases hi
        exact absurd (wayX_f0 w x) hy
      · exact ⟨i, hi⟩
    · rintro ⟨i, hi⟩
      refine ⟨i, ?_⟩
      rw [List.getElem?_set, if_neg (fun e => by rw [← e, hx] at hi; cases hi; exact hy rfl)]
      exact hi
  have hids : ∀ id, hasI (X.set k (wayX w x)) id = hasI X id := fun id => bool_of (by
    rw [hasI_iff, hasI_iff]
    constructor
    · rintro ⟨y, hy, rfl⟩
      by_cases e : y.f0 = x.f0
      · exact ⟨x, hmx, e.symm⟩
      · exact ⟨y, (hmem y e).1 hy, rfl⟩
    · rintro ⟨y, hy, rfl⟩
      by_cases e : y.f0 = x.f0
      · exact ⟨_, hmx', (wayX_f0 w x).trans e.symm⟩
      · exact ⟨y, (hmem y e).2 hy, rfl⟩)
  have hget : ∀ id, id ≠ x.f0 → getI (X.set k (wayX w x)) id = getI X id := fun id hid => by
    cases hi : hasI X id with
    | false => rw [getI_none hi, getI_none (by rw [hids, hi])]
    | true =>
      obtain ⟨g1, g2⟩ := getI_mem hi
      exact getI_is h'.xn ((hmem _ (by rw [g2]; exact hid)).2 g1) g2
  have hF : ∀ id, edF fs fs id = [] := fun id => by unfold edF; rw [bne_self_eq_false]; rfl
  have hother : ∀ id, id ≠ x.f0 → edI X (X.set k (wayX w x)) id = [] := fun id hid => by rw [edI_X, hids, hget id hid]; exact edX_self _ _ _
  obtain ⟨y, hy⟩ := edX_way (id := x.f0) hwx
  have hat := atId_spec (fs, X) (fs, X.set k (wayX w x)) x.f0
  have hI : edI X (X.set k (wayX w x)) x.f0 = [⟨x.f0, wayF w, true, y⟩] := by
    rw [edI_X, hids, hasI_of hmx rfl, getI_is h.xn hmx rfl, getI_is h'.xn hmx' (wayX_f0 w x)]
    exact hy
  refine ⟨y, ?_⟩
  have hall : atId (specD fs X fs (X.set k (wayX w x))) x.f0 = specD fs X fs (X.set k (wayX w x)) := atId_all fun e he => by
    obtain ⟨id, hid⟩ := mem_specD.1 he
    have hmm := List.mem_append.2 hid
    have e0 := edIF_f0 hmm
    by_cases e1 : id = x.f0
    · rw [e0, e1]
    · rw [hother id e1, hF] at hmm
      cases hmm
  rw [← hall]
  exact hat.trans (by rw [show edI (fs, X).2 (fs, X.set k (wayX w x)).2 x.f0 = _ from hI, show edF (fs, X).1 (fs, X.set k (wayX w x)).1 x.f0 = [] from hF _]; rfl)
end Go.Ab
namespace Go.Ab
open Go.Proofs Sn
set_option maxRecDepth 100000
set_option linter.unnecessarySimpa false
set_option linter.unusedSimpArgs false
set_option maxHeartbeats 4000000
theorem LeXX.set {c c' : List AV} (h : LeX c c') : ∀ (es : List (List AV)) (k : Nat), LeXX (es.set k c) (es.set k c')
  | [], _ => .nil
  | e :: es, 0 => .cons h (.refl _)
  | e :: es, k + 1 => .cons (.refl _) (LeXX.set h es k)
theorem wayX_sz (w : Nat) {x : S47} (h : Sz47 x) : Sz47 (wayX w x) := by
  have n : ([] : List S29).length ≤ 1048576 ∧ ∀ s ∈ ([] : List S29), Sz29 s := ⟨by decide, fun s h => by cases h⟩
  unfold wayX
  split
  · exact h
  · exact ⟨h.1, n⟩
  · exact ⟨n, h.2⟩
theorem c13 (f : List ByteArray) (m : List S47) (at_ way : Int) (h : BgM f m) : PCall cx.P 13 [encM f m, .int .i64 at_, .int .i64 way] (.lit true) := pcallA [1013] Tryz.f13 (by kernel_rfl) (by kernel_rfl) <| by
  have h46 := c46 f m h
  have hE : (m.map enc47).length = m.length := List.length_map _
  unfold encM at h46 ⊢
  conv => whnf
  refine ⟨_, h46, ?_⟩
  conv => whnf
  conv => whnf
  refine ⟨fun w1 => ?_, fun w1 => ?_⟩
  · conv => whnf
    exact .of rfl
  replace w1 := of_decide_eq_false w1
  have hz := SzM.of (f := f) (m := m) (by omega)
  have h34 := c34 f m hz
  unfold encM at h34
  conv => whnf
  refine ⟨_, h34, ?_⟩
  conv => whnf
  conv => whnf
  refine ⟨fun w2 => ?_, fun w2 => ?_⟩
  · conv => whnf
    exact .of rfl
  conv => whnf
  refine ⟨fun w3 => ?_, fun w3 => ?_⟩
  · conv => whnf
    exact .of rfl
  conv => whnf
  refine ⟨fun w4 => ?_, fun w4 => ?_⟩
  · conv => whnf
    exact .of rfl
  conv => whnf
  refine ⟨fun w5 => ?_, fun w5 => ?_⟩
  · conv => whnf
    exact .of rfl
  have hlt : ¬ m.length < 2 := by have := of_decide_eq_false w3; omega
  have hway : 0 ≤ way ∧ way ≤ 2 := by have := of_decide_eq_false w4; have := of_decide_eq_false w5; omega
  obtain ⟨r, F, rfl, ho⟩ := isB_iff.1 (show isB f m = true by simpa using w2)
  have hN := nmS_N ho
  have h37 := n37 ho
  have hlen : (nmS f r F).2.length = (r :: F).length := by
    have := (ho.turn_perm isOrd_ID turns_n).length_eq
    rw [List.length_map] at this
    exact this
  generalize nmS f r F = s at hN h37 hlen
  obtain ⟨fs, X⟩ := s
  have hlen : X.length = (r :: F).length := hlen
  have hn16 := ho.n16
  have hXl : 2 ≤ X.length ∧ X.length ≤ 16 := by
    rw [List.length_cons] at hlen hlt
    omega
  have hXe : (X.map enc47).length = X.length := List.length_map _
  have hFe : (fs.map encT).length = fs.length := List.length_map _
  have hXe' : (List.map enc47 (fs, X).snd).length = X.length := List.length_map _
  have h10 : 0 ≤ IntKind.i64.wrap ((BitVec.ofInt IntKind.i64.bits at_ &&& BitVec.ofInt IntKind.i64.bits 1023).toNat : Int) := and1023 at_
  have hs1 : IntKind.i64.wrap (((X.map enc47).length : Int) - 1) = ((X.length - 1 : Nat) : Int) := by rw [IntWalk.i64_in _ (by omega)]; omega
  unfold encM at h37
  clear w1 w3 w4 w5 hlt
  conv => whnf
  refine ⟨_, h37, ?_⟩
  conv => whnf
  conv => whnf
  generalize IntKind.i64.wrap ((BitVec.ofInt IntKind.i64.bits at_ &&& BitVec.ofInt IntKind.i64.bits 1023).toNat : Int) = Y at h10
  refine ⟨by rw [hs1]; omega, ?_⟩
  conv => whnf
  conv => whnf
  refine ⟨by show (X.map enc47).length * 104 ≤ 2 ^ 47; omega, ?_⟩
  conv => whnf
  conv => whnf
  refine ⟨by kernel_rfl, ?_⟩
  conv => whnf
  conv => whnf
  generalize hZ : IntKind.i64.wrap (1 + Y.tmod (IntKind.i64.wrap (((X.map enc47).length : Int) - 1))) = Z
  obtain ⟨k, rfl, hk⟩ : ∃ k : Nat, Z = k ∧ k < X.length := by
    obtain ⟨u, rfl⟩ := Int.eq_ofNat_of_zero_le h10
    have e : (u : Int).tmod ((X.length - 1 : Nat) : Int) = ((u % (X.length - 1) : Nat) : Int) := (Int.ofNat_tmod u (X.length - 1)).symm
    have hm := Nat.mod_lt u (show X.length - 1 > 0 by omega)
    rw [hs1, e] at hZ
    refine ⟨1 + u % (X.length - 1), ?_, by omega⟩
    rw [← hZ, IntWalk.i64_in _ (by omega)]
    omega
  clear hZ
  obtain ⟨x, hx⟩ := at_ex hk
  refine ⟨fun w6 => ?_, fun w6 => ?_⟩
  focus
    conv => whnf
    refine ⟨⟨Int.natCast_nonneg _, by omega⟩, ?_⟩
    conv => whnf
    conv => whnf
    refine ⟨_, map_at hx, ?_⟩
    conv => whnf
    conv => whnf
    refine ⟨⟨Int.natCast_nonneg _, by omega⟩, ?_⟩
    conv => whnf
    conv => whnf
    refine ⟨_, map_at0 hx, ?_⟩
    conv => whnf
    conv => whnf
    refine ⟨by kernel_rfl, ?_⟩
    conv => whnf
    conv => whnf
    obtain ⟨w, hw⟩ : ∃ w : Nat, w = 0 := ⟨_, rfl⟩
    refine ⟨[7, 8, 9, 10], ([(7, .bptr 464 0), (8, .int .i64 k), (9, .bptr 592 0), (10, .int .i64 (wayF w))], [(592, .live (.box [.row 1 (fs.map encT), .row 7 ((X.map enc47).set k (enc47 (wayX w x)))])), (464, .live (.box [.row 1 (fs.map encT), .row 7 (X.map enc47)]))]), ?_⟩
    conv => whnf
    refine ⟨(StLe.frz 594 (by kernel_rfl) ?_).trans (.trans (.of (q := ([(7, .bptr 464 0), (8, .int .i64 k), (9, .bptr 592 0), (10, .int .i64 2)], [(592, .live (.box [.row 1 (fs.map encT), .row 7 ((X.map enc47).set (0 + ((k : Int)).toNat) [.str x.f0, .int .i64 x.f1, .str x.f2, .bool (!x.f3), .int .i64 x.f4, (.row 2 (x.f5.map enc29)), (.row 2 (x.f6.map enc29))])])), (464, .live (.box [.row 1 (fs.map encT), .row 7 (X.map enc47)]))])) rfl) ?_), ?_⟩
    · repeat' (first | exact True.intro | exact rfl | exact Nat.zero_add _ | refine And.intro ?_ ?_)
      all_goals
        show 0 + _ = List.length (List.set _ _ _)
        rw [List.length_set, Nat.zero_add]
    · rw [Nat.zero_add, Int.toNat_natCast]
      subst hw
      exact .le (.refl _) (.cons _ _ _ _ _ (.box2 .refl (.rows (.set (by repeat (first | exact .nil | refine .cons (by first | exact .refl | exact .lit rfl | exact .nils) ?_)) _ _))) (.refl _))
  rotate_left
  conv => whnf
  refine ⟨fun w7 => ?_, fun w7 => ?_⟩
  focus
    conv => whnf
    refine ⟨⟨Int.natCast_nonneg _, by omega⟩, ?_⟩
    conv => whnf
    conv => whnf
    refine ⟨_, map_at0 hx, ?_⟩
    conv => whnf
    conv => whnf
    obtain ⟨w, hw⟩ : ∃ w : Nat, w = 1 := ⟨_, rfl⟩
    refine ⟨[7, 8, 9, 10], ([(7, .bptr 464 0), (8, .int .i64 k), (9, .bptr 592 0), (10, .int .i64 (wayF w))], [(592, .live (.box [.row 1 (fs.map encT), .row 7 ((X.map enc47).set k (enc47 (wayX w x)))])), (464, .live (.box [.row 1 (fs.map encT), .row 7 (X.map enc47)]))]), ?_⟩
    conv => whnf
    refine ⟨(StLe.frz 594 (by kernel_rfl) ?_).trans (.trans (.of (q := ([(7, .bptr 464 0), (8, .int .i64 k), (9, .bptr 592 0), (10, .int .i64 4)], [(592, .live (.box [.row 1 (fs.map encT), .row 7 ((X.map enc47).set (0 + ((k : Int)).toNat) [.str x.f0, .int .i64 x.f1, .str x.f2, .bool x.f3, .int .i64 x.f4, (.row 2 (x.f5.map enc29)), .nils])])), (464, .live (.box [.row 1 (fs.map encT), .row 7 (X.map enc47)]))])) rfl) ?_), ?_⟩
    · repeat' (first | exact True.intro | exact rfl | exact Nat.zero_add _ | refine And.intro ?_ ?_)
      all_goals
        show 0 + _ = List.length (List.set _ _ _)
        rw [List.length_set, Nat.zero_add]
    · rw [Nat.zero_add, Int.toNat_natCast]
      subst hw
      exact .le (.refl _) (.cons _ _ _ _ _ (.box2 .refl (.rows (.set (by repeat (first | exact .nil | refine .cons (by first | exact .refl | exact .lit rfl | exact .nils) ?_)) _ _))) (.refl _))
  rotate_left
  focus
    conv => whnf
    refine ⟨⟨Int.natCast_nonneg _, by omega⟩, ?_⟩
    conv => whnf
    conv => whnf
    refine ⟨_, map_at0 hx, ?_⟩
    conv => whnf
    conv => whnf
    obtain ⟨w, hw⟩ : ∃ w : Nat, w = 2 := ⟨_, rfl⟩
    refine ⟨[7, 8, 9, 10], ([(7, .bptr 464 0), (8, .int .i64 k), (9, .bptr 592 0), (10, .int .i64 (wayF w))], [(592, .live (.box [.row 1 (fs.map encT), .row 7 ((X.map enc47).set k (enc47 (wayX w x)))])), (464, .live (.box [.row 1 (fs.map encT), .row 7 (X.map enc47)]))]), ?_⟩
    conv => whnf
    refine ⟨(StLe.frz 594 (by kernel_rfl) ?_).trans (.trans (.of (q := ([(7, .bptr 464 0), (8, .int .i64 k), (9, .bptr 592 0), (10, .int .i64 3)], [(592, .live (.box [.row 1 (fs.map encT), .row 7 ((X.map enc47).set (0 + ((k : Int)).toNat) [.str x.f0, .int .i64 x.f1, .str x.f2, .bool x.f3, .int .i64 x.f4, .nils, (.row 2 (x.f6.map enc29))])])), (464, .live (.box [.row 1 (fs.map encT), .row 7 (X.map enc47)]))])) rfl) ?_), ?_⟩
    · repeat' (first | exact True.intro | exact rfl | exact Nat.zero_add _ | refine And.intro ?_ ?_)
      all_goals
        show 0 + _ = List.length (List.set _ _ _)
        rw [List.length_set, Nat.zero_add]
    · rw [Nat.zero_add, Int.toNat_natCast]
      subst hw
      exact .le (.refl _) (.cons _ _ _ _ _ (.box2 .refl (.rows (.set (by repeat (first | exact .nil | refine .cons (by first | exact .refl | exact .lit rfl | exact .nils) ?_)) _ _))) (.refl _))
  all_goals
    have hkX : k < X.length := hk
    have hszT : SzM fs (X.set k (wayX w x)) := ⟨hN.sz.hf, by rw [List.length_set]; omega, fun y hy => by
      rcases List.mem_or_eq_of_mem_set hy with hy | rfl
      · exact hN.sz.hx y hy
      · exact wayX_sz w (hN.sz.hx x (List.mem_of_getElem? hx))⟩
    have h31 := c31 fs (X.set k (wayX w x)) hszT
    unfold encM at h31
    rw [List.map_set] at h31
    conv => whnf
    refine ⟨_, h31, ?_⟩
    conv => whnf
    conv => whnf
    refine ⟨fun w8 => ?_, fun w8 => ?_⟩
    · conv => whnf
      exact .of rfl
    have hT : IsN fs (X.set k (wayX w x)) := bP_iff.1 (by simpa using w8)
    have h47 := n47 (s := (fs, X)) (t := (fs, X.set k (wayX w x))) hN hT
    have h35 := c35 fs fs X (X.set k (wayX w x)) hN.sz hszT
    by_cases hEq : X.set k (wayX w x) = X
    · rw [show specD (fs, X).1 (fs, X).2 (fs, X.set k (wayX w x)).1 (fs, X.set k (wayX w x)).2 = [] from by show specD fs X fs (X.set k (wayX w x)) = []; rw [hEq]; exact spec_self (fs, X)] at h47
      rw [eqq_y (show (fs, X) = (fs, X.set k (wayX w x)) from by rw [hEq])] at h35
      replace h35 := h35.to (.blit rfl)
      unfold encM at h47 h35
      rw [List.map_set] at h35
      replace h47 : PCall cx.P 47 [.agg [.row 1 (fs.map encT), .row 7 (X.map enc47)], .agg [.row 1 (fs.map encT), .row 7 ((X.map enc47).set k (enc47 (wayX w x)))]] (.tup [.row 10 [], .int .i64 0]) := by rw [← List.map_set]; exact h47
      conv => whnf
      refine ⟨_, h47, ?_⟩
      conv => whnf
      conv => whnf
      refine ⟨_, h35, ?_⟩
      conv => whnf
      conv => whnf
      refine ⟨fun w9 => ?_, fun w9 => ?_⟩
      rotate_left
      · exact absurd w9 (by decide)
      conv => whnf
      refine ⟨fun w10 => ?_, fun w10 => ?_⟩
      rotate_left
      · exact absurd w10 (by decide)
      conv => whnf
      refine ⟨_, c50, ?_⟩
      conv => whnf
      conv => whnf
      exact .of rfl
    · obtain ⟨y, hy⟩ := spec_one (w := w) hN.nice.1 hx hT.nice.1 hEq
      rw [show specD (fs, X).1 (fs, X).2 (fs, X.set k (wayX w x)).1 (fs, X.set k (wayX w x)).2 = [⟨x.f0, wayF w, true, y⟩] from hy] at h47
      rw [eqq_n (show (fs, X) ≠ (fs, X.set k (wayX w x)) from fun e => hEq (congrArg Prod.snd e).symm)] at h35
      replace h35 := h35.to (.blit rfl)
      unfold encM at h47 h35
      rw [List.map_set] at h35
      replace h47 : PCall cx.P 47 [.agg [.row 1 (fs.map encT), .row 7 (X.map enc47)], .agg [.row 1 (fs.map encT), .row 7 ((X.map enc47).set k (enc47 (wayX w x)))]] (.tup [.row 10 ([⟨x.f0, wayF w, true, y⟩].map enc62), .int .i64 0]) := by rw [← List.map_set]; exact h47
      conv => whnf
      refine ⟨_, h47, ?_⟩
      conv => whnf
      conv => whnf
      refine ⟨_, h35, ?_⟩
      conv => whnf
      conv => whnf
      refine ⟨fun w9 => ?_, fun w9 => ?_⟩
      rotate_left
      · exact absurd w9 (by decide)
      conv => whnf
      refine ⟨fun w10 => ?_, fun w10 => ?_⟩
      rotate_left
      · exact absurd w10 (by show ¬ ((((1 : Nat) : Int) == 1) = false); decide)
      conv => whnf
      refine ⟨⟨Int.natCast_nonneg _, by show (0 : Int) < ((1 : Nat) : Int); decide⟩, ?_⟩
      conv => whnf
      conv => whnf
      refine ⟨_, rfl, ?_⟩
      conv => whnf
      conv => whnf
      refine ⟨⟨Int.natCast_nonneg _, by omega⟩, ?_⟩
      conv => whnf
      conv => whnf
      refine ⟨_, map_at hx, ?_⟩
      conv => whnf
      conv => whnf
      refine ⟨fun w11 => ?_, fun w11 => ?_⟩
      rotate_left
      · rw [(sEq_iff _ _).2 rfl] at w11
        cases w11
      conv => whnf
      refine ⟨⟨Int.natCast_nonneg _, by show (0 : Int) < ((1 : Nat) : Int); decide⟩, ?_⟩
      conv => whnf
      conv => whnf
      refine ⟨_, rfl, ?_⟩
      conv => whnf
      conv => whnf
      refine ⟨fun w12 => ?_, fun w12 => ?_⟩
      rotate_left
      · rw [beq_self_eq_true] at w12
        cases w12
      conv => whnf
      refine ⟨⟨Int.natCast_nonneg _, by show (0 : Int) < ((1 : Nat) : Int); decide⟩, ?_⟩
      conv => whnf
      conv => whnf
      refine ⟨_, rfl, ?_⟩
      conv => whnf
      conv => whnf
      refine ⟨fun w13 => ?_, fun w13 => ?_⟩
      rotate_left
      · cases w13
      conv => whnf
      refine ⟨_, c50, ?_⟩
      conv => whnf
      conv => whnf
      refine ⟨by kernel_rfl, ?_⟩
      conv => whnf
      conv => whnf
      exact .of rfl
end Go.Ab
