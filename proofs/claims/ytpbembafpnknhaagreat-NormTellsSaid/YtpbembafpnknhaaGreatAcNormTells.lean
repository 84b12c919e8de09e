/- Proof texts of one seat, in one file: an evaluator of the program's form, shown sound, and the functions told by it. There are no conditions but those that each theorem names. -/
import Derived.Test.YtpbembafpnknhaaGreatAb0
import Derived.Test.YtpbembafpnknhaaGreatAb1
import Derived.Test.YtpbembafpnknhaaGreatAb2
import Derived.Test.YtpbembafpnknhaaGreatAb3
import Derived.Test.YtpbembafpnknhaaGreatAb4
set_option linter.unusedVariables false
set_option linter.unusedSimpArgs false
set_option linter.unusedSectionVars false
set_option linter.unnecessarySimpa false
namespace Go.Ab
open Go.Proofs Sn
set_option maxRecDepth 100000
set_option maxHeartbeats 4000000
def kR : S47 := ⟨⟨#[112]⟩, 1, ⟨#[]⟩, false, 0, [], []⟩
def kF : List ByteArray := [⟨#[98]⟩, ⟨#[97]⟩]
theorem kOk : Ok kF kR [] := by
  obtain ⟨r, F, e, h⟩ := isB_iff.1 (show isB kF [kR] = true by kernel_rfl)
  cases e
  exact h
theorem kT : turnT ordID nIt kR [] = [] := by
  have h := (kOk.turn_perm isOrd_ID turns_n).length_eq
  simpa using h
theorem kS : sortL cmpS kF = [⟨#[97]⟩, ⟨#[98]⟩] := by kernel_rfl
theorem kIsN : IsN [⟨#[97]⟩, ⟨#[98]⟩] [kR] := by
  have h := kOk.turn isOrd_ID turns_n (sortL_perm (c := cmpS) kF)
  have h2 := kOk.norm_norm
  rw [kT] at h h2
  rw [kS] at h
  exact ⟨kR, [], rfl, h, by kernel_rfl, h2⟩
theorem kRow : Le (.row 7 [[AV.str ⟨#[112]⟩, .int .i64 1, .str ⟨#[]⟩, .lit false, .int .i64 0, .nils, .nils]]) (.row 7 [enc47 kR]) := LeP.row1 rfl fun j x y hx hy => by
  match j with
  | 0 => cases hx; cases hy; exact .refl
  | 1 => cases hx; cases hy; exact .refl
  | 2 => cases hx; cases hy; exact .refl
  | 3 => cases hx; cases hy; exact .lit rfl
  | 4 => cases hx; cases hy; exact .refl
  | 5 => cases hx; cases hy; exact .nils
  | 6 => cases hx; cases hy; exact .nils
  | j + 7 => simp at hx
theorem k36 : PCall cx.P 36 [.agg [.row 1 [[.str ⟨#[98]⟩], [.str ⟨#[97]⟩]], .row 7 [[AV.str ⟨#[112]⟩, .int .i64 1, .str ⟨#[]⟩, .lit false, .int .i64 0, .nils, .nils]]]] (.agg [.row 1 [[.str ⟨#[97]⟩], [.str ⟨#[98]⟩]], .row 7 [enc47 kR]]) := by
  have h := c36 kOk
  rw [kT, kS] at h
  exact h.by1 (.agg2 .refl kRow)
theorem k30 : PCall cx.P 30 [.agg [.row 1 [[.str ⟨#[97]⟩], [.str ⟨#[98]⟩]], .row 7 [enc47 kR]]] (.lit true) := by
  obtain ⟨r, F, e, h, _⟩ := kIsN
  have h' := c30 _ _ h.sz
  rw [← e, bP_iff.2 kIsN] at h'
  exact h'.to (.blit rfl)
theorem c38 : PCall cx.P 38 [] (.lit true) := pcall Tryz.f38 (by kernel_rfl) (by kernel_rfl) <| by
  conv => whnf
  refine ⟨by decide, ?_⟩
  conv => whnf
  conv => whnf
  refine ⟨by decide, ?_⟩
  conv => whnf
  conv => whnf
  refine ⟨_, k36, ?_⟩
  conv => whnf
  conv => whnf
  refine ⟨fun w1 => ?_, fun w1 => ?_⟩
  · replace w1 := of_decide_eq_true w1
    conv => whnf
    refine ⟨⟨Int.natCast_nonneg _, by omega⟩, ?_⟩
    conv => whnf
    conv => whnf
    refine ⟨_, rfl, ?_⟩
    conv => whnf
    conv => whnf
    refine ⟨fun w2 => ?_, fun w2 => ?_⟩
    · replace w2 := seT w2
      conv => whnf
      refine ⟨fun w3 => ?_, fun w3 => ?_⟩
      · replace w3 := of_decide_eq_true w3
        conv => whnf
        refine ⟨_, k30, ?_⟩
        conv => whnf
        conv => whnf
        exact .of rfl
      · cases w3
    · conv => whnf
      rw [(sEq_iff _ _).2 rfl] at w2
      cases w2
  · cases w1
theorem c3 (f : List ByteArray) (m : List S47) (a b : S29) (h : BgM f m) (ha : Bg29 a) (hb : Bg29 b) : PCall cx.P 3 [encM f m, .agg (enc29 a), .agg (enc29 b)] (.lit true) := pcall Tryz.f3 (by kernel_rfl) (by kernel_rfl) <| by
  obtain ⟨ha0, ha1⟩ := ha
  obtain ⟨hb0, hb1⟩ := hb
  have e0 : (a.f0.map enc78).length = a.f0.length := List.length_map _
  have e1 : (a.f1.map enc93).length = a.f1.length := List.length_map _
  have e2 : (b.f0.map enc78).length = b.f0.length := List.length_map _
  have e3 : (b.f1.map enc93).length = b.f1.length := List.length_map _
  have hw : IntKind.i64.wrap (IntKind.i64.wrap (IntKind.i64.wrap ((a.f0.length : Int) + (a.f1.length : Int)) + (b.f0.length : Int)) + (b.f1.length : Int)) = ((a.f0.length + a.f1.length + b.f0.length + b.f1.length : Nat) : Int) := by
    rw [IntWalk.i64_in ((a.f0.length : Int) + _) (by omega), IntWalk.i64_in ((a.f0.length : Int) + (a.f1.length : Int) + _) (by omega), IntWalk.i64_in _ (by omega)]; omega
  have h29 := c29 f m h
  unfold encM at h29 ⊢
  conv => whnf
  refine ⟨_, h29, ?_⟩
  conv => whnf
  conv => whnf
  refine ⟨fun w1 => ?_, fun w1 => ?_⟩
  · replace w1 := of_decide_eq_true w1
    conv => whnf
    exact .of rfl
  · replace w1 := of_decide_eq_false w1
    have hz := SzM.of (f := f) (m := m) (by omega)
    have h30 := c30 f m hz
    have h31 := c31 f m hz
    have h34 := c34 f m hz
    unfold encM at h30 h31 h34
    conv => whnf
    refine ⟨fun w2 => ?_, fun w2 => ?_⟩
    · conv => whnf
      exact .of rfl
    · replace w2 := of_decide_eq_false w2
      rw [e0, e1, e2, e3, hw] at w2
      have sa : Sz29 a := ⟨by omega, by omega⟩
      have sb : Sz29 b := ⟨by omega, by omega⟩
      conv => whnf
      refine ⟨_, h30, ?_⟩
      conv => whnf
      conv => whnf
      refine ⟨_, h31, ?_⟩
      conv => whnf
      conv => whnf
      refine ⟨fun w3 => ?_, fun w3 => ?_⟩
      · simp [IntWalk.i64_in] at w3
      · conv => whnf
        refine ⟨_, c32 a b sa sb, ?_⟩
        conv => whnf
        conv => whnf
        refine ⟨_, c33 a b sa.b0 sa.b1, ?_⟩
        conv => whnf
        conv => whnf
        refine ⟨Eq.refl true, ?_⟩
        conv => whnf
        conv => whnf
        refine ⟨fun w4 => ?_, fun w4 => ?_⟩
        · simp [IntWalk.i64_in] at w4
        · replace w4 := eq_of_bne w4
          conv => whnf
          refine ⟨_, h34, ?_⟩
          conv => whnf
          conv => whnf
          refine ⟨fun w5 => ?_, fun w5 => ?_⟩
          · conv => whnf
            conv => whnf
            refine ⟨_, c38, ?_⟩
            conv => whnf
            conv => whnf
            refine ⟨Eq.refl true, ?_⟩
            conv => whnf
            conv => whnf
            exact .of rfl
          · conv => whnf
            obtain ⟨r, F, rfl, ho⟩ := isB_iff.1 (show isB f m = true by simpa using w5)
            have hn := (ho.turn isOrd_ID turns_n (sortL_perm (c := cmpS) f)).sz
            have h36 := c36 ho
            have h37 := c37 ho
            have h35 := (c35 _ _ _ _ hn hn).to (.blit (eqq_y rfl))
            unfold encM at h35 h36 h37
            conv => whnf
            refine ⟨_, h36, ?_⟩
            conv => whnf
            conv => whnf
            refine ⟨_, h37, ?_⟩
            conv => whnf
            conv => whnf
            refine ⟨_, h35, ?_⟩
            conv => whnf
            conv => whnf
            refine ⟨_, c38, ?_⟩
            conv => whnf
            conv => whnf
            refine ⟨Eq.refl true, ?_⟩
            conv => whnf
            conv => whnf
            exact .of rfl
end Go.Ab
