/- Proof texts of one seat, in one file: an evaluator of the program's form, shown sound, and the functions told by it. There are no conditions but those that each theorem names. -/
import Derived.Test.YtpbembafpnknhaaGreatAb0
import Derived.Test.YtpbembafpnknhaaGreatAb1
import Derived.Test.YtpbembafpnknhaaGreatAb2
import Derived.Test.YtpbembafpnknhaaGreatAb3
import Derived.Test.YtpbembafpnknhaaGreatAb4
set_option linter.unusedVariables false
set_option linter.unusedSimpArgs false
set_option linter.unusedSectionVars false
set_option linter.unnecessarySimpa false
namespace Go.Ab
open Go.Proofs Sn
set_option maxRecDepth 100000
set_option maxHeartbeats 4000000
def pR : S47 := ⟨⟨#[112]⟩, 1, ⟨#[]⟩, false, 0, [], []⟩
def tR (s : S29) : S47 := ⟨⟨#[116]⟩, 2, ⟨#[112]⟩, false, 0, [s, s], []⟩
theorem tRow (s : S29) : Le (.row 7 [[AV.str ⟨#[112]⟩, .int .i64 1, .str ⟨#[]⟩, .lit false, .int .i64 0, .nils, .nils], [AV.str ⟨#[116]⟩, .int .i64 2, .str ⟨#[112]⟩, .lit false, .int .i64 0, .row 2 [enc29 s, enc29 s], .nils]]) (.row 7 [enc47 pR, enc47 (tR s)]) := .row rfl fun i a b h1 h2 => by
  match i with
  | 0 =>
    cases h1; cases h2
    refine ⟨rfl, fun j x y hx hy => ?_⟩
    match j with
    | 0 => cases hx; cases hy; exact .refl
    | 1 => cases hx; cases hy; exact .refl
    | 2 => cases hx; cases hy; exact .refl
    | 3 => cases hx; cases hy; exact .lit rfl
    | 4 => cases hx; cases hy; exact .refl
    | 5 => cases hx; cases hy; exact .nils
    | 6 => cases hx; cases hy; exact .nils
    | j + 7 => simp at hx
  | 1 =>
    cases h1; cases h2
    refine ⟨rfl, fun j x y hx hy => ?_⟩
    match j with
    | 0 => cases hx; cases hy; exact .refl
    | 1 => cases hx; cases hy; exact .refl
    | 2 => cases hx; cases hy; exact .refl
    | 3 => cases hx; cases hy; exact .lit rfl
    | 4 => cases hx; cases hy; exact .refl
    | 5 => cases hx; cases hy; exact .refl
    | 6 => cases hx; cases hy; exact .nils
    | j + 7 => simp at hx
  | i + 2 => simp at h1
theorem nSes2 (s : S29) : nSes [s, s] = [nSe s] := by
  have h := isCmp_se.self (nSe s)
  show insD cmpSe (nSe s) (insD cmpSe (nSe s) []) = _
  unfold insD insD
  simp [h]
theorem nSes1 (s : S29) : nSes [s] = [nSe s] := rfl
theorem c10 (s : S29) (hs : Bg29 s) : PCall cx.P 10 [.agg (enc29 s)] (.lit true) := pcall Tryz.f10 (by kernel_rfl) (by kernel_rfl) <| by
  obtain ⟨hs0, hs1⟩ := hs
  have e0 : (s.f0.map enc78).length = s.f0.length := List.length_map _
  have e1 : (s.f1.map enc93).length = s.f1.length := List.length_map _
  conv => whnf
  refine ⟨by simpa using by omega, ?_⟩
  conv => whnf
  conv => whnf
  refine ⟨fun w1 => ?_, fun w1 => ?_⟩
  · replace w1 := of_decide_eq_true w1
    conv => whnf
    exact .of rfl
  · replace w1 := of_decide_eq_false w1
    have w1 : ¬ IntKind.i64.wrap (((s.f0.map enc78).length : Int) + ((s.f1.map enc93).length : Int)) > 10 := w1
    rw [e0, e1, IntWalk.i64_in _ (by omega)] at w1
    have hz : Sz29 s := ⟨by omega, by omega⟩
    have hzM : SzM [⟨#[102]⟩] [pR, tR s] := ⟨by decide, show 2 ≤ 1048576 by decide, fun x hx => by
      rcases List.mem_cons.1 hx with rfl | hx
      · exact ⟨⟨by decide, fun _ h => by cases h⟩, by decide, fun _ h => by cases h⟩
      · rw [List.mem_singleton.1 hx]
        exact ⟨⟨show 2 ≤ 1048576 by decide, fun y hy => by
          have : y = s := by rcases List.mem_cons.1 hy with h | h; exact h; exact List.mem_singleton.1 h
          rw [this]; exact hz⟩, show 0 ≤ 1048576 by decide, fun _ h => by cases h⟩⟩
    have h34 : PCall cx.P 34 [.agg [.row 1 [[.str ⟨#[102]⟩]], .row 7 [[AV.str ⟨#[112]⟩, .int .i64 1, .str ⟨#[]⟩, .lit false, .int .i64 0, .nils, .nils], [AV.str ⟨#[116]⟩, .int .i64 2, .str ⟨#[112]⟩, .lit false, .int .i64 0, .row 2 [enc29 s, enc29 s], .nils]]]] (.bool (isB [⟨#[102]⟩] [pR, tR s])) :=
      (c34 _ _ hzM).by1 (.agg2 .refl (tRow s))
    obtain ⟨b, hb⟩ : ∃ b, isB [⟨#[102]⟩] [pR, tR s] = b := ⟨_, rfl⟩
    rw [hb] at h34
    conv => whnf
    refine ⟨by decide, ?_⟩
    conv => whnf
    conv => whnf
    refine ⟨by simpa using by omega, ?_⟩
    conv => whnf
    conv => whnf
    refine ⟨_, h34, ?_⟩
    conv => whnf
    conv => whnf
    refine ⟨fun w2 => ?_, fun w2 => ?_⟩
    · conv => whnf
      exact .of rfl
    · obtain ⟨r, F, e, ho⟩ := isB_iff.1 (hb.trans (by simpa using w2))
      obtain ⟨rfl, rfl⟩ := List.cons.inj e
      have hT : turnT ordID nIt pR [tR s] = [nIt (tR s)] := by
        have h := ho.turn_perm isOrd_ID turns_n
        rw [norm_root ho] at h
        have h2 := (List.perm_cons _).1 (h.trans (show (List.map nIt [pR, tR s]).Perm (pR :: [nIt (tR s)]) by rw [List.map_cons, norm_root ho]; exact .refl _))
        exact List.perm_singleton.1 h2
      have h36 : PCall cx.P 36 [.agg [.row 1 [[.str ⟨#[102]⟩]], .row 7 [[AV.str ⟨#[112]⟩, .int .i64 1, .str ⟨#[]⟩, .lit false, .int .i64 0, .nils, .nils], [AV.str ⟨#[116]⟩, .int .i64 2, .str ⟨#[112]⟩, .lit false, .int .i64 0, .row 2 [enc29 s, enc29 s], .nils]]]] (.agg [.row 1 [[.str ⟨#[102]⟩]], .row 7 [enc47 pR, [AV.str ⟨#[116]⟩, .int .i64 2, .str ⟨#[112]⟩, .bool false, .int .i64 0, .row 2 [enc29 (nSe s)], .row 2 []]]]) := by
        have h := c36 ho
        rw [hT, show nIt (tR s) = ⟨⟨#[116]⟩, 2, ⟨#[112]⟩, false, 0, [nSe s], []⟩ by unfold nIt tR; simp only [nSes2]; rfl] at h
        exact h.by1 (.agg2 .refl (tRow s))
      have h43 : PCall cx.P 43 [.row 2 [enc29 s]] (.row 2 [enc29 (nSe s)]) := c43 [s] (show 1 ≤ 1048576 by decide) fun x hx => by rw [List.mem_singleton.1 hx]; exact hz
      have h32 : PCall cx.P 32 [.agg (enc29 (nSe s)), .agg (enc29 (nSe s))] (.int .i64 0) := (c32 _ _ hz.nSe hz.nSe).to (.int (isCmp_se.self _))
      conv => whnf
      refine ⟨by decide, ?_⟩
      conv => whnf
      conv => whnf
      refine ⟨by simpa using by omega, ?_⟩
      conv => whnf
      conv => whnf
      refine ⟨_, h36, ?_⟩
      conv => whnf
      conv => whnf
      refine ⟨fun w3 => ?_, fun w3 => ?_⟩
      · replace w3 := of_decide_eq_true w3
        conv => whnf
        refine ⟨⟨Int.natCast_nonneg _, by omega⟩, ?_⟩
        conv => whnf
        conv => whnf
        refine ⟨_, rfl, ?_⟩
        conv => whnf
        conv => whnf
        refine ⟨fun w4 => ?_, fun w4 => ?_⟩
        · replace w4 := of_decide_eq_true w4
          conv => whnf
          refine ⟨⟨Int.natCast_nonneg _, by omega⟩, ?_⟩
          conv => whnf
          conv => whnf
          refine ⟨_, rfl, ?_⟩
          conv => whnf
          conv => whnf
          refine ⟨⟨Int.natCast_nonneg _, by omega⟩, ?_⟩
          conv => whnf
          conv => whnf
          refine ⟨_, rfl, ?_⟩
          conv => whnf
          conv => whnf
          refine ⟨by simpa using by omega, ?_⟩
          conv => whnf
          conv => whnf
          refine ⟨_, h43, ?_⟩
          conv => whnf
          conv => whnf
          refine ⟨⟨Int.natCast_nonneg _, by omega⟩, ?_⟩
          conv => whnf
          conv => whnf
          refine ⟨_, rfl, ?_⟩
          conv => whnf
          conv => whnf
          refine ⟨_, h32, ?_⟩
          conv => whnf
          conv => whnf
          refine ⟨fun w5 => ?_, fun w5 => ?_⟩
          · replace w5 := of_decide_eq_true w5
            conv => whnf
            refine ⟨_, c38, ?_⟩
            conv => whnf
            refine ⟨by kernel_rfl, ?_⟩
            exact Le.of rfl
          · cases w5
        · cases w4
      · cases w3
end Go.Ab
