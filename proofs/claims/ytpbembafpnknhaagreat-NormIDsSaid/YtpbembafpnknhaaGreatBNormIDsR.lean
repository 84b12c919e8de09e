/- NormIDs: the given law returns true for all arguments, without a panic, and leaves what was there as it was; there is no condition but those that the given row itself names. Written by wip/gen_o2.py after the kit's print's own rows. -/
import Derived.Test.YtpbembafpnknhaaGreatBNormIDs0
import Derived.Test.YtpbembafpnknhaaGreatBNormIDs1
import Derived.Test.YtpbembafpnknhaaGreatBNormIDs2
import Derived.Test.YtpbembafpnknhaaGreatBNormIDs3
import Derived.Test.YtpbembafpnknhaaGreatBNormIDs4
import Derived.Test.YtpbembafpnknhaaGreatBNormIDs5
import Derived.Test.YtpbembafpnknhaaGreatBNormIDs6
import Derived.Test.YtpbembafpnknhaaGreatBNormIDs7
import Derived.Test.YtpbembafpnknhaaGreatBNormIDs8
import Derived.Test.YtpbembafpnknhaaGreatBNormIDs9
import Derived.Test.YtpbembafpnknhaaGreatBNormIDs10
import Derived.Test.YtpbembafpnknhaaGreatBNormIDs11
import Derived.Test.YtpbembafpnknhaaGreatBNormIDs12
import Derived.Test.YtpbembafpnknhaaGreatBNormIDs13
import Derived.Test.YtpbembafpnknhaaGreatBNormIDs14
import Derived.Test.YtpbembafpnknhaaGreatBNormIDs15
import Derived.Test.YtpbembafpnknhaaGreatBNormIDs16
import Derived.Test.YtpbembafpnknhaaGreatRows
import Derived.WalkKit
import Derived.ProofKit
import Derived.OpenShut
import Derived.ShutString
import Derived.ChangeOld
import Derived.Below
import Derived.SizedLaws
namespace Go.Proofs.YtpbembafpnknhaaGreat.normIDs
open Go.ChangeShapes Go.WideShapes Go.ChangeAt Go.RowKit
set_option linter.unusedVariables false
theorem own : ownKnob Tryz.prog.godebug = none := by kernel_rfl
theorem laidOut : laidOutB Tryz.prog = true := by kernel_rfl
set_option maxRecDepth 100000 in
theorem lifted (os : Os) (started : os.Started) (H : Type) (enc : TypeId × Value → H) :
    ReturnsInHanded {} Tryz.checked os 11 .any (Rows.normIDsSpec.pre6 enc Tryz.prog Tryz.f11 Rows.normIDsRow.domain false) (Rows.normIDsSpec.post enc Tryz.prog Tryz.f11 false true false false) := by
  refine returnsInHanded_of_change_sized (C := Tryz.checked) own started (by kernel_rfl) Tryz.func11
    (ChangeSpec.witness6 (enc := enc) (C := Tryz.checked) false ⟨#[], #[.agg #[.slice none 0 0, .slice none 0 0]], []⟩ 8 (by kernel_rfl) (by kernel_rfl) (by kernel_rfl) (by kernel_rfl)) ?_
  intro W base args ds gs before hval0 hW hcnd hsz0 _
  have hval : ∀ (j : Nat) t v, Tryz.f11.params[j]? = some t → args[j]? = some v → Value.okWide Tryz.prog W .any base t v := hval0
  have hW' := hW
  obtain ⟨p, q, hA0, hV, rfl, hfz, hnd⟩ := hW
  have hA : DataW.TrodAll enc Tryz.prog W 0 (fun _ => true) true Tryz.f11.params.toList args.toList ds p := hA0
  rw [Tryz.params11] at hA hval
  obtain ⟨v0, vs0, d0, ds0, p0, q0, hargs, rfl, rfl, h0, r0⟩ := trodAll_cons hA
  obtain ⟨rfl, rfl, rfl⟩ := trodAll_nil r0
  obtain rfl : args = #[v0] := by cases args; simp_all
  obtain ⟨rfl, rfl⟩ := trodVars_none hV
  have lt0 : ∀ x ∈ p0, x.block < W.heap.size := by obtain ⟨m, hm⟩ := h0; exact DataW.trod_lt m _ _ _ hm
  have k0 := h0
  obtain ⟨y0, w0⟩ := Pr.arg25 h0
  clear hA0 hval0 hsz0 hval
  refine (Pr.lawNormIDs y0 w0).mono fun e W' ⟨he, bel⟩ => ?_
  subst he
  exact ⟨_, rfl, _, _, _, [], _, [], hW', trodAll_mk1 (shut_bool Tryz.underlying4 _), (trodAll_cons_mk (Below.trod laidOut (by kernel_rfl) (of_decide_eq_true (by kernel_rfl)) k0 bel lt0) trodAll_mk0), rfl, bel.frame _, fun h => by cases h⟩
theorem over : Rows.normIDsRow.holds Tryz.pinned (OpenSpec.ofChange Rows.normIDsSpec) :=
  OpenClaim.holds_of_wide 11 Tryz.f11 rfl rfl rfl rfl rfl rfl rfl ⟨rfl, rfl, rfl, rfl, rfl⟩ rfl rfl rfl rfl rfl (by kernel_rfl) Tryz.func11 facts
    (of_decide_eq_true (by kernel_rfl)) (by unfold Func.isWrapper; first | (rw [if_pos (by decide +kernel)]; kernel_rfl) | (rw [if_neg (by decide +kernel)]; exact ⟨rfl, rfl⟩))
    (fun os started H enc _ => lifted os started H enc)
theorem proved : Rows.NormIDsSaid := over
#print axioms proved
end Go.Proofs.YtpbembafpnknhaaGreat.normIDs
namespace Go.Proofs.YtpbembafpnknhaaGreat
/-- The row, under a short name, for the claim. -/
theorem normIDs_holds : Rows.NormIDsSaid := normIDs.proved
end Go.Proofs.YtpbembafpnknhaaGreat
