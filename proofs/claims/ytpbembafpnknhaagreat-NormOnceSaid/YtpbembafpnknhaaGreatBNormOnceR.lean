/- NormOnce: the given law returns true for all arguments, without a panic, and leaves what was there as it was; there is no condition but those that the given row itself names. Written by wip/gen_o2.py after the kit's print's own rows. -/
import Derived.Test.YtpbembafpnknhaaGreatBNormOnce0
import Derived.Test.YtpbembafpnknhaaGreatBNormOnce1
import Derived.Test.YtpbembafpnknhaaGreatBNormOnce2
import Derived.Test.YtpbembafpnknhaaGreatBNormOnce3
import Derived.Test.YtpbembafpnknhaaGreatBNormOnce4
import Derived.Test.YtpbembafpnknhaaGreatBNormOnce5
import Derived.Test.YtpbembafpnknhaaGreatBNormOnce6
import Derived.Test.YtpbembafpnknhaaGreatBNormOnce7
import Derived.Test.YtpbembafpnknhaaGreatBNormOnce8
import Derived.Test.YtpbembafpnknhaaGreatBNormOnce9
import Derived.Test.YtpbembafpnknhaaGreatBNormOnce10
import Derived.Test.YtpbembafpnknhaaGreatBNormOnce11
import Derived.Test.YtpbembafpnknhaaGreatBNormOnce12
import Derived.Test.YtpbembafpnknhaaGreatBNormOnce13
import Derived.Test.YtpbembafpnknhaaGreatBNormOnce14
import Derived.Test.YtpbembafpnknhaaGreatBNormOnce15
import Derived.Test.YtpbembafpnknhaaGreatBNormOnce16
import Derived.Test.YtpbembafpnknhaaGreatRows
import Derived.WalkKit
import Derived.ProofKit
import Derived.OpenShut
import Derived.ShutString
import Derived.ChangeOld
import Derived.Below
import Derived.SizedLaws
namespace Go.Proofs.YtpbembafpnknhaaGreat.normOnce
open Go.ChangeShapes Go.WideShapes Go.ChangeAt Go.RowKit
set_option linter.unusedVariables false
theorem own : ownKnob Tryz.prog.godebug = none := by kernel_rfl
theorem laidOut : laidOutB Tryz.prog = true := by kernel_rfl
set_option maxRecDepth 100000 in
theorem lifted (os : Os) (started : os.Started) (H : Type) (enc : TypeId × Value → H) :
    ReturnsInHanded {} Tryz.checked os 4 .any (Rows.normOnceSpec.pre6 enc Tryz.prog Tryz.f4 Rows.normOnceRow.domain false) (Rows.normOnceSpec.post enc Tryz.prog Tryz.f4 false true false false) := by
  refine returnsInHanded_of_change_sized (C := Tryz.checked) own started (by kernel_rfl) Tryz.func4
    (ChangeSpec.witness6 (enc := enc) (C := Tryz.checked) false ⟨#[], #[.agg #[.slice none 0 0, .slice none 0 0]], []⟩ 8 (by kernel_rfl) (by kernel_rfl) (by kernel_rfl) (by kernel_rfl)) ?_
  intro W base args ds gs before hval0 hW hcnd hsz0 _
  have hval : ∀ (j : Nat) t v, Tryz.f4.params[j]? = some t → args[j]? = some v → Value.okWide Tryz.prog W .any base t v := hval0
  have hW' := hW
  obtain ⟨p, q, hA0, hV, rfl, hfz, hnd⟩ := hW
  have hA : DataW.TrodAll enc Tryz.prog W 0 (fun _ => true) true Tryz.f4.params.toList args.toList ds p := hA0
  rw [Tryz.params4] at hA hval
  obtain ⟨v0, vs0, d0, ds0, p0, q0, hargs, rfl, rfl, h0, r0⟩ := trodAll_cons hA
  obtain ⟨rfl, rfl, rfl⟩ := trodAll_nil r0
  obtain rfl : args = #[v0] := by cases args; simp_all
  obtain ⟨rfl, rfl⟩ := trodVars_none hV
  have lt0 : ∀ x ∈ p0, x.block < W.heap.size := by obtain ⟨m, hm⟩ := h0; exact DataW.trod_lt m _ _ _ hm
  have k0 := h0
  obtain ⟨y0, w0⟩ := Pr.arg25 h0
  clear hA0 hval0 hsz0 hval
  refine (Pr.lawNormOnce y0 w0).mono fun e W' ⟨he, bel⟩ => ?_
  subst he
  exact ⟨_, rfl, _, _, _, [], _, [], hW', trodAll_mk1 (shut_bool Tryz.underlying4 _), (trodAll_cons_mk (Below.trod laidOut (by kernel_rfl) (of_decide_eq_true (by kernel_rfl)) k0 bel lt0) trodAll_mk0), rfl, bel.frame _, fun h => by cases h⟩
theorem over : Rows.normOnceRow.holds Tryz.pinned (OpenSpec.ofChange Rows.normOnceSpec) :=
  OpenClaim.holds_of_wide 4 Tryz.f4 rfl rfl rfl rfl rfl rfl rfl ⟨rfl, rfl, rfl, rfl, rfl⟩ rfl rfl rfl rfl rfl (by kernel_rfl) Tryz.func4 facts
    (of_decide_eq_true (by kernel_rfl)) (by unfold Func.isWrapper; first | (rw [if_pos (by decide +kernel)]; kernel_rfl) | (rw [if_neg (by decide +kernel)]; exact ⟨rfl, rfl⟩))
    (fun os started H enc _ => lifted os started H enc)
theorem proved : Rows.NormOnceSaid := over
#print axioms proved
end Go.Proofs.YtpbembafpnknhaaGreat.normOnce
namespace Go.Proofs.YtpbembafpnknhaaGreat
/-- The row, under a short name, for the claim. -/
theorem normOnce_holds : Rows.NormOnceSaid := normOnce.proved
end Go.Proofs.YtpbembafpnknhaaGreat
