/- DiffOdd: the given law returns true for all arguments, without a panic, and leaves what was there as it was; there is no condition but those that the given row itself names. -/
import Derived.Below
import Derived.ChangeOld
import Derived.OpenShut
import Derived.ProofKit
import Derived.ShutString
import Derived.SizedLaws
import Derived.Test.YtpbembafpnknhaaGreatRows
import Derived.WalkKit
import Derived.Test.YtpbembafpnknhaaGreatAb0
import Derived.Test.YtpbembafpnknhaaGreatAb1
import Derived.Test.YtpbembafpnknhaaGreatAb2
import Derived.Test.YtpbembafpnknhaaGreatAb3
import Derived.Test.YtpbembafpnknhaaGreatAb4
import Derived.Test.YtpbembafpnknhaaGreatAb5
import Derived.Test.YtpbembafpnknhaaGreatAb6
import Derived.Test.YtpbembafpnknhaaGreatAcDiffOdd
set_option linter.unusedVariables false
set_option linter.unusedSimpArgs false
set_option linter.unusedSectionVars false
set_option linter.unnecessarySimpa false
namespace Go.Proofs.YtpbembafpnknhaaGreat.diffOdd
theorem q_inPlace : (Rows.diffOddRow.inPlace == Tryz.pinned.checked.prog.inPlace 26) = true := by kernel_rfl
theorem q_unfollowed : (Rows.diffOddRow.unfollowed == Tryz.pinned.checked.prog.unfollowed 26) = true := by kernel_rfl
theorem q_recurses : (Rows.diffOddRow.recurses == Tryz.pinned.checked.prog.recurses 26) = true := by kernel_rfl
theorem q_named : (Rows.diffOddRow.named == Tryz.pinned.checked.prog.varsNamed 26) = true := by kernel_rfl
theorem q_veiled : (Rows.diffOddRow.veiled == (Tryz.f26.params.toList ++ Rows.diffOddSpec.plain.varTypes Tryz.pinned.checked.prog ++ Tryz.f26.resultTypes.toList).any (Tryz.pinned.checked.prog.veiledRec ·)) = true := by kernel_rfl
theorem facts : joinedFacts Tryz.pinned.checked.prog 26 Tryz.f26 Rows.diffOddSpec Rows.diffOddRow = true := by
  unfold joinedFacts
  rw [q_inPlace, q_unfollowed, q_recurses, q_named, q_veiled, stops_, stopKnobs_, laid_, rowed_, plain_, heard_, mayEnter_, lifts_, make_]
  kernel_rfl
end Go.Proofs.YtpbembafpnknhaaGreat.diffOdd
namespace Go.Proofs.YtpbembafpnknhaaGreat.diffOdd
open Go.ChangeShapes Go.WideShapes Go.ChangeAt Go.RowKit Go.Ab
set_option linter.unusedVariables false
theorem own : ownKnob Tryz.prog.godebug = none := by kernel_rfl
theorem laidOut : laidOutB Tryz.prog = true := by kernel_rfl
set_option maxRecDepth 100000 in
theorem lifted (os : Os) (started : os.Started) (H : Type) (enc : TypeId × Value → H) :
    ReturnsInHanded {} Tryz.checked os 26 .any (Rows.diffOddSpec.pre6 enc Tryz.prog Tryz.f26 Rows.diffOddRow.domain false) (Rows.diffOddSpec.post enc Tryz.prog Tryz.f26 false true false false) := by
  refine returnsInHanded_of_change_sized (C := Tryz.checked) own started (by kernel_rfl) Tryz.func26
    (ChangeSpec.witness6 (enc := enc) (C := Tryz.checked) false ⟨#[], #[.int .i64 0], []⟩ 8 (by kernel_rfl) (by kernel_rfl) (by kernel_rfl) (by kernel_rfl)) ?_
  intro W base args ds gs before hval0 hW hcnd hsz0 _
  have hval : ∀ (j : Nat) t v, Tryz.f26.params[j]? = some t → args[j]? = some v → Value.okWide Tryz.prog W .any base t v := hval0
  have hW' := hW
  obtain ⟨p, q, hA0, hV, rfl, hfz, hnd⟩ := hW
  have hA : DataW.TrodAll enc Tryz.prog W 0 (fun _ => true) true Tryz.f26.params.toList args.toList ds p := hA0
  rw [Tryz.params26] at hA hval
  obtain ⟨v0, vs0, d0, ds0, p0, q0, hargs, rfl, rfl, h0, r0⟩ := trodAll_cons hA
  obtain ⟨rfl, rfl, rfl⟩ := trodAll_nil r0
  obtain rfl : args = #[v0] := by cases args; simp_all
  obtain ⟨rfl, rfl⟩ := trodVars_none hV
  have hw := fun n hn => of_decide_eq_true (List.all_eq_true.1 hsz0 n hn)
  have lt0 : ∀ x ∈ p0, x.block < W.heap.size := by obtain ⟨m, hm⟩ := h0; exact DataW.trod_lt m _ _ _ hm
  have k0 := h0
  obtain ⟨n0, e0⟩ := okWide_int Tryz.underlying3 (hval 0 3 v0 rfl rfl)
  have g0 : VR W no ι0 v0 (.int .i64 n0) := by rw [e0]; exact .pure _ _ (.int _ _)
  clear hA0 hval0 hval
  refine ((c26 n0 ).2 W no #[v0] (fun _ h => h.elim) ⟨rfl, fun j v x h1 h2 => by
    match j with
    | 0 => cases h1; cases h2; exact g0
    | j + 1 => cases h1⟩).mono fun e W' ⟨v, he, hv, adv⟩ => ?_
  subst he
  obtain rfl : v = .bool true := vr_true hv
  have bel := adv.below
  exact ⟨_, rfl, _, _, _, [], _, [], hW', trodAll_mk1 (shut_bool Tryz.underlying4 _), (trodAll_cons_mk (Below.trod laidOut (by kernel_rfl) (of_decide_eq_true (by kernel_rfl)) k0 bel lt0) trodAll_mk0), rfl, bel.frame _, fun h => by cases h⟩
theorem over : Rows.diffOddRow.holds Tryz.pinned (OpenSpec.ofChange Rows.diffOddSpec) :=
  OpenClaim.holds_of_wide 26 Tryz.f26 rfl rfl rfl rfl rfl rfl rfl ⟨rfl, rfl, rfl, rfl, rfl⟩ rfl rfl rfl rfl rfl (by kernel_rfl) Tryz.func26 facts
    (of_decide_eq_true (by kernel_rfl)) (by unfold Func.isWrapper; first | (rw [if_pos (by decide +kernel)]; kernel_rfl) | (rw [if_neg (by decide +kernel)]; exact ⟨rfl, rfl⟩))
    (fun os started H enc _ => lifted os started H enc)
theorem proved : Rows.DiffOddSaid := over
#print axioms proved
end Go.Proofs.YtpbembafpnknhaaGreat.diffOdd
namespace Go.Proofs.YtpbembafpnknhaaGreat
theorem diffOdd_holds : Rows.DiffOddSaid := diffOdd.proved
end Go.Proofs.YtpbembafpnknhaaGreat
