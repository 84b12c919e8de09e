/- NormRuns: the given law returns true for all arguments, without a panic, and leaves what was there as it was; there is no condition but those that the given row itself names. -/
import Derived.Below
import Derived.ChangeOld
import Derived.OpenShut
import Derived.ProofKit
import Derived.ShutString
import Derived.SizedLaws
import Derived.Test.YtpbembafpnknhaaGreatRows
import Derived.WalkKit
import Derived.Test.YtpbembafpnknhaaGreatAb0
import Derived.Test.YtpbembafpnknhaaGreatAb1
import Derived.Test.YtpbembafpnknhaaGreatAb2
import Derived.Test.YtpbembafpnknhaaGreatAb3
import Derived.Test.YtpbembafpnknhaaGreatAb4
import Derived.Test.YtpbembafpnknhaaGreatAcNormRuns
import Derived.Test.YtpbembafpnknhaaGreatAcNormRuns1
set_option linter.unusedVariables false
set_option linter.unusedSimpArgs false
set_option linter.unusedSectionVars false
set_option linter.unnecessarySimpa false
namespace Go.Proofs.YtpbembafpnknhaaGreat.normRuns
theorem q_inPlace : (Rows.normRunsRow.inPlace == Tryz.pinned.checked.prog.inPlace 6) = true := by kernel_rfl
theorem q_unfollowed : (Rows.normRunsRow.unfollowed == Tryz.pinned.checked.prog.unfollowed 6) = true := by kernel_rfl
theorem q_recurses : (Rows.normRunsRow.recurses == Tryz.pinned.checked.prog.recurses 6) = true := by kernel_rfl
theorem q_named : (Rows.normRunsRow.named == Tryz.pinned.checked.prog.varsNamed 6) = true := by kernel_rfl
theorem q_veiled : (Rows.normRunsRow.veiled == (Tryz.f6.params.toList ++ Rows.normRunsSpec.plain.varTypes Tryz.pinned.checked.prog ++ Tryz.f6.resultTypes.toList).any (Tryz.pinned.checked.prog.veiledRec ·)) = true := by kernel_rfl
theorem facts : joinedFacts Tryz.pinned.checked.prog 6 Tryz.f6 Rows.normRunsSpec Rows.normRunsRow = true := by
  unfold joinedFacts
  rw [q_inPlace, q_unfollowed, q_recurses, q_named, q_veiled, stops_, stopKnobs_, laid_, rowed_, plain_, heard_, mayEnter_, lifts_, make_]
  kernel_rfl
end Go.Proofs.YtpbembafpnknhaaGreat.normRuns
namespace Go.Proofs.YtpbembafpnknhaaGreat.normRuns
open Go.ChangeShapes Go.WideShapes Go.ChangeAt Go.RowKit Go.Ab
set_option linter.unusedVariables false
theorem own : ownKnob Tryz.prog.godebug = none := by kernel_rfl
theorem laidOut : laidOutB Tryz.prog = true := by kernel_rfl
set_option maxRecDepth 100000 in
theorem lifted (os : Os) (started : os.Started) (H : Type) (enc : TypeId × Value → H) :
    ReturnsInHanded {} Tryz.checked os 6 .any (Rows.normRunsSpec.pre6 enc Tryz.prog Tryz.f6 Rows.normRunsRow.domain false) (Rows.normRunsSpec.post enc Tryz.prog Tryz.f6 false true false false) := by
  refine returnsInHanded_of_change_sized (C := Tryz.checked) own started (by kernel_rfl) Tryz.func6
    (ChangeSpec.witness6 (enc := enc) (C := Tryz.checked) false ⟨#[], #[.agg #[.slice none 0 0, .slice none 0 0], .slice none 0 0], []⟩ 8 (by kernel_rfl) (by kernel_rfl) (by kernel_rfl) (by kernel_rfl)) ?_
  intro W base args ds gs before hval0 hW hcnd hsz0 _
  have hval : ∀ (j : Nat) t v, Tryz.f6.params[j]? = some t → args[j]? = some v → Value.okWide Tryz.prog W .any base t v := hval0
  have hW' := hW
  obtain ⟨p, q, hA0, hV, rfl, hfz, hnd⟩ := hW
  have hA : DataW.TrodAll enc Tryz.prog W 0 (fun _ => true) true Tryz.f6.params.toList args.toList ds p := hA0
  rw [Tryz.params6] at hA hval
  obtain ⟨v0, vs0, d0, ds0, p0, q0, hargs, rfl, rfl, h0, r0⟩ := trodAll_cons hA
  obtain ⟨v1, vs1, d1, ds1, p1, q1, rfl, rfl, rfl, h1, r1⟩ := trodAll_cons r0
  obtain ⟨rfl, rfl, rfl⟩ := trodAll_nil r1
  obtain rfl : args = #[v0, v1] := by cases args; simp_all
  obtain ⟨rfl, rfl⟩ := trodVars_none hV
  have hw := fun n hn => of_decide_eq_true (List.all_eq_true.1 hsz0 n hn)
  have lt0 : ∀ x ∈ p0, x.block < W.heap.size := by obtain ⟨m, hm⟩ := h0; exact DataW.trod_lt m _ _ _ hm
  have k0 := h0
  obtain ⟨f0, m0, w0, g0⟩ := arg25 h0 (wEach hw 0 25 d0 (by kernel_rfl) rfl)
  have lt1 : ∀ x ∈ p1, x.block < W.heap.size := by obtain ⟨m, hm⟩ := h1; exact DataW.trod_lt m _ _ _ hm
  have k1 := h1
  obtain ⟨l1, w1, g1⟩ := arg37 (hval 1 37 v1 rfl rfl) h1 (wEach hw 1 37 d1 (by kernel_rfl) rfl)
  clear hA0 hval0 hval
  refine ((c6 f0 m0 l1 w0 w1).2 W no #[v0, v1] (fun _ h => h.elim) ⟨rfl, fun j v x h1 h2 => by
    match j with
    | 0 => cases h1; cases h2; exact g0
    | 1 => cases h1; cases h2; exact g1
    | j + 2 => cases h1⟩).mono fun e W' ⟨v, he, hv, adv⟩ => ?_
  subst he
  obtain rfl : v = .bool true := vr_true hv
  have bel := adv.below
  exact ⟨_, rfl, _, _, _, [], _, [], hW', trodAll_mk1 (shut_bool Tryz.underlying4 _), (trodAll_cons_mk (Below.trod laidOut (by kernel_rfl) (of_decide_eq_true (by kernel_rfl)) k0 bel lt0) (trodAll_cons_mk (Below.trod laidOut (by kernel_rfl) (of_decide_eq_true (by kernel_rfl)) k1 bel lt1) trodAll_mk0)), rfl, bel.frame _, fun h => by cases h⟩
theorem over : Rows.normRunsRow.holds Tryz.pinned (OpenSpec.ofChange Rows.normRunsSpec) :=
  OpenClaim.holds_of_wide 6 Tryz.f6 rfl rfl rfl rfl rfl rfl rfl ⟨rfl, rfl, rfl, rfl, rfl⟩ rfl rfl rfl rfl rfl (by kernel_rfl) Tryz.func6 facts
    (of_decide_eq_true (by kernel_rfl)) (by unfold Func.isWrapper; first | (rw [if_pos (by decide +kernel)]; kernel_rfl) | (rw [if_neg (by decide +kernel)]; exact ⟨rfl, rfl⟩))
    (fun os started H enc _ => lifted os started H enc)
theorem proved : Rows.NormRunsSaid := over
#print axioms proved
end Go.Proofs.YtpbembafpnknhaaGreat.normRuns
namespace Go.Proofs.YtpbembafpnknhaaGreat
theorem normRuns_holds : Rows.NormRunsSaid := normRuns.proved
end Go.Proofs.YtpbembafpnknhaaGreat
