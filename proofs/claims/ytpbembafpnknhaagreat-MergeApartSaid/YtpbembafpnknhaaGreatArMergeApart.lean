/- MergeApart: the given law returns true for all arguments, without a panic, and leaves what was there as it was; there is no condition but those that the given row itself names. -/
import Derived.Below
import Derived.ChangeOld
import Derived.OpenShut
import Derived.ProofKit
import Derived.ShutString
import Derived.SizedLaws
import Derived.Test.YtpbembafpnknhaaGreatRows
import Derived.WalkKit
import Derived.Test.YtpbembafpnknhaaGreatAb0
import Derived.Test.YtpbembafpnknhaaGreatAb1
import Derived.Test.YtpbembafpnknhaaGreatAb2
import Derived.Test.YtpbembafpnknhaaGreatAb3
import Derived.Test.YtpbembafpnknhaaGreatAb4
import Derived.Test.YtpbembafpnknhaaGreatAb5
import Derived.Test.YtpbembafpnknhaaGreatAb6
import Derived.Test.YtpbembafpnknhaaGreatAcMergeApart
set_option linter.unusedVariables false
set_option linter.unusedSimpArgs false
set_option linter.unusedSectionVars false
set_option linter.unnecessarySimpa false
namespace Go.Proofs.YtpbembafpnknhaaGreat.mergeApart
theorem q_inPlace : (Rows.mergeApartRow.inPlace == Tryz.pinned.checked.prog.inPlace 20) = true := by kernel_rfl
theorem q_unfollowed : (Rows.mergeApartRow.unfollowed == Tryz.pinned.checked.prog.unfollowed 20) = true := by kernel_rfl
theorem q_recurses : (Rows.mergeApartRow.recurses == Tryz.pinned.checked.prog.recurses 20) = true := by kernel_rfl
theorem q_named : (Rows.mergeApartRow.named == Tryz.pinned.checked.prog.varsNamed 20) = true := by kernel_rfl
theorem q_veiled : (Rows.mergeApartRow.veiled == (Tryz.f20.params.toList ++ Rows.mergeApartSpec.plain.varTypes Tryz.pinned.checked.prog ++ Tryz.f20.resultTypes.toList).any (Tryz.pinned.checked.prog.veiledRec ·)) = true := by kernel_rfl
theorem facts : joinedFacts Tryz.pinned.checked.prog 20 Tryz.f20 Rows.mergeApartSpec Rows.mergeApartRow = true := by
  unfold joinedFacts
  rw [q_inPlace, q_unfollowed, q_recurses, q_named, q_veiled, stops_, stopKnobs_, laid_, rowed_, plain_, heard_, mayEnter_, lifts_, make_]
  kernel_rfl
end Go.Proofs.YtpbembafpnknhaaGreat.mergeApart
namespace Go.Proofs.YtpbembafpnknhaaGreat.mergeApart
open Go.ChangeShapes Go.WideShapes Go.ChangeAt Go.RowKit Go.Ab
set_option linter.unusedVariables false
theorem own : ownKnob Tryz.prog.godebug = none := by kernel_rfl
theorem laidOut : laidOutB Tryz.prog = true := by kernel_rfl
set_option maxRecDepth 100000 in
theorem lifted (os : Os) (started : os.Started) (H : Type) (enc : TypeId × Value → H) :
    ReturnsInHanded {} Tryz.checked os 20 .any (Rows.mergeApartSpec.pre6 enc Tryz.prog Tryz.f20 Rows.mergeApartRow.domain false) (Rows.mergeApartSpec.post enc Tryz.prog Tryz.f20 false true false false) := by
  refine returnsInHanded_of_change_sized (C := Tryz.checked) own started (by kernel_rfl) Tryz.func20
    (ChangeSpec.witness6 (enc := enc) (C := Tryz.checked) false ⟨#[], #[.bool false, .bool false], []⟩ 8 (by kernel_rfl) (by kernel_rfl) (by kernel_rfl) (by kernel_rfl)) ?_
  intro W base args ds gs before hval0 hW hcnd hsz0 _
  have hval : ∀ (j : Nat) t v, Tryz.f20.params[j]? = some t → args[j]? = some v → Value.okWide Tryz.prog W .any base t v := hval0
  have hW' := hW
  obtain ⟨p, q, hA0, hV, rfl, hfz, hnd⟩ := hW
  have hA : DataW.TrodAll enc Tryz.prog W 0 (fun _ => true) true Tryz.f20.params.toList args.toList ds p := hA0
  rw [Tryz.params20] at hA hval
  obtain ⟨v0, vs0, d0, ds0, p0, q0, hargs, rfl, rfl, h0, r0⟩ := trodAll_cons hA
  obtain ⟨v1, vs1, d1, ds1, p1, q1, rfl, rfl, rfl, h1, r1⟩ := trodAll_cons r0
  obtain ⟨rfl, rfl, rfl⟩ := trodAll_nil r1
  obtain rfl : args = #[v0, v1] := by cases args; simp_all
  obtain ⟨rfl, rfl⟩ := trodVars_none hV
  have hw := fun n hn => of_decide_eq_true (List.all_eq_true.1 hsz0 n hn)
  have lt0 : ∀ x ∈ p0, x.block < W.heap.size := by obtain ⟨m, hm⟩ := h0; exact DataW.trod_lt m _ _ _ hm
  have k0 := h0
  obtain ⟨n0, e0⟩ := okWide_bool Tryz.underlying4 (hval 0 4 v0 rfl rfl)
  have g0 : VR W no ι0 v0 (.bool n0) := by rw [e0]; exact .pure _ _ (.bool _)
  have lt1 : ∀ x ∈ p1, x.block < W.heap.size := by obtain ⟨m, hm⟩ := h1; exact DataW.trod_lt m _ _ _ hm
  have k1 := h1
  obtain ⟨n1, e1⟩ := okWide_bool Tryz.underlying4 (hval 1 4 v1 rfl rfl)
  have g1 : VR W no ι0 v1 (.bool n1) := by rw [e1]; exact .pure _ _ (.bool _)
  clear hA0 hval0 hval
  refine ((c20 n0 n1 ).2 W no #[v0, v1] (fun _ h => h.elim) ⟨rfl, fun j v x h1 h2 => by
    match j with
    | 0 => cases h1; cases h2; exact g0
    | 1 => cases h1; cases h2; exact g1
    | j + 2 => cases h1⟩).mono fun e W' ⟨v, he, hv, adv⟩ => ?_
  subst he
  obtain rfl : v = .bool true := vr_true hv
  have bel := adv.below
  exact ⟨_, rfl, _, _, _, [], _, [], hW', trodAll_mk1 (shut_bool Tryz.underlying4 _), (trodAll_cons_mk (Below.trod laidOut (by kernel_rfl) (of_decide_eq_true (by kernel_rfl)) k0 bel lt0) (trodAll_cons_mk (Below.trod laidOut (by kernel_rfl) (of_decide_eq_true (by kernel_rfl)) k1 bel lt1) trodAll_mk0)), rfl, bel.frame _, fun h => by cases h⟩
theorem over : Rows.mergeApartRow.holds Tryz.pinned (OpenSpec.ofChange Rows.mergeApartSpec) :=
  OpenClaim.holds_of_wide 20 Tryz.f20 rfl rfl rfl rfl rfl rfl rfl ⟨rfl, rfl, rfl, rfl, rfl⟩ rfl rfl rfl rfl rfl (by kernel_rfl) Tryz.func20 facts
    (of_decide_eq_true (by kernel_rfl)) (by unfold Func.isWrapper; first | (rw [if_pos (by decide +kernel)]; kernel_rfl) | (rw [if_neg (by decide +kernel)]; exact ⟨rfl, rfl⟩))
    (fun os started H enc _ => lifted os started H enc)
theorem proved : Rows.MergeApartSaid := over
#print axioms proved
end Go.Proofs.YtpbembafpnknhaaGreat.mergeApart
namespace Go.Proofs.YtpbembafpnknhaaGreat
theorem mergeApart_holds : Rows.MergeApartSaid := mergeApart.proved
end Go.Proofs.YtpbembafpnknhaaGreat
