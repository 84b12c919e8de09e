/- Proof texts of one seat, in one file: an evaluator of the program's form, shown sound, and the functions told by it. There are no conditions but those that each theorem names. -/
import Derived.Test.YtpbembafpnknhaaGreatAb0
import Derived.Test.YtpbembafpnknhaaGreatAb1
import Derived.Test.YtpbembafpnknhaaGreatAb2
import Derived.Test.YtpbembafpnknhaaGreatAb3
import Derived.Test.YtpbembafpnknhaaGreatAb4
set_option linter.unusedVariables false
set_option linter.unusedSimpArgs false
set_option linter.unusedSectionVars false
set_option linter.unnecessarySimpa false
namespace Go.Ab
open Go.Proofs Sn
set_option maxRecDepth 100000
set_option maxHeartbeats 4000000
theorem c9 (f g : List ByteArray) (m n : List S47) (h : BgM f m) (h' : BgM g n) : PCall cx.P 9 [encM f m, encM g n] (.lit true) := pcall Tryz.f9 (by kernel_rfl) (by kernel_rfl) <| by
  have h29 := c29 f m h
  have h29' := c29 g n h'
  unfold encM at h29 h29' ⊢
  conv => whnf
  refine ⟨_, h29, ?_⟩
  conv => whnf
  conv => whnf
  refine ⟨fun w1 => ?_, fun w1 => ?_⟩
  · replace w1 := of_decide_eq_true w1
    conv => whnf
    exact .of rfl
  · replace w1 := of_decide_eq_false w1
    conv => whnf
    refine ⟨_, h29', ?_⟩
    conv => whnf
    conv => whnf
    refine ⟨fun w2 => ?_, fun w2 => ?_⟩
    · replace w2 := of_decide_eq_true w2
      conv => whnf
      exact .of rfl
    · replace w2 := of_decide_eq_false w2
      have hz := SzM.of (f := f) (m := m) (by omega)
      have hz' := SzM.of (f := g) (m := n) (by omega)
      have h34 := c34 f m hz
      have h34' := c34 g n hz'
      unfold encM at h34 h34'
      conv => whnf
      refine ⟨_, h34, ?_⟩
      conv => whnf
      conv => whnf
      refine ⟨fun w3 => ?_, fun w3 => ?_⟩
      · conv => whnf
        exact .of rfl
      · conv => whnf
        refine ⟨_, h34', ?_⟩
        conv => whnf
        conv => whnf
        refine ⟨fun w4 => ?_, fun w4 => ?_⟩
        · conv => whnf
          exact .of rfl
        · obtain ⟨r, F, rfl, ho⟩ := isB_iff.1 (show isB f m = true by simpa using w3)
          obtain ⟨r', F', rfl, ho'⟩ := isB_iff.1 (show isB g n = true by simpa using w4)
          have hn := (ho.turn isOrd_ID turns_n (sortL_perm (c := cmpS) f)).sz
          have hn' := (ho'.turn isOrd_ID turns_n (sortL_perm (c := cmpS) g)).sz
          have h36 := c36 ho
          have h37 := c37 ho
          have h36' := c36 ho'
          have h37' := c37 ho'
          have h35 := c35 _ _ _ _ hn hn'
          unfold encM at h35 h36 h37 h36' h37'
          conv => whnf
          refine ⟨_, h36, ?_⟩
          conv => whnf
          conv => whnf
          refine ⟨_, h36', ?_⟩
          conv => whnf
          conv => whnf
          refine ⟨Eq.refl true, ?_⟩
          conv => whnf
          conv => whnf
          refine ⟨_, h35, ?_⟩
          conv => whnf
          conv => whnf
          refine ⟨_, h37, ?_⟩
          conv => whnf
          conv => whnf
          refine ⟨_, h37', ?_⟩
          conv => whnf
          conv => whnf
          refine ⟨_, h35, ?_⟩
          conv => whnf
          conv => whnf
          refine ⟨fun w5 => ?_, fun w5 => ?_⟩
          · replace w5 := of_decide_eq_true w5
            conv => whnf
            refine ⟨_, c38, ?_⟩
            conv => whnf
            conv => whnf
            refine ⟨Eq.refl true, ?_⟩
            conv => whnf
            conv => whnf
            exact .of rfl
          · simp [IntWalk.i64_in] at w5
end Go.Ab
