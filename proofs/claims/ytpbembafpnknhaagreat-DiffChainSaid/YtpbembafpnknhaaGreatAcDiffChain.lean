/- Proof texts of one seat, in one file: an evaluator of the program's form, shown sound, and the functions told by it. There are no conditions but those that each theorem names. -/
import Derived.Test.YtpbembafpnknhaaGreatAb0
import Derived.Test.YtpbembafpnknhaaGreatAb1
import Derived.Test.YtpbembafpnknhaaGreatAb2
import Derived.Test.YtpbembafpnknhaaGreatAb3
import Derived.Test.YtpbembafpnknhaaGreatAb4
import Derived.Test.YtpbembafpnknhaaGreatAb5
import Derived.Test.YtpbembafpnknhaaGreatAb6
set_option linter.unusedVariables false
set_option linter.unusedSimpArgs false
set_option linter.unusedSectionVars false
set_option linter.unnecessarySimpa false
namespace Go.Ab
open Go.Proofs Sn
set_option maxRecDepth 100000
set_option linter.unnecessarySimpa false
set_option linter.unusedSimpArgs false
set_option maxHeartbeats 4000000
theorem c28 (f : List ByteArray) (m : List S47) (h : BgM f m) : PCall cx.P 28 [encM f m] (.lit true) := pcall3 Tryz.f28 (by kernel_rfl) (by kernel_rfl) <| by
  have h46 := c46 f m h
  unfold encM at h46 ⊢
  conv => whnf
  refine ⟨_, h46, ?_⟩
  conv => whnf
  conv => whnf
  refine ⟨fun w1 => ?_, fun w1 => ?_⟩
  · conv => whnf
    exact .of rfl
  · replace w1 := of_decide_eq_false w1
    have hz := SzM.of (f := f) (m := m) (by omega)
    have h31 := c31 f m hz
    have h47 := c47 f f m m hz hz
    have h48 := c48 f f m m hz hz
    by_cases hn : IsN f m
    · have h60 := n60n (s := (f, m)) hn
      rw [bP_iff.2 hn] at h31
      replace h31 := h31.to (.blit rfl)
      rw [dfR_y hn hn, show specD f m f m = [] from spec_self (f, m)] at h47 h48
      unfold encM at h31 h47 h48 h60
      conv => whnf
      refine ⟨_, h31, ?_⟩
      conv => whnf
      conv => whnf
      refine ⟨_, h47, ?_⟩
      conv => whnf
      conv => whnf
      refine ⟨_, h60, ?_⟩
      conv => whnf
      conv => whnf
      refine ⟨_, h48, ?_⟩
      conv => whnf
      conv => whnf
      refine ⟨fun w2 => ?_, fun w2 => ?_⟩
      rotate_left
      · exact absurd w2 (by decide)
      conv => whnf
      refine ⟨fun w3 => ?_, fun w3 => ?_⟩
      rotate_left
      · exact absurd w3 (by decide)
      conv => whnf
      refine ⟨fun w4 => ?_, fun w4 => ?_⟩
      rotate_left
      · exact absurd w4 (by decide)
      conv => whnf
      refine ⟨fun w5 => ?_, fun w5 => ?_⟩
      rotate_left
      · exact absurd w5 (by decide)
      conv => whnf
      refine ⟨_, c50, ?_⟩
      conv => whnf
      conv => whnf
      exact .of rfl
    · have h60 := c60 (f, m) [] hz (by decide) fun _ e he => by cases he
      rw [ap_no [] hn] at h60
      replace h60 := h60.by2 .refl .nils
      have hd : dfR f m f m = ([], 7) := by unfold dfR; rw [bP_no.2 hn]; rfl
      rw [bP_no.2 hn] at h31
      replace h31 := h31.to (.blit rfl)
      rw [hd] at h47 h48
      unfold encM at h31 h47 h48 h60
      conv => whnf
      refine ⟨_, h31, ?_⟩
      conv => whnf
      conv => whnf
      refine ⟨_, h47, ?_⟩
      conv => whnf
      conv => whnf
      refine ⟨_, h60, ?_⟩
      conv => whnf
      conv => whnf
      refine ⟨_, h48, ?_⟩
      conv => whnf
      conv => whnf
      refine ⟨fun w2 => ?_, fun w2 => ?_⟩
      rotate_left
      · exact absurd w2 (by decide)
      conv => whnf
      refine ⟨fun w3 => ?_, fun w3 => ?_⟩
      rotate_left
      · exact absurd w3 (by decide)
      conv => whnf
      refine ⟨fun w4 => ?_, fun w4 => ?_⟩
      rotate_left
      · exact absurd w4 (by decide)
      conv => whnf
      refine ⟨fun w5 => ?_, fun w5 => ?_⟩
      rotate_left
      · exact absurd w5 (by decide)
      conv => whnf
      refine ⟨fun w6 => ?_, fun w6 => ?_⟩
      rotate_left
      · exact absurd w6 (by decide)
      conv => whnf
      refine ⟨fun w7 => ?_, fun w7 => ?_⟩
      rotate_left
      · exact absurd w7 (by decide)
      conv => whnf
      refine ⟨fun w8 => ?_, fun w8 => ?_⟩
      rotate_left
      · exact absurd w8 (by decide)
      conv => whnf
      refine ⟨_, c50, ?_⟩
      conv => whnf
      conv => whnf
      exact .of rfl
theorem c27 (f g e : List ByteArray) (m n k : List S47) (h : BgM f m) (h' : BgM g n) (h'' : BgM e k) : PCall cx.P 27 [encM f m, encM g n, encM e k] (.lit true) := pcall3 Tryz.f27 (by kernel_rfl) (by kernel_rfl) <| by
  have h46 := c46 f m h
  have h46' := c46 g n h'
  have h46'' := c46 e k h''
  unfold encM at h46 h46' h46'' ⊢
  conv => whnf
  refine ⟨_, h46, ?_⟩
  conv => whnf
  conv => whnf
  refine ⟨fun w1 => ?_, fun w1 => ?_⟩
  · conv => whnf
    exact .of rfl
  replace w1 := of_decide_eq_false w1
  have hz := SzM.of (f := f) (m := m) (by omega)
  have h34 := c34 f m hz
  unfold encM at h34
  conv => whnf
  refine ⟨_, h46', ?_⟩
  conv => whnf
  conv => whnf
  refine ⟨fun w2 => ?_, fun w2 => ?_⟩
  · conv => whnf
    exact .of rfl
  replace w2 := of_decide_eq_false w2
  have hz' := SzM.of (f := g) (m := n) (by omega)
  have h34' := c34 g n hz'
  unfold encM at h34'
  conv => whnf
  refine ⟨_, h46'', ?_⟩
  conv => whnf
  conv => whnf
  refine ⟨fun w3 => ?_, fun w3 => ?_⟩
  · conv => whnf
    exact .of rfl
  replace w3 := of_decide_eq_false w3
  have hz'' := SzM.of (f := e) (m := k) (by omega)
  have h34'' := c34 e k hz''
  unfold encM at h34''
  conv => whnf
  refine ⟨_, h34, ?_⟩
  conv => whnf
  conv => whnf
  refine ⟨fun w4 => ?_, fun w4 => ?_⟩
  · conv => whnf
    exact .of rfl
  conv => whnf
  refine ⟨_, h34', ?_⟩
  conv => whnf
  conv => whnf
  refine ⟨fun w5 => ?_, fun w5 => ?_⟩
  · conv => whnf
    exact .of rfl
  conv => whnf
  refine ⟨_, h34'', ?_⟩
  conv => whnf
  conv => whnf
  refine ⟨fun w6 => ?_, fun w6 => ?_⟩
  · conv => whnf
    exact .of rfl
  obtain ⟨r, F, rfl, ho⟩ := isB_iff.1 (show isB f m = true by simpa using w4)
  obtain ⟨r', F', rfl, ho'⟩ := isB_iff.1 (show isB g n = true by simpa using w5)
  obtain ⟨r'', F'', rfl, ho''⟩ := isB_iff.1 (show isB e k = true by simpa using w6)
  have hN := nmS_N ho
  have hN' := nmS_N ho'
  have hN'' := nmS_N ho''
  have h37 := n37 ho
  have h37' := n37 ho'
  have h37'' := n37 ho''
  have h47 := n47 hN hN'
  have h47' := n47 hN' hN''
  have h60 := n60 hN hN'
  have h60' := n60 hN' hN''
  have h35 := n35 hN''
  unfold encM at h37 h37' h37'' h47 h47' h60 h60' h35
  conv => whnf
  refine ⟨_, h37, ?_⟩
  conv => whnf
  conv => whnf
  refine ⟨_, h37', ?_⟩
  conv => whnf
  conv => whnf
  refine ⟨_, h37'', ?_⟩
  conv => whnf
  conv => whnf
  refine ⟨by kernel_rfl, ?_⟩
  conv => whnf
  conv => whnf
  refine ⟨_, h47, ?_⟩
  conv => whnf
  conv => whnf
  refine ⟨_, h47', ?_⟩
  conv => whnf
  conv => whnf
  refine ⟨_, h60, ?_⟩
  conv => whnf
  conv => whnf
  refine ⟨_, h60', ?_⟩
  conv => whnf
  conv => whnf
  refine ⟨fun w7 => ?_, fun w7 => ?_⟩
  rotate_left
  · exact absurd w7 (by decide)
  conv => whnf
  refine ⟨fun w8 => ?_, fun w8 => ?_⟩
  rotate_left
  · exact absurd w8 (by decide)
  conv => whnf
  refine ⟨fun w9 => ?_, fun w9 => ?_⟩
  rotate_left
  · exact absurd w9 (by decide)
  conv => whnf
  refine ⟨fun w10 => ?_, fun w10 => ?_⟩
  rotate_left
  · exact absurd w10 (by decide)
  conv => whnf
  refine ⟨_, h35, ?_⟩
  conv => whnf
  conv => whnf
  refine ⟨_, c50, ?_⟩
  conv => whnf
  conv => whnf
  exact .of rfl
end Go.Ab
