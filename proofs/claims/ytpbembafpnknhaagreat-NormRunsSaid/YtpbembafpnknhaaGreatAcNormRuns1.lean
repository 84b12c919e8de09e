/- Proof texts of one seat, in one file: an evaluator of the program's form, shown sound, and the functions told by it. There are no conditions but those that each theorem names. -/
import Derived.Test.YtpbembafpnknhaaGreatAb0
import Derived.Test.YtpbembafpnknhaaGreatAb1
import Derived.Test.YtpbembafpnknhaaGreatAb2
import Derived.Test.YtpbembafpnknhaaGreatAb3
import Derived.Test.YtpbembafpnknhaaGreatAb4
import Derived.Test.YtpbembafpnknhaaGreatAcNormRuns
set_option linter.unusedVariables false
set_option linter.unusedSimpArgs false
set_option linter.unusedSectionVars false
set_option linter.unnecessarySimpa false
namespace Go.Ab
open Go.Proofs Sn
set_option maxRecDepth 100000
set_option linter.unnecessarySimpa false
set_option linter.unusedSimpArgs false
set_option linter.unusedVariables false
set_option maxHeartbeats 40000000
theorem c6ok {f : List ByteArray} {r : S47} {F : List S47} (h : Ok f r F) {m : List S47} (hm : m = r :: F) (l : List S43) (hb : BgM f m) (hh : totM f m < 400) (hl : l.length ≤ 60) : PCall cx.P 6 [encM f m, .row 5 (l.map enc43)] (.lit true) := pcallB byR Tryz.f6 (by kernel_rfl) (by kernel_rfl) <| by
  have hM : MdOk f m r := hm ▸ MdOk.of h
  have h2 : Ok (sortL cmpS f) r (turnT ordID nIt r F) := h.turn isOrd_ID turns_n (sortL_perm (c := cmpS) f)
  obtain ⟨f', hf'⟩ : ∃ f', f' = sortL cmpS f := ⟨_, rfl⟩
  obtain ⟨m', hm'⟩ : ∃ m', m' = r :: turnT ordID nIt r F := ⟨_, rfl⟩
  rw [← hf'] at h2
  have hM' : MdOk f' m' r := hm' ▸ MdOk.of h2
  have L : Like m m' := by rw [hm, hm']; exact h.like
  have hfs : ∀ s, hasS f' s = hasS f s := fun s => by
    rw [Bool.eq_iff_iff, hasS_iff, hasS_iff, hf']
    exact (sortL_perm _).mem_iff
  have h29 := (c29 f m hb).to (.blit (decide_eq_false (by omega)))
  have h34 : PCall cx.P 34 [encM f m] (.lit true) := hm ▸ (c34 f (r :: F) h.sz).to (.blit (isB_iff.2 ⟨r, F, rfl, h⟩))
  have h36 : PCall cx.P 36 [encM f m] (encM f' m') := by rw [hm, hf', hm']; exact c36 h
  have h39 := c39 h hm
  have h39' := c39 h2 hm'
  rw [L.rnd] at h39'
  have h40 := fun (v : Vw) (a : S43) => c40 hM v a
  have h40' := fun (v : Vw) (a : S43) => show ACall cx.P 40 [.bptr 32 0, .agg (enc43 a)] (csS f' m' v 32) (.int .i64 (actV v f m r.f0 a).2) (csT f' m' (actV v f m r.f0 a).1 32) from by
    have := c40 hM' v a
    rwa [L.act hfs] at this
  have h41 := fun (v : Vw) (id : ByteArray) => c41 f m v hM.toCaOk id
  have h41' := fun (v : Vw) (id : ByteArray) => show PCall cx.P 41 [caR f' m' v, .str id] (.int .i64 (stateV v m id)) from by
    have := c41 f' m' v hM'.toCaOk id
    rwa [L.state] at this
  have hml := hM.hm
  have hml' := hM'.hm
  have hE : (l.map enc43).length = l.length := List.length_map _
  have hEm : (m.map enc47).length = m.length := List.length_map _
  clear hm hm' h h2 hf' L hfs hM hM'
  generalize rnd m (newV r.f0) = v0 at h39 h39'
  unfold csS csC at h39 h39'
  unfold csS csT csC enc43 at h40 h40'
  unfold caR at h41 h41'
  unfold encM at h29 h34 h36 h39 h39' ⊢
  conv => whnf
  refine ⟨_, h29, ?_⟩
  conv => whnf
  conv => whnf
  refine ⟨_, h34, ?_⟩
  conv => whnf
  conv => whnf
  refine ⟨fun w1 => ?_, fun w1 => ?_⟩
  · have := of_decide_eq_true w1
    omega
  conv => whnf
  refine ⟨_, h36, ?_⟩
  conv => whnf
  conv => whnf
  refine ⟨_, _, h39, ?_⟩
  conv => whnf
  conv => whnf
  refine ⟨_, _, h39', ?_⟩
  conv => whnf
  conv => whnf
  refine ⟨fun w2 => ?_, fun w2 => ?_⟩
  · exact absurd w2 (by decide)
  conv => whnf
  refine ⟨fun w3 => ?_, fun w3 => ?_⟩
  · exact absurd w3 (by decide)
  conv => whnf
  refine .inr (.inl ⟨[1, 2, 6, 8, 10], Nat × Vw, fun x => ([(1, .row 5 (l.map enc43)), (2, .bptr 144 0), (6, .bptr 400 0), (8, .bptr 528 0), (10, .int .i64 x.1)], csS f' m' x.2 528 ++ (csS f m x.2 400 ++ [(144, .live (.box [.row 1 (f.map encT), .row 7 (m.map enc47)]))])), fun x => x.1 ≤ l.length, fun x => l.length - x.1, ?_, ?_⟩)
  · conv => whnf
    exact ⟨(0, v0), .of rfl, Nat.zero_le _⟩
  rintro ⟨i, v⟩ hi
  have hi : i ≤ l.length := hi
  dsimp only
  unfold csS csC
  conv => whnf
  refine ⟨fun w4 => ?_, fun w4 => ?_⟩
  · have w4 : i < l.length := ltm w4
    refine Exists.elim (at_ex w4) fun a ha => ?_
    have h40 := h40 v a
    have h40' := h40' v a
    conv => whnf
    refine ⟨⟨Int.natCast_nonneg _, by omega⟩, ?_⟩
    conv => whnf
    conv => whnf
    refine ⟨_, map_at ha, ?_⟩
    conv => whnf
    conv => whnf
    refine ⟨_, _, h40, ?_⟩
    conv => whnf
    conv => whnf
    refine ⟨⟨Int.natCast_nonneg _, by omega⟩, ?_⟩
    conv => whnf
    conv => whnf
    refine ⟨_, map_at ha, ?_⟩
    conv => whnf
    conv => whnf
    refine ⟨_, _, h40', ?_⟩
    conv => whnf
    conv => whnf
    refine ⟨by kernel_rfl, ?_⟩
    conv => whnf
    conv => whnf
    refine ⟨fun w5 => ?_, fun w5 => ?_⟩
    · rw [bne_self_eq_false] at w5
      cases w5
    conv => whnf
    refine ⟨(i + 1, (actV v f m r.f0 a).1), ?_, (w4 : i + 1 ≤ l.length), by show l.length - (i + 1) < l.length - i; omega⟩
    dsimp only
    rw [up1 w4 (by omega)]
    exact .of rfl
  conv => whnf
  refine .inr (.inl ⟨[2, 6, 8, 11], Nat, fun j => ([(2, .bptr 144 0), (6, .bptr 400 0), (8, .bptr 528 0), (11, .int .i64 j)], csS f' m' v 528 ++ (csS f m v 400 ++ [(144, .live (.box [.row 1 (f.map encT), .row 7 (m.map enc47)]))])), fun j => j ≤ m.length, fun j => m.length - j, ?_, ?_⟩)
  · conv => whnf
    exact ⟨0, .of rfl, Nat.zero_le _⟩
  intro j hj
  have hj : j ≤ m.length := hj
  dsimp only
  unfold csS csC
  conv => whnf
  refine ⟨fun w6 => ?_, fun w6 => ?_⟩
  · have w6 : j < m.length := ltm w6
    refine Exists.elim (at_ex w6) fun x hx => ?_
    have h41 := h41 v x.f0
    have h41' := h41' v x.f0
    conv => whnf
    refine ⟨⟨Int.natCast_nonneg _, by omega⟩, ?_⟩
    conv => whnf
    conv => whnf
    refine ⟨_, map_at hx, ?_⟩
    conv => whnf
    conv => whnf
    refine ⟨(by rw [List.length_map, Nat.zero_add]), ?_⟩
    conv => whnf
    conv => whnf
    refine ⟨(by rw [List.length_map, Nat.zero_add]), ?_⟩
    conv => whnf
    conv => whnf
    refine ⟨(by rw [List.length_map, Nat.zero_add]), ?_⟩
    conv => whnf
    conv => whnf
    refine ⟨(by rw [List.length_map, Nat.zero_add]), ?_⟩
    conv => whnf
    conv => whnf
    refine ⟨_, h41, ?_⟩
    conv => whnf
    conv => whnf
    refine ⟨⟨Int.natCast_nonneg _, by omega⟩, ?_⟩
    conv => whnf
    conv => whnf
    refine ⟨_, map_at hx, ?_⟩
    conv => whnf
    conv => whnf
    refine ⟨(by rw [List.length_map, Nat.zero_add]), ?_⟩
    conv => whnf
    conv => whnf
    refine ⟨(by rw [List.length_map, Nat.zero_add]), ?_⟩
    conv => whnf
    conv => whnf
    refine ⟨(by rw [List.length_map, Nat.zero_add]), ?_⟩
    conv => whnf
    conv => whnf
    refine ⟨(by rw [List.length_map, Nat.zero_add]), ?_⟩
    conv => whnf
    conv => whnf
    refine ⟨_, h41', ?_⟩
    conv => whnf
    conv => whnf
    refine ⟨by kernel_rfl, ?_⟩
    conv => whnf
    conv => whnf
    refine ⟨fun w7 => ?_, fun w7 => ?_⟩
    · rw [bne_self_eq_false] at w7
      cases w7
    conv => whnf
    refine ⟨j + 1, ?_, (w6 : j + 1 ≤ m.length), by show m.length - (j + 1) < m.length - j; omega⟩
    rw [up1 w6 (by omega)]
    exact .of rfl
  conv => whnf
  refine ⟨_, c38, ?_⟩
  conv => whnf
  conv => whnf
  exact .refl
theorem c6 (f0 : List ByteArray) (m0 : List S47) (l1 : List S43) (g0 : BgM f0 m0) (g1 : l1.length ≤ 140737488355328) : PCall cx.P 6 [encM f0 m0, .row 5 (l1.map enc43)] (.lit true) := by
  by_cases hh : totM f0 m0 < 400
  · by_cases hO : OkM f0 m0
    · by_cases hl : l1.length ≤ 60
      · obtain ⟨r, F, e, h⟩ := hO
        exact c6ok h e l1 g0 hh hl
      · have h29 := (c29 f0 m0 g0).to (.blit (decide_eq_false (by omega)))
        have h34 : PCall cx.P 34 [encM f0 m0] (.lit true) := by
          obtain ⟨r, F, e, h⟩ := hO
          exact e ▸ (c34 f0 (r :: F) h.sz).to (.blit (isB_iff.2 ⟨r, F, rfl, h⟩))
        have hE : (l1.map enc43).length = l1.length := List.length_map _
        refine pcallB byR Tryz.f6 (by kernel_rfl) (by kernel_rfl) ?_
        unfold encM at h29 h34 ⊢
        conv => whnf
        refine ⟨_, h29, ?_⟩
        conv => whnf
        conv => whnf
        refine ⟨_, h34, ?_⟩
        conv => whnf
        conv => whnf
        refine ⟨fun w1 => ?_, fun w1 => ?_⟩
        · conv => whnf
          exact .refl
        · have := of_decide_eq_false w1
          omega
    · have h29 := (c29 f0 m0 g0).to (.blit (decide_eq_false (by omega)))
      have hz := SzM.of (f := f0) (m := m0) hh
      have h34 : PCall cx.P 34 [encM f0 m0] (.lit false) := (c34 f0 m0 hz).to (.blit (by
        cases hb : isB f0 m0 with
        | false => rfl
        | true => exact absurd (isB_iff.1 hb) hO))
      refine pcallB byR Tryz.f6 (by kernel_rfl) (by kernel_rfl) ?_
      unfold encM at h29 h34 ⊢
      conv => whnf
      refine ⟨_, h29, ?_⟩
      conv => whnf
      conv => whnf
      refine ⟨_, h34, ?_⟩
      conv => whnf
      conv => whnf
      exact .refl
  · have h29 := (c29 f0 m0 g0).to (.blit (decide_eq_true (by omega)))
    refine pcallB byR Tryz.f6 (by kernel_rfl) (by kernel_rfl) ?_
    unfold encM at h29 ⊢
    conv => whnf
    refine ⟨_, h29, ?_⟩
    conv => whnf
    conv => whnf
    exact .refl
end Go.Ab
namespace Go.Ab
open Go.Proofs Go.RowKit Go.ChangeShapes
set_option maxRecDepth 100000
section
variable {H : Type} {enc : TypeId × Value → H} {W : World} {base : Nat} {spare : Nat → Bool} {held : Bool}
theorem ls5 {α : Type} {l : List α} (h : l.length = 5) : ∃ u0 u1 u2 u3 u4, l = [u0, u1, u2, u3, u4] := by
  match l, h with
  | [u0, u1, u2, u3, u4], _ => exact ⟨u0, u1, u2, u3, u4, rfl⟩
theorem p_43 {fuel : Nat} {cs : List Value} {x : DataW H × List MemPlace} (h : DataW.trod enc Tryz.prog W base spare held fuel 43 cs = some x) (hw : WOk Tryz.prog 43 x.1) : ∃ y : S43, (fun _ => True) y ∧ CL W (enc43 y) cs := by
  obtain ⟨n, hl, hf⟩ := p_struct Tryz.underlying43 h hw
  have hl : cs.length = 5 := hl.trans (by kernel_rfl)
  have c3 : Tryz.prog.cellsOf 3 = 1 := by kernel_rfl
  have c9 : Tryz.prog.cellsOf 9 = 1 := by kernel_rfl
  obtain ⟨u0, u1, u2, u3, u4, rfl⟩ := ls5 hl
  obtain ⟨x0, h0, w0⟩ := hf 0 _ rfl
  replace h0 : DataW.trod enc Tryz.prog W base spare held n 3 [u0] = some x0 := (congrArg (DataW.trod enc Tryz.prog W base spare held n 3) (show [u0] = List.take (Tryz.prog.cellsOf 3) (List.drop 0 [u0, u1, u2, u3, u4]) by rw [c3]; rfl)).trans h0
  obtain ⟨s0, g0⟩ := p_int Tryz.underlying3 h0
  obtain ⟨x1, h1, w1⟩ := hf 1 _ rfl
  replace h1 : DataW.trod enc Tryz.prog W base spare held n 9 [u1] = some x1 := (congrArg (DataW.trod enc Tryz.prog W base spare held n 9) (show [u1] = List.take (Tryz.prog.cellsOf 9) (List.drop 1 [u0, u1, u2, u3, u4]) by rw [c9]; rfl)).trans h1
  obtain ⟨s1, b1, g1⟩ := p_string Tryz.underlying9 h1 w1
  obtain ⟨x2, h2, w2⟩ := hf 2 _ rfl
  replace h2 : DataW.trod enc Tryz.prog W base spare held n 3 [u2] = some x2 := (congrArg (DataW.trod enc Tryz.prog W base spare held n 3) (show [u2] = List.take (Tryz.prog.cellsOf 3) (List.drop 2 [u0, u1, u2, u3, u4]) by rw [c3]; rfl)).trans h2
  obtain ⟨s2, g2⟩ := p_int Tryz.underlying3 h2
  obtain ⟨x3, h3, w3⟩ := hf 3 _ rfl
  replace h3 : DataW.trod enc Tryz.prog W base spare held n 9 [u3] = some x3 := (congrArg (DataW.trod enc Tryz.prog W base spare held n 9) (show [u3] = List.take (Tryz.prog.cellsOf 9) (List.drop 3 [u0, u1, u2, u3, u4]) by rw [c9]; rfl)).trans h3
  obtain ⟨s3, b3, g3⟩ := p_string Tryz.underlying9 h3 w3
  obtain ⟨x4, h4, w4⟩ := hf 4 _ rfl
  replace h4 : DataW.trod enc Tryz.prog W base spare held n 3 [u4] = some x4 := (congrArg (DataW.trod enc Tryz.prog W base spare held n 3) (show [u4] = List.take (Tryz.prog.cellsOf 3) (List.drop 4 [u0, u1, u2, u3, u4]) by rw [c3]; rfl)).trans h4
  obtain ⟨s4, g4⟩ := p_int Tryz.underlying3 h4
  exact ⟨⟨s0, s1, s2, s3, s4⟩, trivial, (g0.app (g1.app (g2.app (g3.app g4))))⟩
theorem okWide_sl {P : Program} {w : World} {r : Reach} {b : Nat} {v : Value} {e t : TypeId} (ht : P.underlying t = some (.slice e)) (h : Value.okWide P w r b t v) : ∃ a n c, v = .slice a n c := by
  simp only [Value.okWide, ht, Cell.okWide] at h
  cases v <;> simp_all [Cell.ok]
theorem arg37 {b0 : Nat} {v : Value} {d : DataW H} {p : List MemPlace} (hk : Value.okWide Tryz.prog W .any b0 37 v) (h : DataW.Trod enc Tryz.prog W base spare held 37 v d p) (hw : WOk Tryz.prog 37 d) : ∃ y : List S43, y.length ≤ 140737488355328 ∧ VR W no ι0 v (.row 5 (y.map enc43)) := by
  obtain ⟨fuel, h⟩ := h
  obtain ⟨a, n, c, rfl⟩ := okWide_sl Tryz.underlying37 hk
  obtain ⟨l, hl, _, hy⟩ := p_row (en := enc43) (Q := fun _ => True) (s := 5) ⟨0, ByteArray.empty, 0, ByteArray.empty, 0⟩ (by decide) (fun _ => rfl) Tryz.underlying37 (by kernel_rfl) (of_decide_eq_true (by kernel_rfl)) (fun _ _ _ h hw => p_43 h hw) h hw
  exact ⟨l, hl, .pure _ _ (hy.get 0 _ _ rfl rfl).2⟩
end
end Go.Ab
