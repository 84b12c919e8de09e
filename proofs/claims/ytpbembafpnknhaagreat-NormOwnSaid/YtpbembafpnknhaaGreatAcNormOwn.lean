/- Proof texts of one seat, in one file: an evaluator of the program's form, shown sound, and the functions told by it. There are no conditions but those that each theorem names. -/
import Derived.Test.YtpbembafpnknhaaGreatAb0
import Derived.Test.YtpbembafpnknhaaGreatAb1
import Derived.Test.YtpbembafpnknhaaGreatAb2
import Derived.Test.YtpbembafpnknhaaGreatAb3
import Derived.Test.YtpbembafpnknhaaGreatAb4
set_option linter.unusedVariables false
set_option linter.unusedSimpArgs false
set_option linter.unusedSectionVars false
set_option linter.unnecessarySimpa false
namespace Go.Ab
inductive NilC (s k : Nat) : List AV → List AV → Prop where
  | nil : NilC s k [] []
  | same {v : AV} {c c' : List AV} (h : NilC s k c c') : NilC s k (v :: c) (v :: c')
  | chg {c c' : List AV} (h : NilC s k c c') : NilC s k (AV.nils :: c) (AV.own s k 0 0 Q.opn :: c')
theorem NilC.len {s k : Nat} {c c' : List AV} (h : NilC s k c c') : c'.length = c.length := by
  induction h with
  | nil => rfl
  | same _ ih => simp [ih]
  | chg _ ih => simp [ih]
theorem NilC.get {s k : Nat} {c c' : List AV} (h : NilC s k c c') : ∀ (j : Nat) (x' : AV), c'[j]? = some x' → c[j]? = some x' ∨ (c[j]? = some AV.nils ∧ x' = AV.own s k 0 0 Q.opn) := by
  induction h with
  | nil => intro j x h; simp at h
  | same _ ih =>
    intro j x h
    match j with
    | 0 => exact .inl h
    | j + 1 => exact ih j x h
  | chg _ ih =>
    intro j x h
    match j with
    | 0 => cases h; exact .inr ⟨rfl, rfl⟩
    | j + 1 => exact ih j x h
def SVr (s k : Nat) (v v' : SV) : Prop := v' = v ∨ ∃ cs cs', v = .live (.box cs) ∧ v' = .live (.box cs') ∧ NilC s k cs cs'
inductive NilB (s k : Nat) : Sto → Sto → Prop where
  | nil : NilB s k [] []
  | same {k' : Nat} {v : SV} {σ σ' : Sto} (h : NilB s k σ σ') : NilB s k ((k', v) :: σ) ((k', v) :: σ')
  | box {k' : Nat} {cs cs' : List AV} {σ σ' : Sto} (hc : NilC s k cs cs') (h : NilB s k σ σ') : NilB s k ((k', .live (.box cs)) :: σ) ((k', .live (.box cs')) :: σ')
inductive NilT (s k : Nat) : Sto → Sto → Prop where
  | here {σ σ' : Sto} (h : NilB s k σ σ') : NilT s k σ ((k, .live (.arr s [])) :: σ')
  | there {k' : Nat} {v : SV} {σ σ' : Sto} (hk : Nat.beq k' k = false) (h : NilT s k σ σ') : NilT s k ((k', v) :: σ) ((k', v) :: σ')
  | box {k' : Nat} {cs cs' : List AV} {σ σ' : Sto} (hk : Nat.beq k' k = false) (hc : NilC s k cs cs') (h : NilT s k σ σ') : NilT s k ((k', .live (.box cs)) :: σ) ((k', .live (.box cs')) :: σ')
theorem sg1 (k : Nat) (v : SV) (σ : Sto) (x : Nat) : sget ((k, v) :: σ) x = if x = k then v else sget σ x := by rw [sget_cons]
theorem NilB.get {s k : Nat} {σ σ' : Sto} (h : NilB s k σ σ') (x : Nat) : SVr s k (sget σ x) (sget σ' x) := by
  induction h with
  | nil => exact .inl rfl
  | same h ih => rw [sg1, sg1]; split; exact .inl rfl; exact ih
  | box hc h ih => rw [sg1, sg1]; split; exact .inr ⟨_, _, rfl, rfl, hc⟩; exact ih
theorem NilT.get {s k : Nat} {σ σ' : Sto} (h : NilT s k σ σ') (x : Nat) : (x = k → sget σ' x = .live (.arr s [])) ∧ (x ≠ k → SVr s k (sget σ x) (sget σ' x)) := by
  have ne : ∀ {k' : Nat}, Nat.beq k' k = false → k ≠ k' := fun hk e => by subst e; rw [Nat.beq_refl] at hk; cases hk
  induction h with
  | here h => exact ⟨fun e => by rw [sg1, if_pos e], fun e => by rw [sg1, if_neg e]; exact h.get x⟩
  | there hk h ih =>
    refine ⟨fun e => ?_, fun e => ?_⟩
    · rw [sg1, if_neg (by rw [e]; exact ne hk)]; exact ih.1 e
    · rw [sg1, sg1]; split; exact .inl rfl; exact ih.2 e
  | box hk hc h ih =>
    refine ⟨fun e => ?_, fun e => ?_⟩
    · rw [sg1, if_neg (by rw [e]; exact ne hk)]; exact ih.1 e
    · rw [sg1, sg1]; split; exact .inr ⟨_, _, rfl, rfl, hc⟩; exact ih.2 e
theorem StLe.nilB {pins : List Nat} {s k : Nat} {E : Env} {σ σ' : Sto} (hk : sget σ k = .free) (hp : memN k pins = false) (hS : NilT s k σ σ') : StLe pins (E, σ) (E, σ') := ⟨fun w X ι vs hs hv => by
  have hιk : ι k = .free := (hs.free k).1 hk
  have hext : Ext ι (fun x => if x = k then .gone else ι x) := fun x hx => by
    show (if x = k then LS.gone else ι x) = ι x
    rw [if_neg fun e => hx (by rw [e]; exact hιk)]
  have live : ∀ x, x ≠ k → ∀ b', sget σ' x = .live b' → ∃ b, sget σ x = .live b ∧ SVr s k (.live b) (.live b') := fun x hx b' h => by
    rcases (hS.get x).2 hx with e | ⟨cs, cs', e1, e2, hc⟩
    · exact ⟨b', by rw [← e, h], .inl rfl⟩
    · rw [h] at e2; cases e2
      exact ⟨_, e1, .inr ⟨_, _, rfl, rfl, hc⟩⟩
  have live' : ∀ x, x ≠ k → ∀ b, sget σ x = .live b → ∃ b', sget σ' x = .live b' := fun x hx b h => by
    rcases (hS.get x).2 hx with e | ⟨cs, cs', e1, e2, hc⟩
    · exact ⟨b, by rw [e, h]⟩
    · exact ⟨_, e2⟩
  have hL : ∀ b, Lv (sget σ') (fun x => if x = k then .gone else ι x) b ↔ Lv (sget σ) ι b := fun b => by
    constructor
    · rintro ⟨x, blk, o, t, h1, h2⟩
      have h2 : (if x = k then LS.gone else ι x) = .at b o t := h2
      by_cases e : x = k
      · rw [if_pos e] at h2; cases h2
      · rw [if_neg e] at h2
        obtain ⟨b0, h0, _⟩ := live x e blk h1
        exact ⟨x, b0, o, t, h0, h2⟩
    · rintro ⟨x, blk, o, t, h1, h2⟩
      have e : x ≠ k := fun e => by rw [e, hk] at h1; cases h1
      obtain ⟨b0, h0⟩ := live' x e blk h1
      exact ⟨x, b0, o, t, h0, by show (if x = k then LS.gone else ι x) = _; rw [if_neg e]; exact h2⟩
  have hX : XL X (sget σ') (fun x => if x = k then .gone else ι x) = XL X (sget σ) ι := funext fun b => by unfold XL; rw [hL b]
  refine ⟨fun x => if x = k then .gone else ι x, ⟨fun x b hx => ?_, fun x x' b b' c o t o' t' h1 h2 h3 h4 => ?_, fun b hb => ⟨(hs.out b hb).1, fun h => (hs.out b hb).2 ((hL b).1 h)⟩, fun x => ?_⟩, fun t => ?_, fun b hb => (hL b).1 hb, fun x hx => ?_⟩
  · show BR w _ _ (if x = k then .gone else ι x) b
    rw [hX]
    by_cases e : x = k
    · rw [(hS.get x).1 e] at hx
      rw [if_pos e]
      cases hx
      exact rfl
    · rw [if_neg e]
      obtain ⟨b0, h0, hr⟩ := live x e b hx
      have hB := BR.step (Adv.refl (Lv (sget σ) ι) w) hext (hs.blk x b0 h0) fun _ _ _ _ => rfl
      rcases hr with hr | ⟨cs, cs', e1, e2, hc⟩
      · cases hr; exact hB
      · cases e1; cases e2
        cases hl : ι x with
        | «at» c o z =>
          rw [hl] at hB
          obtain ⟨ho, us, ty, hh, hsz, hcell⟩ := hB
          refine ⟨ho, us, ty, hh, by rw [hsz, hc.len], fun j v y h1 h2 => ?_⟩
          rcases hc.get j y h2 with h3 | ⟨h3, h4⟩
          · exact hcell j v y h1 h3
          · obtain ⟨h5, h6⟩ := hcell j v _ h1 h3
            refine ⟨h5, ?_⟩
            rw [h4, h6.nils_inv]
            exact .own0 s k 0 none .opn (by simp) (Nat.le_refl _)
        | _ => rw [hl] at hB; exact hB.elim
  · have key : ∀ x b c o t, sget σ' x = .live b → (if x = k then LS.gone else ι x) = .at c o t → (∃ b, sget σ x = .live b) ∧ ι x = .at c o t := fun x b c o t h1 h2 => by
      by_cases e : x = k
      · rw [if_pos e] at h2; cases h2
      · rw [if_neg e] at h2
        obtain ⟨b0, h0, _⟩ := live x e b h1
        exact ⟨⟨b0, h0⟩, h2⟩
    obtain ⟨⟨_, a1⟩, a2⟩ := key x b c o t h1 h3
    obtain ⟨⟨_, b1⟩, b2⟩ := key x' b' c o' t' h2 h4
    exact hs.inj x x' _ _ c o t o' t' a1 b1 a2 b2
  · show sget σ' x = .free ↔ (if x = k then LS.gone else ι x) = .free
    by_cases e : x = k
    · rw [(hS.get x).1 e, if_pos e]; simp
    · rw [if_neg e]
      rcases (hS.get x).2 e with e1 | ⟨cs, cs', e1, e2, _⟩
      · rw [e1]; exact hs.free x
      · rw [e2, ← hs.free x, e1]; simp
  · show VR w (XL X (sget σ') _) _ (vs t) (get E t)
    rw [hX]
    exact VR.step (Adv.refl (Lv (sget σ) ι) w) hext (hv t)
  · show (if x = k then LS.gone else ι x) = ι x
    rw [if_neg]
    intro e
    subst e
    rw [show memN x pins = true from memN_iff.2 hx] at hp
    cases hp⟩
end Go.Ab
namespace Go.Ab
open Go.Proofs Sn
set_option maxRecDepth 100000
set_option maxHeartbeats 4000000
theorem rSes_drop (l : List S29) : rSes l = ((l.drop 0).map rSe).reverse := rfl
theorem drop_snoc {α : Type} {l : List α} {k : Nat} {u : α} (h : l[k]? = some u) : (l.drop k).reverse = (l.drop (k + 1)).reverse ++ [u] := by
  obtain ⟨h1, h2⟩ := List.getElem?_eq_some_iff.1 h
  rw [List.drop_eq_getElem_cons h1, List.reverse_cons, h2]
theorem prev {j : Nat} (h : j ≤ 1048576) : IntKind.wrap .i64 ((j : Int) - 1) = (j : Int) - 1 := by rw [IntWalk.i64_in _ (by omega)]
theorem c134 (l : List S29) (hl : l.length ≤ 1048576) (hs : ∀ s ∈ l, Sz29 s) : PCall cx.P 134 [.row 2 (l.map enc29)] (.row 2 ((rSes l).map enc29)) := pcall Tryz.f134 (by kernel_rfl) (by kernel_rfl) <| by
  have hE : (l.map enc29).length = l.length := List.length_map _
  conv => whnf
  refine .inr (.inl ⟨[0, 3, 4], Nat, fun j => ([(0, .row 2 (l.map enc29)), (3, .own 2 208 0 ((((l.drop j).map rSe).reverse).map enc29).length .opn), (4, .int .i64 ((j : Int) - 1))], [(208, .live (.arr 2 ((((l.drop j).map rSe).reverse).map enc29)))]), fun j => j ≤ l.length, fun j => j, ?_, fun j hj => ?_⟩)
  · conv => whnf
    refine ⟨l.length, ?_, Nat.le_refl _⟩
    dsimp only
    rw [List.drop_of_length_le (Nat.le_refl _), hE, prev hl]
    exact .nil rfl rfl (.same <| .chg <| .same .nil) .here
  · have hj : j ≤ l.length := hj
    rcases j with _ | j
    · conv => whnf
      refine ⟨fun w1 => ?_, fun w1 => ?_⟩
      · cases w1
      · conv => whnf
        refine ⟨by omega, ?_⟩
        conv => whnf
        conv => whnf
        exact .of rfl
    dsimp only
    rw [show ((j + 1 : Nat) : Int) - 1 = (j : Int) by omega]
    have hlr : (((l.drop (j + 1)).map rSe).reverse).length = l.length - (j + 1) := by simp
    have hE2 : ((((l.drop (j + 1)).map rSe).reverse).map enc29).length = l.length - (j + 1) := by simp
    obtain ⟨y, hy⟩ := at_ex (show j < l.length from hj)
    have hz := hs y (List.mem_of_getElem? hy)
    conv => whnf
    refine ⟨fun w1 => ?_, fun w1 => ?_⟩
    · conv => whnf
      refine ⟨⟨Int.natCast_nonneg _, by omega⟩, ?_⟩
      conv => whnf
      conv => whnf
      refine ⟨_, map_at hy, ?_⟩
      conv => whnf
      conv => whnf
      conv => whnf
      obtain ⟨hz0, hz1⟩ := hz
      have hO : (((l.drop (j + 1)).map rSe).reverse).length ≤ 1048576 := by omega
      obtain ⟨O, hOe⟩ : ∃ O, O = ((l.drop (j + 1)).map rSe).reverse := ⟨_, rfl⟩
      rw [← hOe] at hO hlr hE2 ⊢
      have e0 : (y.f0.map enc78).length = y.f0.length := List.length_map _
      have e1 : (y.f1.map enc93).length = y.f1.length := List.length_map _
      refine .inr (.inl ⟨[0, 3, 4, 5, 6], Nat, fun k => ([(0, .row 2 (l.map enc29)), (3, .own 2 208 0 (O.map enc29).length .opn), (4, .int .i64 (j : Int)), (5, .bptr 336 0), (6, .int .i64 ((k : Int) - 1))],
        [(337, .live (.arr 2 (((y.f0.drop k).reverse).map enc78))), (336, .live (.box [.own 2 337 0 (((y.f0.drop k).reverse).map enc78).length .opn, .nils])), (208, .live (.arr 2 (O.map enc29)))]), fun k => k ≤ y.f0.length, fun k => k, ?_, fun k hk => ?_⟩)
      · conv => whnf
        refine ⟨y.f0.length, ?_, Nat.le_refl _⟩
        dsimp only
        rw [List.drop_of_length_le (Nat.le_refl _), e0, prev hz0]
        exact .nilB rfl rfl (.here (.box (.chg (.same .nil)) (.same .nil)))
      · have hk : k ≤ y.f0.length := hk
        rcases k with _ | k
        · conv => whnf
          refine ⟨fun w2 => ?_, fun w2 => ?_⟩
          · cases w2
          · clear w2
            conv => whnf
            conv => whnf
            refine ⟨⟨Int.natCast_nonneg _, by omega⟩, ?_⟩
            conv => whnf
            conv => whnf
            refine ⟨_, map_at hy, ?_⟩
            conv => whnf
            conv => whnf
            refine .inr (.inl ⟨[0, 3, 4, 5, 7], Nat, fun k => ([(0, .row 2 (l.map enc29)), (3, .own 2 208 0 (O.map enc29).length .opn), (4, .int .i64 (j : Int)), (5, .bptr 336 0), (7, .int .i64 ((k : Int) - 1))],
              [(338, .live (.arr 3 (((y.f1.drop k).reverse).map enc93))), (337, .live (.arr 2 (y.f0.reverse.map enc78))), (336, .live (.box [.own 2 337 0 (y.f0.reverse.map enc78).length .opn, .own 3 338 0 (((y.f1.drop k).reverse).map enc93).length .opn])), (208, .live (.arr 2 (O.map enc29)))]), fun k => k ≤ y.f1.length, fun k => k, ?_, fun k hk => ?_⟩)
            · conv => whnf
              refine ⟨y.f1.length, ?_, Nat.le_refl _⟩
              dsimp only
              rw [List.drop_of_length_le (Nat.le_refl _), e1, prev hz1]
              exact .nilB rfl rfl (.here (.same (.box (.same (.chg .nil)) (.same .nil))))
            · have hk : k ≤ y.f1.length := hk
              rcases k with _ | k
              · conv => whnf
                refine ⟨fun w2 => ?_, fun w2 => ?_⟩
                · cases w2
                · clear w2
                  conv => whnf
                  conv => whnf
                  refine ⟨by omega, ?_⟩
                  conv => whnf
                  conv => whnf
                  refine ⟨by omega, ?_⟩
                  conv => whnf
                  conv => whnf
                  refine ⟨by simpa using by omega, ?_⟩
                  conv => whnf
                  conv => whnf
                  refine ⟨by simpa using by omega, ?_⟩
                  conv => whnf
                  conv => whnf
                  refine ⟨j, ?_, Nat.le_of_lt hj, Nat.lt_succ_self j⟩
                  dsimp only
                  rw [prev (by omega), show ((l.drop j).map rSe).reverse = O ++ [rSe y] from by rw [hOe, ← List.map_reverse, ← List.map_reverse, drop_snoc hy, List.map_append]; rfl, List.map_append, List.length_append]
                  exact .of rfl
              dsimp only
              rw [show ((k + 1 : Nat) : Int) - 1 = (k : Int) by omega]
              obtain ⟨u, hu⟩ := at_ex (show k < y.f1.length from hk)
              have hk1 : (((y.f1.drop (k + 1)).reverse).map enc93).length = y.f1.length - (k + 1) := by simp
              conv => whnf
              refine ⟨fun w2 => ?_, fun w2 => ?_⟩
              · conv => whnf
                refine ⟨⟨Int.natCast_nonneg _, by omega⟩, ?_⟩
                conv => whnf
                conv => whnf
                refine ⟨_, map_at hy, ?_⟩
                conv => whnf
                conv => whnf
                refine ⟨⟨Int.natCast_nonneg _, by omega⟩, ?_⟩
                conv => whnf
                conv => whnf
                refine ⟨_, map_at hu, ?_⟩
                conv => whnf
                conv => whnf
                conv => whnf
                refine ⟨by simpa using by omega, ?_⟩
                conv => whnf
                conv => whnf
                refine ⟨by simpa using by omega, ?_⟩
                conv => whnf
                conv => whnf
                refine ⟨Eq.refl true, ?_⟩
                conv => whnf
                conv => whnf
                refine ⟨k, ?_, by omega, Nat.lt_succ_self k⟩
                dsimp only
                rw [prev (by omega), drop_snoc hu, List.map_append, List.length_append]
                exact .of rfl
              · have := of_decide_eq_false w2
                omega
        dsimp only
        rw [show ((k + 1 : Nat) : Int) - 1 = (k : Int) by omega]
        obtain ⟨u, hu⟩ := at_ex (show k < y.f0.length from hk)
        have hk1 : (((y.f0.drop (k + 1)).reverse).map enc78).length = y.f0.length - (k + 1) := by simp
        conv => whnf
        refine ⟨fun w2 => ?_, fun w2 => ?_⟩
        · conv => whnf
          refine ⟨⟨Int.natCast_nonneg _, by omega⟩, ?_⟩
          conv => whnf
          conv => whnf
          refine ⟨_, map_at hy, ?_⟩
          conv => whnf
          conv => whnf
          refine ⟨⟨Int.natCast_nonneg _, by omega⟩, ?_⟩
          conv => whnf
          conv => whnf
          refine ⟨_, map_at hu, ?_⟩
          conv => whnf
          conv => whnf
          conv => whnf
          refine ⟨by simpa using by omega, ?_⟩
          conv => whnf
          conv => whnf
          refine ⟨by simpa using by omega, ?_⟩
          conv => whnf
          conv => whnf
          refine ⟨Eq.refl true, ?_⟩
          conv => whnf
          conv => whnf
          refine ⟨k, ?_, by omega, Nat.lt_succ_self k⟩
          dsimp only
          rw [prev (by omega), drop_snoc hu, List.map_append, List.length_append]
          exact .of rfl
        · have := of_decide_eq_false w2
          omega
    · have := of_decide_eq_false w1
      omega
end Go.Ab
namespace Go.Ab
open Go.Proofs Sn
set_option maxRecDepth 100000
set_option maxHeartbeats 4000000
theorem c87 {fs : List ByteArray} {r : S47} {F : List S47} (h : Ok fs r F) : ∀ (k d i : Nat) (x : S47), d + k = 6 → (r :: F)[i]? = some x → Anc S47.f0 S47.f2 (r :: F) r x d → PCall cx.P 87 [encM fs (r :: F), .int .i64 i, .int .i64 d] (.row 7 ((pre S47.f0 S47.f2 (fun l => l.reverse) rIt (r :: F) k x).map enc47)) := by
  intro k
  induction k with
  | zero =>
    intro d i x hd hx ha
    have := h.deep (List.mem_of_getElem? hx) ha
    omega
  | succ k ih =>
    intro d i x hd hx ha
    have hm := h.sz.hm
    have hE : ((r :: F).map enc47).length = (r :: F).length := List.length_map _
    have hi := (List.getElem?_eq_some_iff.1 hx).1
    have hKm := kidsI_len (r :: F) x.f0
    have hxz := h.sz.hx x (List.mem_of_getElem? hx)
    have h5 := c134 x.f5 hxz.1.1 hxz.1.2
    have h6 := c134 x.f6 hxz.2.1 hxz.2.2
    have h44 := c44 fs (r :: F) x.f0 hm
    have hS := kidsI_items (xs := r :: F) (s := x.f0)
    obtain ⟨K, hK⟩ : ∃ K, K = kidsI (r :: F) x.f0 := ⟨_, rfl⟩
    rw [← hK] at h44 hS hKm
    have hKE : (K.map enc0).length = K.length := List.length_map _
    refine pcall Tryz.f87 (by kernel_rfl) (by kernel_rfl) ?_
    unfold encM at h44 ⊢
    conv => whnf
    refine ⟨⟨Int.natCast_nonneg _, by omega⟩, ?_⟩
    conv => whnf
    conv => whnf
    refine ⟨_, map_at hx, ?_⟩
    conv => whnf
    conv => whnf
    refine ⟨_, h5, ?_⟩
    conv => whnf
    conv => whnf
    refine ⟨_, h6, ?_⟩
    conv => whnf
    conv => whnf
    conv => whnf
    refine ⟨Eq.refl true, ?_⟩
    conv => whnf
    conv => whnf
    refine ⟨_, h44, ?_⟩
    conv => whnf
    conv => whnf
    have hlen : ∀ t, (rIt x :: ((K.drop t).reverse.map (rd_T47 (r :: F))).flatMap (pre S47.f0 S47.f2 (fun l => l.reverse) rIt (r :: F) k)).length ≤ 1048576 := fun t => by
      have h1 := Nat.le_trans (pre_len h isOrd_rev (f := rIt) (fun _ => rfl) (k + 1) (List.mem_of_getElem? hx)) hm
      refine Nat.le_trans ?_ h1
      show _ ≤ (rIt x :: ((kidsOf S47.f2 (r :: F) x.f0).reverse).flatMap (pre S47.f0 S47.f2 (fun l => l.reverse) rIt (r :: F) k)).length
      rw [← hS, ← List.map_reverse, List.length_cons, List.length_cons]
      refine Nat.succ_le_succ ?_
      have hsub : (((K.drop t).reverse.map (rd_T47 (r :: F))).flatMap (pre S47.f0 S47.f2 (fun l => l.reverse) rIt (r :: F) k)).Sublist ((K.reverse.map (rd_T47 (r :: F))).flatMap (pre S47.f0 S47.f2 (fun l => l.reverse) rIt (r :: F) k)) := by
        conv => rhs; rw [← List.take_append_drop t K, List.reverse_append, List.map_append, List.flatMap_append]
        exact List.sublist_append_left _ _
      exact hsub.length_le
    refine .inr (.inl ⟨[2, 3, 8, 9, 10], Nat, fun j => ([(2, .int .i64 d), (3, .bptr 208 0), (8, .own 7 528 0 ((rIt x :: ((K.drop j).reverse.map (rd_T47 (r :: F))).flatMap (pre S47.f0 S47.f2 (fun l => l.reverse) rIt (r :: F) k)).map enc47).length .opn), (9, .row 1 (K.map enc0)), (10, .int .i64 ((j : Int) - 1))],
      [(528, .live (.arr 7 ((rIt x :: ((K.drop j).reverse.map (rd_T47 (r :: F))).flatMap (pre S47.f0 S47.f2 (fun l => l.reverse) rIt (r :: F) k)).map enc47))), (208, .live (.box [.row 1 (fs.map encT), .row 7 ((r :: F).map enc47)]))]), fun j => j ≤ K.length, fun j => j, ?_, fun j hj => ?_⟩)
    · conv => whnf
      refine ⟨K.length, ?_, Nat.le_refl _⟩
      dsimp only
      rw [List.drop_of_length_le (Nat.le_refl _), hKE, prev (by omega)]
      exact .le (.cons _ _ _ _ _ .refl <| .cons _ _ _ _ _ .refl <| .cons _ _ _ _ _ .opn <| .refl _) (.refl _)
    · have hj : j ≤ K.length := hj
      rcases j with _ | j
      · conv => whnf
        conv => whnf
        refine ⟨fun w1 => ?_, fun w1 => ?_⟩
        · cases w1
        · replace w1 := nlti w1
          conv => whnf
          refine ⟨by omega, ?_⟩
          conv => whnf
          conv => whnf
          exact .of (by
            rw [List.drop_zero, List.drop_zero, List.map_reverse, hS]
            rfl)
      dsimp only
      rw [show ((j + 1 : Nat) : Int) - 1 = (j : Int) by omega]
      obtain ⟨a, hKa⟩ := at_ex (show j < K.length from hj)
      have haK : a ∈ kidsI (r :: F) x.f0 := by rw [← hK]; exact List.mem_of_getElem? hKa
      obtain ⟨q, rfl, hq, hqp⟩ := kidsI_mem haK
      obtain ⟨y, hy⟩ := at_ex hq
      rw [getD_at hy] at hqp
      have hya : Anc S47.f0 S47.f2 (r :: F) r y (d + 1) := by
        have := Anc.trans (m := 1) ⟨x, List.mem_of_getElem? hx, hqp.symm, rfl⟩ ha
        rwa [Nat.add_comm] at this
      have hdk := h.deep (List.mem_of_getElem? hy) hya
      have h87 := ih (d + 1) q y (by omega) hy hya
      unfold encM at h87
      have hw1 : IntKind.i64.wrap ((d : Int) + 1) = ((d + 1 : Nat) : Int) := up1 (n := 10) (by omega) (by omega)
      conv => whnf
      refine ⟨fun w1 => ?_, fun w1 => ?_⟩
      · conv => whnf
        refine ⟨fun w2 => ?_, fun w2 => ?_⟩
        · conv => whnf
          refine ⟨⟨Int.natCast_nonneg _, by omega⟩, ?_⟩
          conv => whnf
          conv => whnf
          refine ⟨_, map_at hKa, ?_⟩
          conv => whnf
          conv => whnf
          rw [hw1]
          refine ⟨_, h87, ?_⟩
          conv => whnf
          conv => whnf
          conv => whnf
          have hyd : rd_T47 (r :: F) (q : Int) = y := by unfold rd_T47; rw [Int.toNat_natCast, getD_at hy]
          have hnx : (rIt x :: ((K.drop j).reverse.map (rd_T47 (r :: F))).flatMap (pre S47.f0 S47.f2 (fun l => l.reverse) rIt (r :: F) k)) = (rIt x :: ((K.drop (j + 1)).reverse.map (rd_T47 (r :: F))).flatMap (pre S47.f0 S47.f2 (fun l => l.reverse) rIt (r :: F) k)) ++ pre S47.f0 S47.f2 (fun l => l.reverse) rIt (r :: F) k y := by
            rw [drop_snoc hKa, List.map_append, List.flatMap_append, List.cons_append]
            congr 2
            rw [List.map_cons, hyd]
            exact List.append_nil _
          have hl1 := hlen j
          rw [hnx, List.length_append] at hl1
          refine ⟨⟨Nat.zero_add _, by rw [List.length_map, List.length_map]; show (_ + _) * 104 ≤ 2 ^ 47; omega⟩, ?_⟩
          conv => whnf
          conv => whnf
          refine ⟨Eq.refl true, ?_⟩
          conv => whnf
          conv => whnf
          refine ⟨j, ?_, Nat.le_of_lt hj, Nat.lt_succ_self j⟩
          dsimp only
          rw [hnx, prev (by omega), List.map_append, List.length_append]
          exact .of rfl
        · have := of_decide_eq_false w2
          omega
      · have := of_decide_eq_false w1
        omega
theorem c42 {fs : List ByteArray} {r : S47} {F : List S47} (h : Ok fs r F) : PCall cx.P 42 [encM fs (r :: F)] (encM fs.reverse (r :: turnT (fun l => l.reverse) rIt r F)) := pcall Tryz.f42 (by kernel_rfl) (by kernel_rfl) <| by
  have h87 := c87 h 6 0 0 r rfl rfl rfl
  rw [← pre_more' isOrd_rev (k := 6) (List.mem_cons_self ..) (fun y n hy ha => by have := h.deep hy ha; omega) 14, show 6 + 14 = 20 from rfl, turn_pre] at h87
  have hf := h.sz.hf
  have hE : (fs.map encT).length = fs.length := List.length_map _
  unfold encM at h87 ⊢
  conv => whnf
  refine .inr (.inl ⟨[1, 2, 3, 4], Nat, fun j => ([(1, .bptr 80 0), (2, .bptr 144 0), (3, .bptr 208 0), (4, .int .i64 ((j : Int) - 1))],
    [(209, .live (.arr 1 ((fs.drop j).reverse.map encT))), (208, .live (.box [.own 1 209 0 ((fs.drop j).reverse.map encT).length .opn, .nils])), (144, .live (.box [.nils, .nils])), (80, .live (.box [.row 1 (fs.map encT), .row 7 ((r :: F).map enc47)]))]), fun j => j ≤ fs.length, fun j => j, ?_, fun j hj => ?_⟩)
  · conv => whnf
    refine ⟨fs.length, ?_, Nat.le_refl _⟩
    dsimp only
    rw [List.drop_of_length_le (Nat.le_refl _), hE, prev hf]
    exact .nilB rfl rfl (.here (.box (.chg (.same .nil)) (.same (.same .nil))))
  · have hj : j ≤ fs.length := hj
    rcases j with _ | j
    · conv => whnf
      conv => whnf
      refine ⟨fun w1 => ?_, fun w1 => ?_⟩
      · cases w1
      · replace w1 := nlti w1
        conv => whnf
        refine ⟨_, h87, ?_⟩
        conv => whnf
        conv => whnf
        refine ⟨by omega, ?_⟩
        conv => whnf
        conv => whnf
        exact .of (by rw [List.drop_zero, List.drop_zero, show rIt r = r from turns_r.root r h.plan.2.2.2.1 h.plan.2.2.2.2])
    dsimp only
    rw [show ((j + 1 : Nat) : Int) - 1 = (j : Int) by omega]
    obtain ⟨u, hu⟩ := at_ex (show j < fs.length from hj)
    have hk1 : (((fs.drop (j + 1)).reverse).map encT).length = fs.length - (j + 1) := by simp
    conv => whnf
    refine ⟨fun w1 => ?_, fun w1 => ?_⟩
    · conv => whnf
      refine ⟨⟨Int.natCast_nonneg _, by omega⟩, ?_⟩
      conv => whnf
      conv => whnf
      refine ⟨_, map_at hu, ?_⟩
      conv => whnf
      conv => whnf
      conv => whnf
      refine ⟨by simpa using by omega, ?_⟩
      conv => whnf
      conv => whnf
      refine ⟨by simpa using by omega, ?_⟩
      conv => whnf
      conv => whnf
      refine ⟨Eq.refl true, ?_⟩
      conv => whnf
      conv => whnf
      refine ⟨j, ?_, Nat.le_of_lt hj, Nat.lt_succ_self j⟩
      dsimp only
      rw [drop_snoc hu, prev (by omega), List.map_append, List.length_append]
      exact .of rfl
    · have := of_decide_eq_false w1
      omega
end Go.Ab
namespace Go.Ab
open Go.Proofs Sn
set_option maxRecDepth 100000
set_option maxHeartbeats 4000000
noncomputable def cx2 : Cx := ⟨Tryz.prog, look tyT, fun g => memN g (36 :: 80 :: brT)⟩
theorem pcall2 {f : Nat} (fn : Func) (hf : cx.P.funcs[f]? = some fn) (hok : okFn fn = true) {args : List AV} {r : AV} (h : funcP cx2 fn args r) : PCall cx.P f args r :=
  funcP_sound (cx := cx2) cx_ok cx_mixed hf (Ent.ok hf hok).2 (Ent.ok hf hok).1 h
theorem acall2 {f : Nat} (fn : Func) (hf : cx.P.funcs[f]? = some fn) (hok : okFn fn = true) {args : List AV} {σ σ' : Sto} {r : AV} (hσ : (σ.all fun p => !isFree (sget σ p.1)) = true) (h : funcA cx2 fn args σ r σ') : ACall cx.P f args σ r σ' :=
  funcA_sound (cx := cx2) cx_ok cx_mixed hf (Ent.ok hf hok).2 (Ent.ok hf hok).1 hσ h
theorem c80o {fs : List ByteArray} {r : S47} {F : List S47} (h : Ok fs r F) : ∀ (k d i : Nat) (x : S47), d + k = 6 → (r :: F)[i]? = some x → Anc S47.f0 S47.f2 (r :: F) r x d → ACall cx.P 80 [encM fs (r :: F), .int .i64 i] [] (.own 7 160 0 ((pre S47.f0 S47.f2 ordID nIt (r :: F) k x).map enc47).length .opn) [(160, .live (.arr 7 ((pre S47.f0 S47.f2 ordID nIt (r :: F) k x).map enc47)))] := by
  intro k
  induction k with
  | zero =>
    intro d i x hd hx ha
    have := h.deep (List.mem_of_getElem? hx) ha
    omega
  | succ k ih =>
    intro d i x hd hx ha
    have hm := h.sz.hm
    obtain ⟨m, hmm⟩ : ∃ m, m = r :: F := ⟨_, rfl⟩
    have hE : ((r :: F).map enc47).length = (r :: F).length := List.length_map _
    have hi := (List.getElem?_eq_some_iff.1 hx).1
    have hKm := kidsI_len (r :: F) x.f0
    have hi5 := (h.items x (List.mem_of_getElem? hx)).entry.small
    have hi6 := (h.items x (List.mem_of_getElem? hx)).exit.small
    have hS := sortI_items h x.f0
    obtain ⟨K, hK⟩ : ∃ K, K = sortL (cmpAt (r :: F)) (kidsI (r :: F) x.f0) := ⟨_, rfl⟩
    have hKl : K.length = (kidsI (r :: F) x.f0).length := by rw [hK, sortL_length]
    have h128 := c128 h x.f0
    rw [← hK] at h128 hS
    have hKE : (K.map enc0).length = K.length := List.length_map _
    have hKI : ((kidsI (r :: F) x.f0).map enc0).length = K.length := by rw [List.length_map, hKl]
    have h127 := c127 fs (r :: F) x.f0 hm
    rw [hKI] at h127 h128
    refine acall2 Tryz.f80 (by kernel_rfl) (by kernel_rfl) rfl ?_
    unfold encM at h127 ⊢
    conv => whnf
    refine ⟨⟨Int.natCast_nonneg _, by omega⟩, ?_⟩
    conv => whnf
    conv => whnf
    refine ⟨_, map_at hx, ?_⟩
    conv => whnf
    conv => whnf
    refine ⟨_, c126 _ hi5, ?_⟩
    conv => whnf
    conv => whnf
    refine ⟨_, c126 _ hi6, ?_⟩
    conv => whnf
    conv => whnf
    refine ⟨Eq.refl true, ?_⟩
    conv => whnf
    conv => whnf
    refine ⟨_, _, h127, ?_⟩
    conv => whnf
    conv => whnf
    refine ⟨_, _, h128, ?_⟩
    conv => whnf
    conv => whnf
    have hlen : ∀ t, (nIt x :: ((K.map (rd_T47 (r :: F))).take t).flatMap (pre S47.f0 S47.f2 ordID nIt (r :: F) k)).length ≤ 1048576 := fun t => by
      have h1 := Nat.le_trans (pre_len h isOrd_ID (f := nIt) (fun _ => rfl) (k + 1) (List.mem_of_getElem? hx)) hm
      refine Nat.le_trans ?_ h1
      show _ ≤ (nIt x :: (ordID (kidsOf S47.f2 (r :: F) x.f0)).flatMap (pre S47.f0 S47.f2 ordID nIt (r :: F) k)).length
      rw [← hS, List.length_cons, List.length_cons]
      refine Nat.succ_le_succ ?_
      rw [List.length_flatMap, List.length_flatMap]
      conv => rhs; rw [← List.take_append_drop t (K.map (rd_T47 (r :: F)))]
      rw [List.map_append, List.sum_append]
      exact Nat.le_add_right _ _
    refine .inr (.inl ⟨[2, 6, 32, 33, 34], Nat, fun j => ([(2, .bptr 144 0), (6, .own 7 400 0 ((nIt x :: ((K.map (rd_T47 (r :: F))).take j).flatMap (pre S47.f0 S47.f2 ordID nIt (r :: F) k)).map enc47).length .opn), (32, .own 1 2064 0 K.length .opn), (33, .int .i64 K.length), (34, .int .i64 j)],
      [(2064, .live (.arr 1 (K.map enc0))), (400, .live (.arr 7 ((nIt x :: ((K.map (rd_T47 (r :: F))).take j).flatMap (pre S47.f0 S47.f2 ordID nIt (r :: F) k)).map enc47))), (144, .live (.box [.row 1 (fs.map encT), .row 7 ((r :: F).map enc47)]))]), fun j => j ≤ K.length, fun j => K.length - j, ?_, fun j hj => ?_⟩)
    · conv => whnf
      exact ⟨0, .le (.cons _ _ _ _ _ .refl <| .cons _ _ _ _ _ .opn <| .refl _) (.refl _), Nat.zero_le _⟩
    · have hj : j ≤ K.length := hj
      conv => whnf
      refine ⟨fun w1 => ?_, fun w1 => ?_⟩
      · replace w1 := lti w1
        obtain ⟨a, hKa⟩ := at_ex w1
        have haK : a ∈ kidsI (r :: F) x.f0 := by rw [← (sortL_perm (c := cmpAt (r :: F)) _).mem_iff, ← hK]; exact List.mem_of_getElem? hKa
        obtain ⟨q, rfl, hq, hqp⟩ := kidsI_mem haK
        obtain ⟨y, hy⟩ := at_ex hq
        rw [getD_at hy] at hqp
        have hya : Anc S47.f0 S47.f2 (r :: F) r y (d + 1) := by
          have := Anc.trans (m := 1) ⟨x, List.mem_of_getElem? hx, hqp.symm, rfl⟩ ha
          rwa [Nat.add_comm] at this
        have h80 := ih (d + 1) q y (by omega) hy hya
        unfold encM at h80
        conv => whnf
        refine ⟨⟨Int.natCast_nonneg _, by omega⟩, ?_⟩
        conv => whnf
        conv => whnf
        refine ⟨_, map_at0 hKa, ?_⟩
        conv => whnf
        conv => whnf
        refine ⟨_, _, h80, ?_⟩
        conv => whnf
        conv => whnf
        have hyd : rd_T47 (r :: F) (q : Int) = y := by unfold rd_T47; rw [Int.toNat_natCast, getD_at hy]
        have hnx : (nIt x :: ((K.map (rd_T47 (r :: F))).take (j + 1)).flatMap (pre S47.f0 S47.f2 ordID nIt (r :: F) k)) = (nIt x :: ((K.map (rd_T47 (r :: F))).take j).flatMap (pre S47.f0 S47.f2 ordID nIt (r :: F) k)) ++ pre S47.f0 S47.f2 ordID nIt (r :: F) k y := by
          rw [snoc_take (show (K.map (rd_T47 (r :: F)))[j]? = some y by rw [List.getElem?_map, hKa]; exact congrArg some hyd), List.flatMap_append, List.cons_append]
          congr 2
          exact List.append_nil _
        have hl1 := hlen (j + 1)
        rw [hnx, List.length_append] at hl1
        conv => whnf
        refine ⟨by omega, ?_⟩
        conv => whnf
        conv => whnf
        refine ⟨⟨Nat.zero_add _, by rw [List.drop_zero, List.length_map, List.length_map]; show (_ + _) * 104 ≤ 2 ^ 47; omega⟩, ?_⟩
        conv => whnf
        conv => whnf
        refine ⟨j + 1, ?_, w1, by show K.length - (j + 1) < K.length - j; omega⟩
        dsimp only
        rw [hnx, up1 w1 (by omega), List.map_append, List.length_append]
        exact .of rfl
      · replace w1 := nlti w1
        conv => whnf
        have : (nIt x :: ((K.map (rd_T47 (r :: F))).take j).flatMap (pre S47.f0 S47.f2 ordID nIt (r :: F) k)) = pre S47.f0 S47.f2 ordID nIt (r :: F) (k + 1) x := by
          rw [List.take_of_length_le (by rw [List.length_map]; omega), hS]; rfl
        rw [← this]
        exact .of rfl
end Go.Ab
namespace Go.Ab
open Go.Proofs Sn
set_option maxRecDepth 100000
set_option maxHeartbeats 4000000
theorem c36o {fs : List ByteArray} {r : S47} {F : List S47} (h : Ok fs r F) : ACall cx.P 36 [encM fs (r :: F)] [] (.agg [.own 1 97 0 (fs.map encT).length .opn, .own 7 98 0 ((r :: turnT ordID nIt r F).map enc47).length .opn]) [(98, .live (.arr 7 ((r :: turnT ordID nIt r F).map enc47))), (97, .live (.arr 1 ((sortL cmpS fs).map encT)))] := acall2 Tryz.f36 (by kernel_rfl) (by kernel_rfl) rfl <| by
  have h80 := c80o h 6 0 0 r rfl rfl rfl
  rw [← pre_more' isOrd_ID (k := 6) (List.mem_cons_self ..) (fun y n hy ha => by have := h.deep hy ha; omega) 14, show 6 + 14 = 20 from rfl, turn_pre, norm_root h] at h80
  have hf := h.sz.hf
  unfold encM at h80 ⊢
  conv => whnf
  refine ⟨_, _, c78 _ hf, ?_⟩
  conv => whnf
  conv => whnf
  refine ⟨_, _, c79 _ hf, ?_⟩
  conv => whnf
  conv => whnf
  refine ⟨_, _, h80, ?_⟩
  conv => whnf
  conv => whnf
  exact .of rfl
theorem ls7' {α : Type} {l : List α} (h : l.length = 7) : ∃ u0 u1 u2 u3 u4 u5 u6, l = [u0, u1, u2, u3, u4, u5, u6] := by
  match l, h with
  | [u0, u1, u2, u3, u4, u5, u6], _ => exact ⟨u0, u1, u2, u3, u4, u5, u6, rfl⟩
theorem c8 (f : List ByteArray) (m : List S47) (h : BgM f m) : PCall cx.P 8 [encM f m] (.lit true) := pcall2 Tryz.f8 (by kernel_rfl) (by kernel_rfl) <| by
  have h29 := c29 f m h
  unfold encM at h29 ⊢
  conv => whnf
  refine ⟨_, h29, ?_⟩
  conv => whnf
  conv => whnf
  refine ⟨fun w1 => ?_, fun w1 => ?_⟩
  · replace w1 := of_decide_eq_true w1
    conv => whnf
    exact .of rfl
  · replace w1 := of_decide_eq_false w1
    have hz := SzM.of (f := f) (m := m) (by omega)
    have h34 := c34 f m hz
    unfold encM at h34
    conv => whnf
    refine ⟨_, h34, ?_⟩
    conv => whnf
    conv => whnf
    refine ⟨fun w2 => ?_, fun w2 => ?_⟩
    · conv => whnf
      exact .of rfl
    · obtain ⟨r, F, rfl, ho⟩ := isB_iff.1 (show isB f m = true by simpa using w2)
      have h42 := c42 ho
      have ho2 := ho.turn (files' := f.reverse) isOrd_rev turns_r (List.reverse_perm f)
      have h42' := c42 ho2
      rw [List.reverse_reverse, ho.rev_rev] at h42'
      have h36 := c36o ho
      have h35 := c35 _ _ _ _ hz hz
      unfold encM at h42 h42' h36 h35
      conv => whnf
      refine ⟨_, h42, ?_⟩
      conv => whnf
      conv => whnf
      refine ⟨_, h42', ?_⟩
      conv => whnf
      conv => whnf
      refine ⟨_, _, h36, ?_⟩
      conv => whnf
      conv => whnf
      conv => whnf
      obtain ⟨T, hT⟩ : ∃ T, T = (r :: turnT ordID nIt r F).map enc47 := ⟨_, rfl⟩
      have hTl : T.length ≤ 1048576 := by
        have := (ho.turn (files' := f) isOrd_ID turns_n (List.Perm.refl f)).sz.hm
        rw [hT, List.length_map]
        exact this
      have hTe : ∀ (i : Nat) (e : List AV), T[i]? = some e → e.length = 7 := fun i e he => by
        rw [hT, List.getElem?_map] at he
        obtain ⟨q, _, rfl⟩ := Option.map_eq_some_iff.1 he
        rfl
      rw [← hT]
      refine .inr (.inl ⟨[1, 3, 4, 5], Nat × List (List AV), fun a => ([(1, .bptr 80 0), (3, .bptr 208 0), (4, .bptr 272 0), (5, .int .i64 a.1)],
        [(274, .live (.arr 7 a.2)), (273, .live (.arr 1 ((sortL cmpS f).map encT))), (272, .live (.box [.own 1 273 0 (f.map encT).length .opn, .own 7 274 0 T.length .opn])), (208, .live (.box [.row 1 (f.map encT), .row 7 ((r :: F).map enc47)])), (80, .live (.box [.row 1 (f.map encT), .row 7 ((r :: F).map enc47)]))]),
        fun a => a.1 ≤ T.length ∧ a.2.length = T.length ∧ ∀ (i : Nat) (e : List AV), a.2[i]? = some e → e.length = 7, fun a => T.length - a.1, ?_, fun a ha => ?_⟩)
      · conv => whnf
        exact ⟨(0, T), .of rfl, Nat.zero_le _, rfl, hTe⟩
      · obtain ⟨j, es⟩ := a
        obtain ⟨hj, hel, he7⟩ := ha
        have hj : j ≤ T.length := hj
        have hel : es.length = T.length := hel
        have he7 : ∀ (i : Nat) (e : List AV), es[i]? = some e → e.length = 7 := he7
        conv => whnf
        refine ⟨fun w3 => ?_, fun w3 => ?_⟩
        · replace w3 := lti w3
          obtain ⟨e, hee⟩ := at_ex (l := es) (show j < es.length by omega)
          obtain ⟨a0, a1, a2, a3, a4, a5, a6, rfl⟩ := ls7' (he7 j e hee)
          conv => whnf
          refine ⟨⟨Int.natCast_nonneg _, by omega⟩, ?_⟩
          conv => whnf
          conv => whnf
          refine ⟨_, (show es[0 + ((j : Int)).toNat]? = some _ by rw [Nat.zero_add]; exact hee), ?_⟩
          conv => whnf
          conv => whnf
          conv => whnf
          refine ⟨(j + 1, es.set j [AV.str ⟨#[122, 122]⟩, a1, a2, a3, a4, a5, a6]), ?_, ⟨w3, by rw [List.length_set]; exact hel, fun i e he => ?_⟩, by show T.length - (j + 1) < T.length - j; omega⟩
          · dsimp only
            rw [up1 w3 (by omega), Nat.zero_add, Int.toNat_natCast]
            exact .of rfl
          · have he : (es.set j [AV.str ⟨#[122, 122]⟩, a1, a2, a3, a4, a5, a6])[i]? = some e := he
            rw [List.getElem?_set] at he
            split at he
            · split at he
              · cases he; rfl
              · cases he
            · exact he7 i e he
        · replace w3 := nlti w3
          conv => whnf
          refine ⟨_, h35, ?_⟩
          conv => whnf
          conv => whnf
          refine ⟨fun w4 => ?_, fun w4 => ?_⟩
          · conv => whnf
            refine ⟨_, c38, ?_⟩
            conv => whnf
            conv => whnf
            exact .of rfl
          · conv => whnf
            rw [eqq_iff.2 rfl] at w4
            cases w4
end Go.Ab
