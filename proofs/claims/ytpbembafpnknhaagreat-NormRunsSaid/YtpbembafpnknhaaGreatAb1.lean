/- Proof texts of one seat, in one file: an evaluator of the program's form, shown sound, and the functions told by it. There are no conditions but those that each theorem names. -/
import Derived.Laws.MakeOwn
import Derived.Laws.Sem
import Derived.Lib.ConvBytes
import Derived.LoopN
import Derived.Orders
import Derived.Test.YtpbembafpnknhaaGreatAb0
set_option linter.unusedVariables false
set_option linter.unusedSimpArgs false
set_option linter.unusedSectionVars false
set_option linter.unnecessarySimpa false
namespace Go.Ab
open Go.RowKit
section
variable {cx : Cx} {o : Oper} {a : Act} {w : World} {X : Nat → Prop} {ι : Nat → LS} {σ : Nat → SV} {E : Nat → AV} {al : Nat} {K : AV → Upd → List Nat → Prop}
theorem VR.lift {v : Value} {x : AV} (h : VR w X ι0 v x) : VR w X ι v x := by
  induction h with
  | pure v x h => exact .pure v x h
  | un v => exact .un v
  | bptr k o b c s h => cases h
  | ptr k i o b c s h => cases h
  | rptr b a s i o es f hX hb hs h1 h2 => exact .rptr b a s i o es f hX hb hs h1 h2
  | own s k i n c b o q vs ty h hq hb hc => cases h
  | own0 s k i a q h hq => exact absurd rfl h
  | agg vs xs hl h ih => exact .agg vs xs hl ih
  | tup vs xs hl h ih => exact .tup vs xs hl ih
  | fn f as bs xs ys ha hb h h' ih ih' => exact .fn f as bs xs ys ha hb ih ih'
theorem vwA_sound (hs : SR w X ι σ) {v : Value} {x : AV} (hv : VR w (XL X σ ι) ι v x) {K : AV → List Nat → Prop} (h : vwA σ x K) :
    ∃ y ks, K y ks ∧ (∀ k ∈ ks, σ k ≠ .free) ∧ ∀ ks', (∀ k ∈ ks, k ∈ ks') → ∀ ι', VR w (XL X (kl ks' σ) ι) ι' v y := by
  unfold vwA at h
  split at h
  · rename_i cs
    obtain ⟨us, rfl, hl, hg⟩ := hv.agg_inv
    obtain ⟨l', ks, h1, h2, _, h4, h5⟩ := vws_sound hs (us := us.toList) (l := cs) ⟨by simpa using hl, fun j v x a b => hg j v x (by simpa using a) b⟩ h
    exact ⟨_, ks, h1, h4, fun ks' hks ι' => .agg _ _ (by rw [hl, h2]) fun j u y hu hy => .pure _ _ (h5 ks' hks j u y (by simpa using hu) hy)⟩
  · rename_i k o
    rw [boxK_iff] at h
    obtain ⟨cs, hk, h⟩ := h
    obtain ⟨b, c, t, hb, e⟩ := hv.bptr_inv
    have hbr := hs.blk k _ hk
    rw [hb] at hbr
    obtain ⟨h0, vs, ty, g1, g2, g3⟩ := hbr
    subst h0
    obtain ⟨l', ks, h1, h2, _, h4, h5⟩ := vws_sound hs (us := vs.toList) (l := cs) ⟨by simpa using g2, fun j v x a b => (g3 j v x (by simpa using a) b).2⟩ h
    refine ⟨_, k :: ks, h1, fun k' hk' => ?_, fun ks' hks ι' => ?_⟩
    · rcases List.mem_cons.1 hk' with rfl | hk'
      · rw [hk]; intro e; cases e
      · exact h4 k' hk'
    · have hX : ¬ XL X (kl ks' σ) ι b := by
        rintro (hx | ⟨k2, blk, p, s, q1, q2⟩)
        · exact (hs.out b hx).2 ⟨k, _, 0, t, hk, hb⟩
        · have q3 := kl_live q1
          have := hs.inj k k2 _ _ b 0 t p s hk q3.1 hb q2
          subst this
          exact q3.2 (hks k (List.mem_cons_self ..))
      have hg : ∀ j x, l'[j]? = some x → j < vs.size ∧ vs[j]? = some (vs.getD j undef) := fun j x hx => by
        have hj : j < vs.size := by rw [g2, ← h2]; exact (List.getElem?_eq_some_iff.1 hx).1
        exact ⟨hj, by rw [Array.getD_eq_getD_getElem?]; simp [hj]⟩
      have key := VR.rptr (w := w) (X := XL X (kl ks' σ) ι) (ι := ι') b 0 cs.length 0 o [l'] (fun _ j => vs.getD j undef) hX (Array.getElem?_eq_some_iff.1 g1).1
        (fun i e he => by
          match i with
          | 0 => cases he; exact h2
          | i + 1 => simp at he)
        (fun i j e x he hx => by
          match i with
          | 0 =>
            cases he
            obtain ⟨hj, hg⟩ := hg j x hx
            obtain ⟨c, hcs⟩ : ∃ c, cs[j]? = some c := ⟨_, List.getElem?_eq_getElem (show j < cs.length by omega)⟩
            refine ⟨?_, (g3 j _ _ hg hcs).1⟩
            rw [Nat.zero_mul, Nat.zero_add, Nat.zero_add]
            unfold World.cell?
            rw [g1]
            exact hg
          | i + 1 => simp at he)
        (fun i j e x he hx => by
          match i with
          | 0 =>
            cases he
            obtain ⟨hj, hg⟩ := hg j x hx
            exact h5 ks' (fun k hk => hks k (List.mem_cons_of_mem _ hk)) j _ x (by simpa using hg) hx
          | i + 1 => simp at he)
      rw [e]
      rwa [Nat.zero_mul, Nat.zero_add] at key
  · refine ⟨_, [], h, (fun k hk => by cases hk), fun ks' _ ι' => ?_⟩
    cases hv with
    | pure _ _ h => cases h
    | rptr b a s i o es f hX hb hs' h1 h2 =>
      have hsub : ∀ b, XL X (kl ks' σ) ι b → XL X σ ι b := by
        rintro b (hx | ⟨k2, blk, p, s, q1, q2⟩)
        · exact .inl hx
        · exact .inr ⟨k2, blk, p, s, (kl_live q1).1, q2⟩
      exact .rptr _ _ _ _ _ _ f (fun hx => hX (hsub _ hx)) hb hs' h1 fun i j e x a b => (h2 i j e x a b).anti hsub
  · obtain ⟨y, ks, h1, _, h3, h4⟩ := vw_sound hs hv h
    exact ⟨y, ks, h1, h3, fun ks' hks ι' => .pure _ _ (h4 ks' hks)⟩
theorem vwAs_sound (hs : SR w X ι σ) : ∀ {l : List AV} {us : List Value}, VRs w (XL X σ ι) ι us l → ∀ {K : List AV → List Nat → Prop}, vwAs σ l K →
    ∃ l' ks, K l' ks ∧ (∀ k ∈ ks, σ k ≠ .free) ∧ ∀ ks', (∀ k ∈ ks, k ∈ ks') → ∀ ι', VRs w (XL X (kl ks' σ) ι) ι' us l'
  | [], us, hu, K, h => ⟨[], [], h, by simp, fun _ _ _ => ⟨hu.1, fun j u y _ hy => by simp at hy⟩⟩
  | x :: r, us, hu, K, h => by
    obtain ⟨hl, hg⟩ := hu
    cases us with
    | nil => simp at hl
    | cons u us =>
      rw [vwAs_cons] at h
      obtain ⟨y, ks, h1, h3, h4⟩ := vwA_sound hs (hg 0 u x rfl rfl) h
      obtain ⟨r', ks', k1, k4, k5⟩ := vwAs_sound hs (l := r) (us := us) ⟨by simpa using hl, fun j v x a b => hg (j + 1) v x (by simpa using a) (by simpa using b)⟩ h1
      refine ⟨y :: r', ks ++ ks', k1, ?_, fun ks'' hks ι' => ?_⟩
      · intro k hk
        rcases List.mem_append.1 hk with hk | hk
        · exact h3 k hk
        · exact k4 k hk
      · have e1 := h4 ks'' (fun k hk => hks k (List.mem_append.2 (.inl hk))) ι'
        have e2 := k5 ks'' (fun k hk => hks k (List.mem_append.2 (.inr hk))) ι'
        refine ⟨by simp [e2.1], fun j u' y' hu' hy' => ?_⟩
        cases j with
        | zero => simp at hu' hy'; subst hu' hy'; exact e1
        | succ j => exact e2.2 j u' y' (by simpa using hu') (by simpa using hy')
theorem Runs.call {g : Nat} {args : Array Value} {v : AV} {u : Upd} {R : Ending → World → Prop} (h : (execOp a.eval o).run cx.P w = .ok (.enter g args) w) (hc : Calls cx.P g args w R)
    (hR : ∀ e w', R e w' → ∃ cv ι', e = .returned cv ∧ Ext ι ι' ∧ SR w' X ι' (updF σ u) ∧ VR w' (XL X (updF σ u) ι') ι' cv v ∧ Adv (Lv σ ι) w (Lv (updF σ u) ι') w') : Runs cx.P o a w X ι σ v u := fun next Q hk => by
  unfold Oper.wp
  rw [h]
  refine Calls.mono hc fun e w' he => ?_
  obtain ⟨cv, ι', rfl, h1, h2, h3, h4⟩ := hR e w' he
  exact hk cv w' ι' h1 h2 h3 h4
theorem SR.quiet {w' : World} (hs : SR w X ι σ) (ha : Adv no w no w') : SR w' X ι σ ∧ Adv (Lv σ ι) w (Lv σ ι) w' := by
  have h : Adv (Lv σ ι) w (Lv σ ι) w' := ⟨ha.os, ha.tape, ha.output, ha.size, fun b hb hn => ⟨(ha.block b hb (fun h => h)).1, hn⟩, ha.kind, ha.drawn⟩
  exact ⟨hs.next (Ext.refl _) h (fun k b hk => .inl ⟨hk, fun c p s hc => (ha.block c (hs.lt hk hc) (fun h => h)).1⟩) hs.inj hs.free, h⟩
theorem scal_VR {Y : Nat → Prop} {ι' : Nat → LS} {v : Value} {x : AV} (h : VR w X ι v x) (hx : scal x = true) : VR w Y ι' v x := by
  have one : ∀ (v : Value) (x : AV), VR w X ι v x → (match x with | .int .. | .bool _ | .lit _ | .str _ | .nilp | .nils | .nilf => true | _ => false) = true → VR w Y ι' v x := by
    intro v x h hx
    cases h with
    | pure _ _ h => cases h <;> first | (cases hx; done) | skip
                    · exact .pure _ _ (.int _ _)
                    · exact .pure _ _ (.bool _)
                    · exact .pure _ _ (.lit _)
                    · exact .pure _ _ (.str _)
                    · exact .pure _ _ .nilp
                    · exact .pure _ _ .nils
                    · exact .pure _ _ .nilf
    | _ => cases hx
  cases x with
  | tup xs =>
    obtain ⟨vs, rfl, hl, hg⟩ := h.tup_inv
    simp only [scal] at hx
    refine .tup _ _ hl fun j u y hu hy => one u y (hg j u y hu hy) ?_
    have := List.all_eq_true.1 hx y (List.mem_of_getElem? hy)
    exact this
  | _ => first | exact one _ _ h rfl | (exfalso; revert hx; decide) | exact absurd hx (by simp [scal])
theorem exec_call {f : Operand} {c : Call} {g : Nat} {as bs : Array Value} (ho : o.op = .call c) (hc : c.callee = .value f) (he : a.eval f = .func (.func g) as bs) (hg : Ent cx.P g) :
    (execOp a.eval o).run cx.P w = .ok (.enter g ((as ++ c.args.map a.eval) ++ bs)) w := by
  simp [execOp, ho, resolve, hc, he, Deferred.ofValue, invoke, hg _ w]
theorem s_callP {f : Operand} {c : Call} {g : Nat} {xs ys : List AV} (ho : o.op = .call c) (hc : c.callee = .value f) (hs : SR w X ι σ) (hE : ∀ x, VR w (XL X σ ι) ι (a.eval x) (ev E x)) (hf : ev E f = .fn g xs ys)
    (h : callP cx g (xs ++ c.args.toList.map (ev E) ++ ys) σ K) : Good cx o a w X ι σ K := by
  have hx := hE f
  rw [hf] at hx
  obtain ⟨as, bs, he, ha, hb⟩ := hx.fn_inv
  unfold callP at h
  have hargs : VRs w (XL X σ ι) ι ((as ++ c.args.map a.eval) ++ bs).toList (xs ++ c.args.toList.map (ev E) ++ ys) := by
    simp only [Array.toList_append, Array.toList_map]
    exact (ha.append (VRs.map hE)).append hb
  obtain ⟨args', ks, ⟨r, ⟨hent, hp⟩, h⟩, hks, hv⟩ := vwAs_sound hs hargs h
  rw [fo_iff] at h
  have hr := exec_call (w := w) (cx := cx) ho hc he hent
  have hlt : ∀ b, XL X (kl ks σ) ι b → b < w.heap.size := by
    rintro b (h | ⟨k, blk, p, s, h1, h2⟩)
    · exact (hs.out b h).1
    · exact hs.lt (kl_live h1).1 h2
  have hcall := hp w (XL X (kl ks σ) ι) _ hlt (hv ks (fun _ h => h) ι0)
  have quietCase : (∀ w' v, VR w' (XL X (kl ks σ) ι) ι0 v r → VR w' (XL X σ ι) ι v r) → K r [] ks → Good cx o a w X ι σ K := fun hvr hK => by
    refine ⟨r, [], ks, hK, Runs.call hr hcall fun e w' ⟨v, e1, e2, e3⟩ => ?_⟩
    obtain ⟨s1, a1⟩ := hs.quiet e3
    exact ⟨v, ι, e1, Ext.refl _, s1, hvr w' v e2, a1⟩
  cases ks with
  | nil =>
    refine quietCase (fun w' v hv => ?_) h
    have : XL X (kl [] σ) ι = XL X σ ι := by
      have : kl [] σ = σ := by funext k; simp [kl]
      rw [this]
    rw [this] at hv
    exact hv.lift
  | cons k0 ks0 =>
    have h' : bif scal r then K r [] (k0 :: ks0) else K r (kills (k0 :: ks0)) (k0 :: ks0) := h
    cases hsc : scal r with
    | true =>
      rw [hsc] at h'
      exact quietCase (fun w' v hv => scal_VR hv hsc) h'
    | false =>
      rw [hsc] at h'
      have hσ : updF σ (kills (k0 :: ks0)) = kl (k0 :: ks0) σ := by funext k; rw [updF_kills]; rfl
      obtain ⟨s1, a1⟩ := hs.kill (k0 :: ks0) hks (σ' := kl (k0 :: ks0) σ) rfl
      refine ⟨r, _, _, h', Runs.call hr hcall fun e w' ⟨v, e1, e2, e3⟩ => ?_⟩
      obtain ⟨s2, a2⟩ := s1.quiet e3
      rw [hσ]
      exact ⟨v, ι, e1, Ext.refl _, s2, e2.lift, a1.trans a2⟩
end
end Go.Ab
namespace Go.Ab
open Go.RowKit
theorem nodupN_iff : ∀ {l : List Nat}, nodupN l = true ↔ l.Nodup
  | [] => by simp [nodupN]
  | a :: r => by
    unfold nodupN
    cases h : memN a r with
    | true => simp [memN_iff.1 h]
    | false =>
      have : a ∉ r := fun hm => by rw [memN_iff.2 hm] at h; cases h
      simp [this, nodupN_iff]
theorem look_mem {α : Type} : ∀ {m : List (Nat × α)} {k : Nat} {v : α}, look m k = some v → (k, v) ∈ m
  | [], k, v, h => by cases h
  | (a, b) :: r, k, v, h => by
    unfold look at h
    cases e : Nat.beq a k with
    | true => rw [e] at h; cases h; rw [Nat.eq_of_beq_eq_true e]; simp
    | false => rw [e] at h; exact List.mem_cons_of_mem _ (look_mem h)
theorem lookR_mem : ∀ {m : List (Nat × Nat)} {κ k : Nat}, lookR m κ = some k → (k, κ) ∈ m
  | [], κ, k, h => by cases h
  | (a, b) :: r, κ, k, h => by
    unfold lookR at h
    cases e : Nat.beq b κ with
    | true => rw [e] at h; cases h; rw [Nat.eq_of_beq_eq_true e]; simp
    | false => rw [e] at h; exact List.mem_cons_of_mem _ (lookR_mem h)
theorem lookR_of : ∀ {m : List (Nat × Nat)} {κ k : Nat}, (m.map (·.2)).Nodup → (k, κ) ∈ m → lookR m κ = some k
  | [], κ, k, _, h => by cases h
  | (a, b) :: r, κ, k, hn, h => by
    unfold lookR
    rw [List.map_cons, List.nodup_cons] at hn
    rcases List.mem_cons.1 h with h | h
    · cases h; simp
    · have hb : b ≠ κ := fun e => hn.1 (by subst e; exact List.mem_map.2 ⟨(k, b), h, rfl⟩)
      have : Nat.beq b κ = false := by rw [Bool.eq_false_iff]; intro e; exact hb (Nat.eq_of_beq_eq_true e)
      rw [this]
      exact lookR_of hn.2 h
theorem look_of {α : Type} : ∀ {m : List (Nat × α)} {k : Nat} {v : α}, (m.map (·.1)).Nodup → (k, v) ∈ m → look m k = some v
  | [], k, v, _, h => by cases h
  | (a, b) :: r, k, v, hn, h => by
    unfold look
    rw [List.map_cons, List.nodup_cons] at hn
    rcases List.mem_cons.1 h with h | h
    · cases h; simp
    · have hb : a ≠ k := fun e => hn.1 (by subst e; exact List.mem_map.2 ⟨(a, v), h, rfl⟩)
      have : Nat.beq a k = false := by rw [Bool.eq_false_iff]; intro e; exact hb (Nat.eq_of_beq_eq_true e)
      rw [this]
      exact look_of hn.2 h
theorem uniqR {m : List (Nat × Nat)} (hn : (m.map (·.1)).Nodup) {k κ κ' : Nat} (h : (k, κ) ∈ m) (h' : (k, κ') ∈ m) : κ = κ' := by
  have e1 := look_of hn h
  rw [look_of hn h'] at e1
  cases e1; rfl
section
variable {w : World} {Y : Nat → Prop} {ι ι' : Nat → LS} {m : List (Nat × Nat)}
theorem rn0_VR (hm : ∀ k κ, look m k = some κ → ι k ≠ .free → ι' κ = ι k) {v : Value} {x : AV} (h : VR w Y ι v x) : VR w Y ι' v (rn0 m x) := by
  cases h with
  | pure _ _ h => cases h with
    | int k n => exact .pure _ _ (.int k n)
    | bool b => exact .pure _ _ (.bool b)
    | lit b => exact .pure _ _ (.lit b)
    | str s => exact .pure _ _ (.str s)
    | nilp => exact .pure _ _ .nilp
    | nils => exact .pure _ _ .nils
    | emp a => exact .pure _ _ (.emp a)
    | nilf => exact .pure _ _ .nilf
    | fn f => exact .pure _ _ (.fn f)
    | row0 a c s => exact .pure _ _ (.row0 a c s)
    | row b o c s es f hX hb hc hs h1 h2 => exact .pure _ _ (.row b o c s es f hX hb hc hs h1 h2)
  | un => exact .un _
  | bptr k o b c s h =>
    cases hk : look m k with
    | none =>
      have e : rn0 m (.bptr k o) = .un := by simp [rn0, hk]
      rw [e]; exact .un _
    | some κ =>
      have e : rn0 m (.bptr k o) = .bptr κ o := by simp [rn0, hk]
      rw [e]; exact .bptr _ _ _ _ _ (by rw [hm k κ hk (by rw [h]; simp)]; exact h)
  | ptr k i o b c s h =>
    cases hk : look m k with
    | none =>
      have e : rn0 m (.ptr k i o) = .un := by simp [rn0, hk]
      rw [e]; exact .un _
    | some κ =>
      have e : rn0 m (.ptr k i o) = .ptr κ i o := by simp [rn0, hk]
      rw [e]; exact .ptr _ _ _ _ _ _ (by rw [hm k κ hk (by rw [h]; simp)]; exact h)
  | rptr b a s i o es f hX hb hs h1 h2 => exact .rptr b a s i o es f hX hb hs h1 h2
  | own s k i n c b o q vs ty h hq hb hc =>
    cases hk : look m k with
    | none =>
      have e : rn0 m (.own s k i n q) = .un := by simp [rn0, hk]
      rw [e]; exact .un _
    | some κ =>
      have e : rn0 m (.own s k i n q) = .own s κ i n q := by simp [rn0, hk]
      rw [e]; exact .own _ _ _ _ _ _ _ _ vs ty (by rw [hm k κ hk (by rw [h]; simp)]; exact h) hq hb hc
  | own0 s k i a q h hq =>
    cases hk : look m k with
    | none =>
      have e : rn0 m (.own s k i 0 q) = .un := by simp [rn0, hk]
      rw [e]; exact .un _
    | some κ =>
      have e : rn0 m (.own s k i 0 q) = .own s κ i 0 q := by simp [rn0, hk]
      rw [e]; exact .own0 _ _ _ _ _ (by rw [hm k κ hk h]; exact h) hq
  | agg => exact .un _
  | tup => exact .un _
  | fn f as bs xs ys ha hb h h' =>
    cases xs with
    | cons x xs => exact .un _
    | nil => cases ys with
      | cons y ys => exact .un _
      | nil =>
        have e1 : as = #[] := by simpa using ha
        have e2 : bs = #[] := by simpa using hb
        subst e1 e2
        exact .pure _ _ (.fn f)
theorem rn1_VR (hm : ∀ k κ, look m k = some κ → ι k ≠ .free → ι' κ = ι k) {v : Value} {x : AV} (h : VR w Y ι v x) : VR w Y ι' v (rn1 m x) := by
  unfold rn1
  split
  · obtain ⟨vs, rfl, hl, hg⟩ := h.agg_inv
    refine .agg _ _ (by simp [hl]) fun j u x hu hx => ?_
    rw [List.getElem?_map] at hx
    obtain ⟨x0, h0, rfl⟩ := Option.map_eq_some_iff.1 hx
    exact rn0_VR hm (hg j u x0 hu h0)
  · obtain ⟨as, bs, rfl, ha, hb⟩ := h.fn_inv
    refine VRs.fn ⟨by simpa using ha.1, fun j u x hu hx => ?_⟩ ⟨by simpa using hb.1, fun j u x hu hx => ?_⟩ _
    · rw [List.getElem?_map] at hx
      obtain ⟨x0, h0, rfl⟩ := Option.map_eq_some_iff.1 hx
      exact rn0_VR hm (ha.2 j u x0 hu h0)
    · rw [List.getElem?_map] at hx
      obtain ⟨x0, h0, rfl⟩ := Option.map_eq_some_iff.1 hx
      exact rn0_VR hm (hb.2 j u x0 hu h0)
  · exact rn0_VR hm h
theorem rn2_VR (hm : ∀ k κ, look m k = some κ → ι k ≠ .free → ι' κ = ι k) {v : Value} {x : AV} (h : VR w Y ι v x) : VR w Y ι' v (rn2 m x) := by
  unfold rn2
  split
  · obtain ⟨vs, rfl, hl, hg⟩ := h.tup_inv
    refine .tup _ _ (by simp [hl]) fun j u x hu hx => ?_
    rw [List.getElem?_map] at hx
    obtain ⟨x0, h0, rfl⟩ := Option.map_eq_some_iff.1 hx
    exact rn1_VR hm (hg j u x0 hu h0)
  · exact rn1_VR hm h
theorem rnB_BR (hm : ∀ k κ, look m k = some κ → ι k ≠ .free → ι' κ = ι k) {l : LS} {b : Blk} (h : BR w Y ι l b) : BR w Y ι' l (rnB m b) := by
  cases l with
  | free => cases b <;> exact h.elim
  | gone => cases b with
    | box cs => exact h.elim
    | arr s es => exact h
  | «at» c o s => cases b with
    | box cs =>
      obtain ⟨h0, vs, ty, h1, h2, h3⟩ := h
      refine ⟨h0, vs, ty, h1, by simp [h2], fun j v x hv hx => ?_⟩
      rw [List.getElem?_map] at hx
      obtain ⟨x0, h4, rfl⟩ := Option.map_eq_some_iff.1 hx
      exact ⟨(h3 j v x0 hv h4).1, rn0_VR hm (h3 j v x0 hv h4).2⟩
    | arr s' es => exact h
theorem BR.anti {l : LS} {b : Blk} {Z : Nat → Prop} (hYZ : ∀ b, Z b → Y b) (h : BR w Y ι l b) : BR w Z ι l b := by
  cases l with
  | free => cases b <;> exact h.elim
  | gone => cases b with
    | box cs => exact h.elim
    | arr s es => exact h
  | «at» c o s => cases b with
    | box cs =>
      obtain ⟨h0, vs, ty, h1, h2, h3⟩ := h
      exact ⟨h0, vs, ty, h1, h2, fun j v x hv hx => ⟨(h3 j v x hv hx).1, (h3 j v x hv hx).2.anti hYZ⟩⟩
    | arr s' es =>
      obtain ⟨h0, vs, ty, h1, h2, h3⟩ := h
      refine ⟨h0, vs, ty, h1, h2, fun i j e x a b => ?_⟩
      obtain ⟨u, k1, k2, k3⟩ := h3 i j e x a b
      exact ⟨u, k1, k2, k3.anti hYZ⟩
end
theorem sget_rnSto {m0 m : List (Nat × Nat)} {σ : Nat → SV} : ∀ {κ : Nat}, sget (rnSto m0 σ m) κ = match lookR m κ with | some k => rnS m0 (σ k) | none => .free := by
  induction m with
  | nil => intro κ; rfl
  | cons p r ih =>
    intro κ
    obtain ⟨k, k'⟩ := p
    show (bif Nat.beq k' κ then rnS m0 (σ k) else sget (rnSto m0 σ r) κ) = match (bif Nat.beq k' κ then some k else lookR r κ) with | some k => rnS m0 (σ k) | none => .free
    cases Nat.beq k' κ with
    | true => rfl
    | false => exact ih
def fwd (m : List (Nat × Nat)) (ι : Nat → LS) : Nat → LS := fun κ => match lookR m κ with | some k => ι k | none => .free
section
variable {w : World} {X : Nat → Prop} {ι : Nat → LS} {σ : Nat → SV} {m : List (Nat × Nat)}
theorem fwd_ok (hn2 : (m.map (·.2)).Nodup) : ∀ k κ, look m k = some κ → ι k ≠ .free → fwd m ι κ = ι k := fun k κ h _ => by
  unfold fwd; rw [lookR_of hn2 (look_mem h)]
theorem live_rnS {v : SV} {b : Blk} (h : rnS m v = .live b) : ∃ b0, v = .live b0 ∧ b = rnB m b0 := by
  cases v with
  | live b0 => cases h; exact ⟨b0, rfl, rfl⟩
  | free => cases h
  | dead => cases h
theorem Lv_fwd {b : Nat} (h : Lv (sget (rnSto m σ m)) (fwd m ι) b) : ∃ k κ blk o s, (k, κ) ∈ m ∧ σ k = .live blk ∧ ι k = .at b o s := by
  obtain ⟨κ, blk, o, s, h1, h2⟩ := h
  rw [sget_rnSto] at h1
  unfold fwd at h2
  cases hk : lookR m κ with
  | none => rw [hk] at h1; cases h1
  | some k =>
    rw [hk] at h1 h2
    obtain ⟨b0, e1, _⟩ := live_rnS h1
    exact ⟨k, κ, b0, o, s, lookR_mem hk, e1, h2⟩
theorem SR.rename (hs : SR w X ι σ) (hn2 : (m.map (·.2)).Nodup) (hn1 : (m.map (·.1)).Nodup) {Z : Nat → Prop} (hZ1 : ∀ b, Z b → XL X σ ι b) (hZ2 : ∀ b, Z b → ¬ Lv (sget (rnSto m σ m)) (fwd m ι) b) :
    SR w Z (fwd m ι) (sget (rnSto m σ m)) := by
  have hsub : ∀ b, XL Z (sget (rnSto m σ m)) (fwd m ι) b → XL X σ ι b := by
    rintro b (h | h)
    · exact hZ1 b h
    · obtain ⟨k, κ, blk, o, s, _, h1, h2⟩ := Lv_fwd h
      exact .inr ⟨k, blk, o, s, h1, h2⟩
  refine ⟨fun κ b hb => ?_, fun κ κ' b b' c o s o' s' h1 h2 h3 h4 => ?_, fun b hb => ⟨?_, hZ2 b hb⟩, fun κ => ?_⟩
  · rw [sget_rnSto] at hb
    cases hk : lookR m κ with
    | none => rw [hk] at hb; cases hb
    | some k =>
      rw [hk] at hb
      obtain ⟨b0, e1, rfl⟩ := live_rnS hb
      have hf : fwd m ι κ = ι k := by unfold fwd; rw [hk]
      rw [hf]
      exact rnB_BR (fwd_ok hn2) ((hs.blk k b0 e1).anti hsub)
  · rw [sget_rnSto] at h1 h2
    unfold fwd at h3 h4
    cases hk : lookR m κ with
    | none => rw [hk] at h1; cases h1
    | some k =>
      cases hk' : lookR m κ' with
      | none => rw [hk'] at h2; cases h2
      | some k' =>
        rw [hk] at h1 h3
        rw [hk'] at h2 h4
        obtain ⟨b0, e1, _⟩ := live_rnS h1
        obtain ⟨b0', e2, _⟩ := live_rnS h2
        have := hs.inj k k' b0 b0' c o s o' s' e1 e2 h3 h4
        subst this
        exact uniqR hn1 (lookR_mem hk) (lookR_mem hk')
  · rcases hZ1 b hb with h | h
    · exact (hs.out b h).1
    · exact hs.Lv_lt h
  · rw [sget_rnSto]
    unfold fwd
    cases hk : lookR m κ with
    | none => simp
    | some k =>
      simp only
      rw [← hs.free k]
      cases σ k <;> simp [rnS]
end
end Go.Ab
namespace Go.Ab
open Go.RowKit
theorem addCs_ex {f : List (Nat × Nat) → Nat → AV → (List (Nat × Nat) → Prop) → Prop} (hf : ∀ m κ v K, f m κ v K → ∃ m', K m') : ∀ (l : List AV) (m : List (Nat × Nat)) (κ : Nat) (K : List (Nat × Nat) → Prop), addCs f l m κ K → ∃ m', K m'
  | [], m, _, K, h => ⟨m, h⟩
  | v :: r, m, κ, K, h => by
    obtain ⟨m', h'⟩ := hf m κ v _ h
    exact addCs_ex hf r m' (κ + 1) K h'
theorem addV_ex (st : Bool) (σ : Nat → SV) : ∀ (n : Nat) (m : List (Nat × Nat)) (κ : Nat) (v : AV) (K : List (Nat × Nat) → Prop), addV st σ n m κ v K → ∃ m', K m'
  | 0, _, _, _, _, h => h.elim
  | n + 1, m, κ, v, K, h => by
    have ih := addV_ex st σ n
    have key : ∀ k, (match look m k with
        | some _ => K m
        | none => match σ k with
          | .live (.box cs) => addCs (addV st σ n) cs ((k, κ) :: m) (κ + 1) K
          | .live (.arr _ _) => K ((k, κ) :: m)
          | _ => bif st then False else K m) → ∃ m', K m' := by
      intro k h
      split at h
      · exact ⟨_, h⟩
      · split at h
        · exact addCs_ex ih _ _ _ _ h
        · exact ⟨_, h⟩
        · cases st with
          | true => exact h.elim
          | false => exact ⟨_, h⟩
    cases v with
    | own s k i n q => exact key k h
    | ptr k i p => exact key k h
    | bptr k p => exact key k h
    | agg cs => exact addCs_ex ih cs m (κ + 1) K h
    | tup cs => exact addCs_ex ih cs m (κ + 1) K h
    | fn f a b =>
      have h1 : addCs (addV st σ n) a m (κ + 1) (fun m => addCs (addV st σ n) b m (κ + 4) K) := h
      obtain ⟨m', h''⟩ := addCs_ex ih _ _ _ _ h1
      exact addCs_ex ih _ _ _ _ h''
    | _ => exact ⟨m, h⟩
theorem addE_ex (st : Bool) (σ : Nat → SV) (E : Nat → AV) (base : Nat) : ∀ (l : List Nat) (m : List (Nat × Nat)) (K : List (Nat × Nat) → Prop), addE st σ E base l m K → ∃ m', K m'
  | [], m, K, h => ⟨m, h⟩
  | t :: r, m, K, h => by
    have h1 : addV st σ 4 m (64 * t + base) (E t) (fun m' => addE st σ E base r m' K) := h
    obtain ⟨m', h'⟩ := addV_ex st σ _ _ _ _ _ h1
    exact addE_ex st σ E base r m' K h'
theorem addP_ex (σ : Nat → SV) : ∀ (l : List Nat) (m : List (Nat × Nat)) (K : List (Nat × Nat) → Prop), addP σ l m K → ∃ m', K m'
  | [], m, K, h => ⟨m, h⟩
  | k :: r, m, K, h => by
    have h' : (match look m k with
      | some _ => addP σ r m K
      | none => match σ k with
        | .live (.box cs) => addP σ r ((k, k) :: m) fun m => addCs (addV false σ 3) cs m (k + 16) K
        | _ => addP σ r ((k, k) :: m) K) := h
    split at h'
    · exact addP_ex σ r _ _ h'
    · split at h'
      · obtain ⟨m', h''⟩ := addP_ex σ r _ _ h'
        exact addCs_ex (addV_ex false σ 3) _ _ _ _ h''
      · exact addP_ex σ r _ _ h'
theorem mOk_fact {σ : Nat → SV} {pins : List Nat} {m : List (Nat × Nat)} (h : mOk σ pins m = true) : (m.map (·.1)).Nodup ∧ (m.map (·.2)).Nodup ∧ (∀ p ∈ m, σ p.1 ≠ .free) ∧ ∀ k ∈ pins, (k, k) ∈ m := by
  simp only [mOk, nodupM, Bool.and_eq_true] at h
  obtain ⟨⟨⟨h1, h2⟩, h3⟩, h4⟩ := h
  refine ⟨nodupN_iff.1 h1, nodupN_iff.1 h2, fun p hp e => ?_, fun k hk => ?_⟩
  · have := List.all_eq_true.1 h3 p hp
    rw [e] at this
    cases this
  · have := List.all_eq_true.1 h4 k hk
    split at this
    · rename_i k' hk'
      rw [← Nat.eq_of_beq_eq_true this] at hk'
      exact look_mem hk'
    · cases this
theorem updF_append : ∀ (u u' : Upd) (σ : Nat → SV), updF σ (u ++ u') = updF (updF σ u) u'
  | [], _, _ => rfl
  | x :: u, u', σ => by
    show updF _ (u ++ u') = updF (updF _ u) u'
    exact updF_append u u' _
theorem updF_pairs {f : Nat → SV} : ∀ {l : List (Nat × Nat)} (σ : Nat → SV), (l.map (·.2)).Nodup → ∀ k, updF σ (l.map fun p => (p.2, f p.1)) k = match lookR l k with | some κ => f κ | none => σ k
  | [], σ, _, k => rfl
  | (κ, k0) :: r, σ, hn, k => by
    rw [List.map_cons, List.nodup_cons] at hn
    show updF (fun k' => if k' = k0 then f κ else σ k') (r.map fun p => (p.2, f p.1)) k = match (bif Nat.beq k0 k then some κ else lookR r k) with | some κ => f κ | none => σ k
    rw [updF_pairs _ hn.2]
    by_cases e : k = k0
    · subst e
      have hr : lookR r k = none := by
        cases hl : lookR r k with
        | none => rfl
        | some κ' => exact absurd (List.mem_map.2 ⟨(κ', k), lookR_mem hl, rfl⟩) hn.1
      simp [hr]
    · have hb : Nat.beq k0 k = false := by rw [Bool.eq_false_iff]; intro e'; exact e (Nat.eq_of_beq_eq_true e').symm
      rw [hb]
      simp only [cond_false]
      cases lookR r k <;> simp [e]
theorem rnSto_pairs (m0 : List (Nat × Nat)) (σ : Nat → SV) : ∀ (l : List (Nat × Nat)), rnSto m0 σ l = l.map fun p => (p.2, rnS m0 (σ p.1))
  | [] => rfl
  | (k, k') :: r => by simp [rnSto, rnSto_pairs m0 σ r]
theorem backM_keys (m : List (Nat × Nat)) (al : Nat) : ∀ (σ : Sto), (backM m al σ).map (·.1) = σ.map (·.1)
  | [] => rfl
  | (κ, v) :: r => by simp [backM, backM_keys m al r]
theorem backM_mem {m : List (Nat × Nat)} {al : Nat} : ∀ {σ : Sto} {κ k : Nat}, (κ, k) ∈ backM m al σ → k = (match lookR m κ with | some k => k | none => al + κ % 16)
  | [], _, _, h => by cases h
  | (κ0, v) :: r, κ, k, h => by
    rcases List.mem_cons.1 h with h | h
    · cases h; rfl
    · exact backM_mem h
theorem newOk_fact {m : List (Nat × Nat)} {al : Nat} {σ : Nat → SV} : ∀ {τ : Sto} {κ : Nat}, newOk m al σ τ = true → κ ∈ τ.map (·.1) → lookR m κ = none → σ (al + κ % 16) = .free
  | [], _, _, h, _ => by cases h
  | (κ0, v) :: r, κ, h, hm, hl => by
    unfold newOk at h
    rw [List.map_cons] at hm
    split at h
    · rename_i k hk
      rcases List.mem_cons.1 hm with e | hm
      · simp only at e; subst e; rw [hl] at hk; cases hk
      · exact newOk_fact h hm hl
    · split at h
      · rename_i hf
        rcases List.mem_cons.1 hm with e | hm
        · simp only at e; subst e; exact hf
        · exact newOk_fact h hm hl
      · cases h
section
variable {cx : Cx} {o : Oper} {a : Act} {w : World} {X : Nat → Prop} {ι : Nat → LS} {σ : Nat → SV} {E : Nat → AV} {al : Nat} {K : AV → Upd → List Nat → Prop}
def bwd (mb : List (Nat × Nat)) (ι ιc : Nat → LS) : Nat → LS := fun k => match lookR mb k with | some κ => ιc κ | none => ι k
theorem s_callR {f : Operand} {c : Call} {g : Nat} {xs ys : List AV} (ho : o.op = .call c) (hc : c.callee = .value f) (hs : SR w X ι σ) (hE : ∀ x, VR w (XL X σ ι) ι (a.eval x) (ev E x)) (hf : ev E f = .fn g xs ys)
    (h : callR cx al g (xs ++ c.args.toList.map (ev E) ++ ys) σ K) : Good cx o a w X ι σ K := by
  have hx := hE f
  rw [hf] at hx
  obtain ⟨as, bs, he, ha, hb⟩ := hx.fn_inv
  have hargs : VRs w (XL X σ ι) ι ((as ++ c.args.map a.eval) ++ bs).toList (xs ++ c.args.toList.map (ev E) ++ ys) := by
    simp only [Array.toList_append, Array.toList_map]
    exact (ha.append (VRs.map hE)).append hb
  unfold callR at h
  obtain ⟨m, h⟩ := addE_ex _ _ _ _ _ _ _ h
  simp only [bK_iff, mapK_iff (rn1K_iff m), rnStoK_iff, backK_iff, rn2K_iff] at h
  obtain ⟨hok, r, σ', ⟨hent, hp⟩, ⟨hmb, hK⟩⟩ := h
  obtain ⟨hn1, hn2, hnf, _⟩ := mOk_fact hok
  simp only [Bool.and_eq_true, nodupM] at hmb
  obtain ⟨⟨hb1, hb2⟩, hnew⟩ := hmb
  have hb1 := nodupN_iff.1 hb1
  have hb2 := nodupN_iff.1 hb2
  have hr := exec_call (w := w) (cx := cx) ho hc he hent
  let Z : Nat → Prop := fun b => XL X σ ι b ∧ ¬ Lv (sget (rnSto m σ m)) (fwd m ι) b
  have hsc : SR w Z (fwd m ι) (sget (rnSto m σ m)) := hs.rename hn2 hn1 (fun _ (h : XL X σ ι _ ∧ _) => h.1) (fun _ (h : XL X σ ι _ ∧ _) => h.2)
  have hsub : ∀ b, XL Z (sget (rnSto m σ m)) (fwd m ι) b → XL X σ ι b := by
    rintro b (h | h)
    · exact h.1
    · obtain ⟨k, κ, blk, o, s, _, h1, h2⟩ := Lv_fwd h
      exact .inr ⟨k, blk, o, s, h1, h2⟩
  have hcall := hp w Z (fwd m ι) _ hsc ⟨by rw [hargs.1]; simp, fun j v x hv hx => by
    rw [List.getElem?_map] at hx
    obtain ⟨x0, h0, rfl⟩ := Option.map_eq_some_iff.1 hx
    exact rn1_VR (fwd_ok hn2) ((hargs.2 j v x0 hv h0).anti hsub)⟩
  refine ⟨_, _, _, hK, Runs.call hr hcall fun e w' ⟨v, ι', e1, e2, e3, e4, e5⟩ => ?_⟩
  let mb := backM m al σ'
  let σ2 : Nat → SV := fun k => match lookR mb k with | some κ => rnS mb (sget σ' κ) | none => if k ∈ (m.map fun p => p.1) then .dead else σ k
  have hσ2 : updF σ (kills (m.map (·.1)) ++ rnSto mb (sget σ') mb) = σ2 := by
    funext k
    rw [updF_append, rnSto_pairs, updF_pairs (f := fun κ => rnS mb (sget σ' κ)) (l := mb) _ hb2]
    show (match lookR mb k with | some κ => rnS mb (sget σ' κ) | none => updF σ (kills (List.map (fun (p : Nat × Nat) => p.1) m)) k) = σ2 k
    rw [updF_kills]
  have hback : ∀ κ k, lookR mb k = some κ → (∃ (h : lookR m κ = some k), (k, κ) ∈ m) ∨ (lookR m κ = none ∧ σ k = .free) := fun κ k hk => by
    have hmem := lookR_mem hk
    have hkey : κ ∈ σ'.map (·.1) := by rw [← backM_keys m al σ']; exact List.mem_map.2 ⟨(κ, k), hmem, rfl⟩
    have hval := backM_mem hmem
    cases hl : lookR m κ with
    | some k' => rw [hl] at hval; simp only at hval; subst hval; exact .inl ⟨rfl, lookR_mem hl⟩
    | none => rw [hl] at hval; simp only at hval; subst hval; exact .inr ⟨rfl, newOk_fact hnew hkey hl⟩
  have hext : Ext ι (bwd mb ι ι') := fun k hk => by
    unfold bwd
    cases hl : lookR mb k with
    | none => rfl
    | some κ =>
      rcases hback κ k hl with ⟨h1, h2⟩ | ⟨_, h2⟩
      · have hf : fwd m ι κ = ι k := by unfold fwd; rw [h1]
        show ι' κ = ι k
        rw [e2 κ (by rw [hf]; exact hk), hf]
      · exact absurd ((hs.free k).1 h2) hk
  have hbm : ∀ κ k, look mb κ = some k → ι' κ ≠ .free → bwd mb ι ι' k = ι' κ := fun κ k hk _ => by
    unfold bwd; rw [lookR_of hb2 (look_mem hk)]
  have hlive : ∀ k b, σ2 k = .live b → (∃ κ b0, lookR mb k = some κ ∧ sget σ' κ = .live b0 ∧ b = rnB mb b0) ∨ (lookR mb k = none ∧ k ∉ m.map (·.1) ∧ σ k = .live b) := fun k b hk => by
    simp only [σ2] at hk
    cases hl : lookR mb k with
    | some κ =>
      rw [hl] at hk
      obtain ⟨b0, h1, h2⟩ := live_rnS hk
      exact .inl ⟨κ, b0, rfl, h1, h2⟩
    | none =>
      rw [hl] at hk
      simp only at hk
      split at hk
      · cases hk
      · exact .inr ⟨rfl, by assumption, hk⟩
  have hLv : ∀ b, Lv σ2 (bwd mb ι ι') b → Lv (sget σ') ι' b ∨ (∃ k blk p s, k ∉ m.map (·.1) ∧ σ k = .live blk ∧ ι k = .at b p s) := by
    rintro b ⟨k, blk, p, s, h1, h2⟩
    rcases hlive k blk h1 with ⟨κ, b0, h3, h4, _⟩ | ⟨h3, h4, h5⟩
    · unfold bwd at h2; rw [h3] at h2; exact .inl ⟨κ, b0, p, s, h4, h2⟩
    · unfold bwd at h2; rw [h3] at h2; exact .inr ⟨k, blk, p, s, h4, h5, h2⟩
  have hother : ∀ k blk b p s, k ∉ m.map (·.1) → σ k = .live blk → ι k = .at b p s → ¬ Lv (sget (rnSto m σ m)) (fwd m ι) b := fun k blk b p s h1 h2 h3 h4 => by
    obtain ⟨k', κ', blk', p', s', g1, g2, g3⟩ := Lv_fwd h4
    have := hs.inj k k' blk blk' b p s p' s' h2 g2 h3 g3
    subst this
    exact h1 (List.mem_map.2 ⟨_, g1, rfl⟩)
  have hZ : ∀ k blk b p s, k ∉ m.map (·.1) → σ k = .live blk → ι k = .at b p s → Z b := fun k blk b p s h1 h2 h3 => ⟨.inr ⟨k, blk, p, s, h2, h3⟩, hother k blk b p s h1 h2 h3⟩
  have hnotLc : ∀ b, ¬ Lv σ ι b → ¬ Lv (sget (rnSto m σ m)) (fwd m ι) b := fun b h h' => by
    obtain ⟨k, κ, blk, o, s, _, h1, h2⟩ := Lv_fwd h'
    exact h ⟨k, blk, o, s, h1, h2⟩
  have hadv : Adv (Lv σ ι) w (Lv σ2 (bwd mb ι ι')) w' := by
    refine ⟨e5.os, e5.tape, e5.output, e5.size, fun b hb hn => ?_, e5.kind, e5.drawn⟩
    obtain ⟨g1, g2⟩ := e5.block b hb (hnotLc b hn)
    refine ⟨g1, fun hl => ?_⟩
    rcases hLv b hl with h | ⟨k, blk, p, s, _, h2, h3⟩
    · exact g2 h
    · exact hn ⟨k, blk, p, s, h2, h3⟩
  have hXL : ∀ b, XL X σ2 (bwd mb ι ι') b → XL Z (sget σ') ι' b := by
    rintro b (h | h)
    · exact .inl ⟨.inl h, hnotLc b (hs.out b h).2⟩
    · rcases hLv b h with h | ⟨k, blk, p, s, h1, h2, h3⟩
      · exact .inr h
      · exact .inl (hZ k blk b p s h1 h2 h3)
  rw [hσ2]
  refine ⟨v, bwd mb ι ι', e1, hext, hs.next hext hadv (fun k b hk => ?_) (fun k1 k2 b1 b2 c p s p' s' h1 h2 h3 h4 => ?_) (fun k => ?_), rn2_VR hbm (e4.anti hXL), hadv⟩
  · rcases hlive k b hk with ⟨κ, b0, h1, h2, rfl⟩ | ⟨h1, h2, h3⟩
    · refine .inr ?_
      have : bwd mb ι ι' k = ι' κ := by unfold bwd; rw [h1]
      rw [this]
      exact rnB_BR hbm ((e3.blk κ b0 h2).anti hXL)
    · exact .inl ⟨h3, fun c p s hc => (e5.block c (hs.lt h3 hc) (hother k b c p s h2 h3 hc)).1⟩
  · rcases hlive k1 b1 h1 with ⟨κ1, c1, g1, g2, _⟩ | ⟨g1, g2, g3⟩ <;> rcases hlive k2 b2 h2 with ⟨κ2, c2, q1, q2, _⟩ | ⟨q1, q2, q3⟩
    · unfold bwd at h3 h4
      rw [g1] at h3
      rw [q1] at h4
      have := e3.inj κ1 κ2 c1 c2 c p s p' s' g2 q2 h3 h4
      subst this
      exact uniqR (m := mb) hb1 (lookR_mem g1) (lookR_mem q1)
    · unfold bwd at h3 h4
      rw [g1] at h3
      rw [q1] at h4
      exact absurd ⟨κ1, c1, p, s, g2, h3⟩ (e3.out c (hZ k2 b2 c p' s' q2 q3 h4)).2
    · unfold bwd at h3 h4
      rw [g1] at h3
      rw [q1] at h4
      exact absurd ⟨κ2, c2, p', s', q2, h4⟩ (e3.out c (hZ k1 b1 c p s g2 g3 h3)).2
    · unfold bwd at h3 h4
      rw [g1] at h3
      rw [q1] at h4
      exact hs.inj k1 k2 b1 b2 c p s p' s' g3 q3 h3 h4
  · simp only [σ2, bwd]
    cases hl : lookR mb k with
    | some κ =>
      simp only
      rw [← e3.free κ]
      cases sget σ' κ <;> simp [rnS]
    | none =>
      simp only
      split
      · rename_i hm
        obtain ⟨p, hp1, rfl⟩ := List.mem_map.1 hm
        have := hnf p hp1
        simp only [reduceCtorEq, false_iff]
        exact fun e => this ((hs.free p.1).2 e)
      · exact hs.free k
end
end Go.Ab
namespace Go.Ab
open Go.RowKit
section
variable {cx : Cx} {o : Oper} {a : Act} {w : World} {X : Nat → Prop} {ι : Nat → LS} {σ : Nat → SV} {E : Nat → AV} {al : Nat} {K : AV → Upd → List Nat → Prop}
theorem call_eta (c : Call) (b : Builtin) (hc : c.callee = .builtin b) : c = ⟨.builtin b, c.args, c.argTypes⟩ := by cases c; simp_all
theorem arr1 {α : Type} {l : Array α} {x : α} (h : l.toList = [x]) : l = #[x] := by apply Array.ext'; simpa using h
theorem arr2 {α : Type} {l : Array α} {x y : α} (h : l.toList = [x, y]) : l = #[x, y] := by apply Array.ext'; simpa using h
theorem map1 {l : List Operand} {v : AV} (h : l.map (ev E) = [v]) : ∃ x, l = [x] := by
  cases l with
  | nil => cases h
  | cons x r => cases r with
    | nil => exact ⟨x, rfl⟩
    | cons => simp at h
theorem map2 {l : List Operand} {v u : AV} (h : l.map (ev E) = [v, u]) : ∃ x y, l = [x, y] := by
  cases l with
  | nil => cases h
  | cons x r => cases r with
    | nil => simp at h
    | cons y r => cases r with
      | nil => exact ⟨x, y, rfl⟩
      | cons => simp at h
end
structure Sim (N : Nat) (X : Nat → Prop) (E : Nat → AV) (σ : Nat → SV) (ι : Nat → LS) (a : Act) (w : World) : Prop where
  env : ∀ t, VR w (XL X σ ι) ι (a.tmps.getD t undef) (E t)
  sr : SR w X ι σ
  size : a.tmps.size = N
  defers : a.defers = []
section
variable {cx : Cx} {w : World} {X : Nat → Prop} {ι : Nat → LS} {σ : Nat → SV} {E : Nat → AV} {N : Nat} {a : Act}
theorem Sim.ops (h : Sim N X E σ ι a w) (x : Operand) : VR w (XL X σ ι) ι (a.eval x) (ev E x) := by
  cases x with
  | tmp t => exact h.env t
  | const v => exact cv_VR _ _ _ v
  | global g => exact .un _
  | func f => exact .pure _ _ (.fn f)
def upD (d : Option Nat) (v : AV) (E : Nat → AV) : Nat → AV := match d with
  | some d => fun t => if t = d then v else E t
  | none => E
theorem get_upE (d : Option Nat) (v : AV) (E : Env) : get (upE d v E) = upD d v (get E) := by
  cases d with
  | none => rfl
  | some d =>
    funext t
    show (bif Nat.beq d t then v else get E t) = if t = d then v else get E t
    by_cases h : t = d
    · subst h; simp
    · have : Nat.beq d t = false := by rw [Bool.eq_false_iff]; intro e; exact h (Nat.eq_of_beq_eq_true e).symm
      simp [this, h]
theorem Sim.put (h : Sim N X E σ ι a w) {d : Option Nat} (hd : ∀ t, d = some t → t < N) {cv : Value} {v : AV} {w' : World} {ι' : Nat → LS} {σ' : Nat → SV} (he : Ext ι ι') (hs : SR w' X ι' σ') (hv : VR w' (XL X σ' ι') ι' cv v) (ha : Adv (Lv σ ι) w (Lv σ' ι') w') :
    Sim N X (upD d v E) σ' ι' (a.put d cv) w' := by
  have hold : ∀ t, VR w' (XL X σ' ι') ι' (a.tmps.getD t undef) (E t) := fun t => (h.env t).step ha he
  cases d with
  | none => exact ⟨hold, hs, h.size, h.defers⟩
  | some d =>
    refine ⟨fun t => ?_, hs, by simp [Act.put, h.size], h.defers⟩
    show VR w' _ ι' ((a.tmps.setIfInBounds d cv).getD t undef) (if t = d then v else E t)
    by_cases e : t = d
    · subst e
      have := hd t rfl
      rw [← h.size] at this
      simp [Array.getD_eq_getD_getElem?, this, hv]
    · rw [if_neg e]
      have : (a.tmps.setIfInBounds d cv).getD t undef = a.tmps.getD t undef := by
        simp only [Array.getD_eq_getD_getElem?]
        rw [Array.getElem?_setIfInBounds_ne (fun h => e h.symm)]
      rw [this]
      exact hold t
def nm (g : Bool) (v : AV) : AV := bif g then (match v with | .bool b => .lit b | v => v) else v
theorem nm_VR (g : Bool) {v : AV} {cv : Value} {Y : Nat → Prop} (h : VR w Y ι cv v) : VR w Y ι cv (nm g v) := by
  cases g with
  | false => exact h
  | true =>
    cases v with
    | bool b => rw [h.bool_inv]; exact .pure _ _ (.lit b)
    | _ => exact h
theorem put_spec {ops : List Oper} {i : Nat} {d : Option Nat} {E : Env} {v : AV} {K : Env → Prop} (h : Ab.put ops i d E v K) : K (upE d (nm (memN i (gset ops)) v) E) := by
  unfold Ab.put at h
  cases hg : memN i (gset ops) with
  | false => rw [hg] at h; exact h
  | true =>
    rw [hg] at h
    simp only [cond_true] at h
    cases v with
    | bool b => cases b with
      | true => exact h.1 rfl
      | false => exact h.2 rfl
    | _ => exact h
theorem guard_spec {ops : Array Oper} {g : Option (Nat × Bool)} {E : Env} {go skip : Prop} (h : guardK ops.toList g E go skip) (hs : ∀ t, VR w (XL X σ ι) ι (a.tmps.getD t undef) (get E t)) {o : Oper} (ho : o.guard = g) :
    (Region.wanted o (yielded ops a.tmps) = true ∧ go) ∨ (Region.wanted o (yielded ops a.tmps) = false ∧ skip) := by
  unfold guardK at h
  split at h
  · exact .inl ⟨by simp [Region.wanted, ho], h⟩
  · rename_i j want
    split at h
    · rename_i d hd
      have hdd : (ops[j]?).bind (·.dst) = some d := by
        unfold dstOf at hd
        have e : ops.toList[j]? = ops[j]? := by simp
        rw [e] at hd
        cases hj : ops[j]? with
        | none => rw [hj] at hd; cases hd
        | some o' => rw [hj] at hd; simpa using hd
      have hv := hs d
      have hy : ∀ b : Bool, a.tmps.getD d undef = .bool b → yielded ops a.tmps j = some b := fun b hb => by
        unfold yielded
        rw [hdd]
        simp only [Option.bind_some]
        rw [Array.getD_eq_getD_getElem?] at hb
        cases ht : a.tmps[d]? with
        | none => rw [ht] at hb; simp [undef] at hb
        | some v => rw [ht] at hb; simp at hb; subst hb; rfl
      split at h
      · rename_i b hb
        rw [hb] at hv
        have := hy b hv.lit_inv
        cases b <;> cases want <;> simp at h <;> first
          | exact .inl ⟨by simp [Region.wanted, ho, this], h⟩
          | exact .inr ⟨by simp [Region.wanted, ho, this], h⟩
      · rename_i hb
        rw [hb] at hv
        obtain ⟨vs, e, hl, _⟩ := hv.tup_inv
        have hn : yielded ops a.tmps j = none := by
          unfold yielded
          rw [hdd]
          simp only [Option.bind_some]
          rw [Array.getD_eq_getD_getElem?] at e
          cases ht : a.tmps[d]? with
          | none => rfl
          | some v => rw [ht] at e; simp at e; subst e; rfl
        exact .inr ⟨by simp [Region.wanted, ho, hn], h⟩
      · exact h.elim
    · exact h.elim
theorem skip_VR {Y : Nat → Prop} : VR w Y ι undef (.tup []) := .tup _ _ rfl fun j u x h _ => by simp at h
end
section
variable {cx : Cx} {o : Oper} {a : Act} {w : World} {X : Nat → Prop} {ι : Nat → LS} {σ : Nat → SV} {E : Nat → AV} {al : Nat} {K : AV → Upd → List Nat → Prop}
theorem run_eqIn_nilsl (t e D : Nat) (P : Program) (w : World) (hu : P.underlying t = some (.slice e)) (p : Option Addr) (n c : Nat) : (Op.equalIn (D + 1) t (.slice p n c) (.slice none 0 0)).run P w = .ok p.isNone w := by
  cases p <;> simp [Op.equalIn, run_underlying hu]
theorem run_nilsl (t e : Nat) (P : Program) (w : World) (hu : P.underlying t = some (.slice e)) (p : Option Addr) (n c : Nat) (x y : Operand) :
    (do eqGuard .eql t x y (.slice p n c) (.slice none 0 0); binOp .eql t (.slice p n c) (.slice none 0 0) : Sem Value).run P w = .ok (.bool p.isNone) w := by
  have he : (Op.equal t (.slice p n c) (.slice none 0 0)).run P w = .ok p.isNone w := run_eqIn_nilsl t e 9999 P w hu p n c
  simp [eqGuard, binOp, he]
theorem convS_sound (hT : TOk cx) (hs : SR w X ι σ) (hE : ∀ x, VR w (XL X σ ι) ι (a.eval x) (ev E x)) {D : Prop} (hD : D → Good cx o a w X ι σ K) (h : convS cx o.op (o.op.operands.toList.map (ev E)) K D) : Good cx o a w X ι σ K := by
  unfold convS at h
  split at h
  · rename_i s t x ho
    rw [ho] at h
    split at h
    · rename_i b hvs
      have hvx : ev E x = .str b := (List.cons.inj hvs).1
      have hx := hE x
      rw [hvx] at hx
      have hv := hx.str_inv
      split at h
      · rename_i sz bt z e sz' bt' z' hts htt
        split at h
        · rename_i sz2 bt2 z2 hte
          obtain ⟨i1, d1, zz1, f1⟩ := hT.fact hts
          obtain ⟨i2, d2, zz2, f2⟩ := hT.fact htt
          obtain ⟨i3, d3, zz3, f3⟩ := hT.fact hte
          have hu2 : cx.P.underlying t = some (.slice e) := by have := f2.slice rfl; subst this; exact f2.und
          have hu3 : cx.P.underlying e = some (.int .u8) := by have := f3.int rfl; subst this; exact f3.und
          have hr := Go.Lib.run_convert_string_bytes w s t e b f1.und hu2 hu3
          have hq : Adv no w no (Go.Lib.bytesWorld w e b) := ⟨rfl, rfl, rfl, by rw [Go.Lib.bytesWorld_size]; omega, fun j hj _ => ⟨Go.Lib.bytesWorld_at_old w e b j hj, fun h => h⟩, fun j vs ty fr hj => ⟨vs, by rw [Go.Lib.bytesWorld_at_old w e b j (Array.getElem?_eq_some_iff.1 hj).1]; exact hj, rfl⟩, Nat.le_succ _⟩
          obtain ⟨s1, a1⟩ := hs.quiet hq
          refine ⟨_, _, _, h, Runs.val (w' := Go.Lib.bytesWorld w e b) (cv := .slice (some ⟨w.heap.size, 0, none⟩) b.size (grownCap w b.size 0 e)) ?_ (Ext.refl _) s1 (.pure _ _ ?_) a1⟩
          · simp [execOp, ho, hv, hr]
          · have hl : (b.data.toList.map fun c => [AV.int .u8 c.toNat]).length = b.size := by rw [List.length_map]; exact Array.length_toList
            rw [← hl]
            have hlt : ∀ (i : Nat) (e : List AV), (b.data.toList.map fun c => [AV.int .u8 c.toNat])[i]? = some e → i < b.size ∧ e = [.int .u8 (b.data.toList.getD i 0).toNat] := fun i e he => by
              rw [List.getElem?_map] at he
              obtain ⟨c, hc, rfl⟩ := Option.map_eq_some_iff.1 he
              refine ⟨?_, by rw [List.getD_eq_getElem?_getD, hc]; rfl⟩
              have := (List.getElem?_eq_some_iff.1 hc).1
              simpa using this
            refine .row w.heap.size 0 _ 1 _ (fun i j => .int .u8 (b.data.toList.getD i 0).toNat) (fun h => h.elim (fun h => Nat.lt_irrefl _ (hs.out _ h).1) (fun h => Nat.lt_irrefl _ (hs.Lv_lt h))) (by rw [Go.Lib.bytesWorld_size]; omega) ?_ (fun i e he => by rw [(hlt i e he).2]; rfl) (fun i j e x he hx => ?_) (fun i j e x he hx => ?_)
            · rw [hl]
              exact grownCap_ge w b.size 0 e
            · obtain ⟨h1, rfl⟩ := hlt i e he
              match j with
              | 0 =>
                refine ⟨?_, rfl⟩
                rw [show 0 + (i * 1 + 0) = i by omega]
                exact Go.Lib.bytesWorld_cell w _ b i h1
              | j + 1 => simp at hx
            · obtain ⟨h1, rfl⟩ := hlt i e he
              match j with
              | 0 => cases hx; exact .int _ _
              | j + 1 => simp at hx
        · exact hD h
      · exact hD h
    · exact hD h
  · exact hD h
theorem zfacts {P : Program} {t : Nat} {ti : TI} {i : TypeInfo} {d : TypeDesc} {z : Value} (f : TFact P t ti i d z) (w : World) (Y : Nat → Prop) (n N : Nat) (hN : n * ti.size ≤ N) :
    (∀ (j : Nat) (e : List AV), (List.replicate n ti.zero)[j]? = some e → e.length = ti.size) ∧ ∀ (j p : Nat) (e : List AV) (x : AV), (List.replicate n ti.zero)[j]? = some e → e[p]? = some x → ∃ u, ((Array.range N).map (z.cells[· % z.cells.size]!))[j * ti.size + p]? = some u ∧ u.oneCell' = true ∧ PR w Y u x := by
  obtain ⟨z1, z2⟩ := zero_rel f w Y
  refine ⟨fun j e he => ?_, fun j p e x he hx => ?_⟩
  · rw [List.getElem?_replicate] at he
    split at he
    · cases he; rw [← z1]; exact f.len
    · cases he
  · rw [List.getElem?_replicate] at he
    split at he
    · rename_i hj
      cases he
      have hp : p < ti.size := by rw [← f.len, z1]; exact (List.getElem?_eq_some_iff.1 hx).1
      have hpz : p < z.cells.size := by rw [f.len]; exact hp
      have hlt : j * ti.size + p < N := by
        have : (j + 1) * ti.size ≤ n * ti.size := Nat.mul_le_mul_right _ (by omega)
        rw [Nat.add_mul] at this; omega
      refine ⟨z.cells[p], ?_, z2 p _ x (by simp [hpz]) hx⟩
      rw [Array.getElem?_map, Array.getElem?_range, if_pos hlt]
      have : (j * ti.size + p) % z.cells.size = p := by
        rw [f.len, Nat.add_comm, Nat.add_mul_mod_self_right, Nat.mod_eq_of_lt hp]
      simp [this, hpz]
    · cases he
theorem mkS_sound (hT : TOk cx) (hs : SR w X ι σ) (hE : ∀ x, VR w (XL X σ ι) ι (a.eval x) (ev E x)) {D : Prop} (hD : D → Good cx o a w X ι σ K) (h : mkS cx al o.op (o.op.operands.toList.map (ev E)) σ K D) : Good cx o a w X ι σ K := by
  unfold mkS at h
  split at h
  · rename_i t xl xc ho
    rw [ho] at h
    split at h
    · rename_i kl l kc c hvs
      have hvs : [ev E xl, ev E xc] = [.int kl l, .int kc c] := hvs
      have h1 := hE xl
      have h2 := hE xc
      rw [(List.cons.inj hvs).1] at h1
      rw [(List.cons.inj (List.cons.inj hvs).2).1] at h2
      have h1 := h1.int_inv
      have h2 := h2.int_inv
      obtain ⟨e, ti, hu, hte, h⟩ := elemT_fact hT h
      obtain ⟨i, d, z, f⟩ := hT.fact hte
      simp only [freeK_iff] at h
      obtain ⟨hf, ⟨⟨h0, rfl⟩, hB⟩, hK⟩ := h
      obtain ⟨n, rfl⟩ := Int.eq_ofNat_of_zero_le h0
      rw [Int.toNat_natCast] at hB hK
      have hnb : n ≤ n * ti.bytes := Nat.le_mul_of_pos_right _ (Nat.pos_of_ne_zero f.bpos)
      have hr := run_make (P := cx.P) w t e i z hu f.info f.zero kl kc n n (Int.natCast_nonneg _) (Int.le_refl _) (by rw [f.bytes, ← Int.natCast_mul, Nat.mul_comm]; omega) (by omega)
      rw [Int.toNat_natCast] at hr
      have hh : (w.alloc (.cells (madeCells z.cells (n * i.size)) e)).heap = w.heap.push (.cells (madeCells z.cells (n * i.size)) e) := rfl
      obtain ⟨he, hs', ha⟩ := hs.killAlloc (w' := w.alloc (.cells (madeCells z.cells (n * i.size)) e)) hf (ks := []) (fun _ h => by cases h) hh rfl rfl rfl (Nat.le_refl _) (.arr ti.size (List.replicate n ti.zero)) ti.size (fun Y ι' _ hp => ⟨rfl, _, e, push_new hh, (zfacts f w (XL X (Ab.kl [] σ) ι) n (n * i.size) (by rw [f.size]; omega)).1, fun j p e x a b => by
        obtain ⟨u, k1, k2, k3⟩ := (zfacts f w (XL X (Ab.kl [] σ) ι) n (n * i.size) (by rw [f.size]; omega)).2 j p e x a b
        exact ⟨u, by rw [Nat.zero_add]; exact k1, k2, hp _ _ k3⟩⟩)
      refine ⟨_, _, _, hK, Runs.val (by simp [execOp, ho, h1, h2, hr]; rfl) he hs' ?_ ha⟩
      have := VR.own (w := w.alloc (.cells (madeCells z.cells (n * i.size)) e)) (X := XL X (updF σ ((al, .live (.arr ti.size (List.replicate n ti.zero))) :: kills [])) (upI ι al (.at w.heap.size 0 ti.size))) (ι := upI ι al (.at w.heap.size 0 ti.size)) ti.size al 0 n n w.heap.size 0 .full _ e (by simp [upI]) rfl (push_new hh) (by rw [size_madeCells, f.size]; simp)
      simpa [kills] using this
    · exact hD h
  · rename_i c ho
    rw [ho] at h
    split at h
    · rename_i hc
      split at h
      · rename_i t t' k n hts hvs
        split at h
        · rename_i k' s' b' z' htt
          have hce := call_eta c .append hc
          have hops : (Op.call c).operands.toList = c.args.toList := by simp [Op.operands, Call.operands, hc]
          rw [hops] at hvs
          obtain ⟨x, y, hxy⟩ := map2 hvs
          rw [hxy] at hvs
          have hxa := arr2 hxy
          have hta := arr2 hts
          have ho : o.op = .call ⟨.builtin .append, #[x, y], #[t, t']⟩ := by rw [ho, hce, hxa, hta]
          have h1 := hE x
          have h2 := hE y
          rw [(List.cons.inj hvs).1] at h1
          rw [(List.cons.inj (List.cons.inj hvs).2).1] at h2
          have h1 := h1.nils_inv
          have h2 := h2.int_inv
          obtain ⟨i', d', z'', f'⟩ := hT.fact htt
          have hu' : cx.P.underlying t' = some (.int k') := by have := f'.int rfl; subst this; exact f'.und
          obtain ⟨e, ti, hu, hte, h⟩ := elemT_fact hT h
          obtain ⟨i, d, z, f⟩ := hT.fact hte
          simp only [freeK_iff] at h
          obtain ⟨hf, ⟨h0, hB⟩, hK⟩ := h
          obtain ⟨n, rfl⟩ := Int.eq_ofNat_of_zero_le (Int.le_of_lt h0)
          rw [Int.toNat_natCast] at hB hK
          have hn0 : 0 < n := by omega
          have hnb : n ≤ n * ti.bytes := Nat.le_mul_of_pos_right _ (Nat.pos_of_ne_zero f.bpos)
          have hge := grownCap_ge w n 0 e
          have hwr : IntKind.i64.wrap (n : Int) = n := by rw [IntKind.wrap_i64]; omega
          have hneg : ¬ ((n : Int) < 0) := by omega
          have h48 : ¬ (281474976710656 < (n : Int) * (i.bytes : Int)) := by rw [f.bytes, ← Int.natCast_mul]; omega
          have h63 : ¬ ((9223372036854775807 : Int) < (n : Int)) := by omega
          have hfit := growslice_fits (need := 0 + n) (old := 0) (bytes := ti.bytes) (by omega) (by rw [Nat.zero_add]; omega)
          rw [Nat.zero_add] at hfit
          have hfit' : ¬ (281474976710656 < Builtin.nextslicecap n 0 * i.bytes) := by rw [f.bytes]; omega
          have hz0 : ¬ (n * i.size = 0) := by rw [f.size]; exact Nat.mul_ne_zero (by omega) f.pos
          have hc0 : ¬ (n ≤ 0) := by omega
          let cells : Array Value := Builtin.zeroCells z.cells n ++ Builtin.zeroCells z.cells (grownCap w n 0 e - n)
          have hr : (Builtin.append_ #[t, t'] o.type #[.slice none 0 0, .int k n]).run cx.P w = .ok (.slice (some ⟨w.heap.size, 0, none⟩) n (grownCap w n 0 e)) (w.drew.alloc (.cells cells e)) := by
            simp [Builtin.append_, run_underlying hu, run_underlying hu', sizeOf, typeInfo, zeroValue, f.info, f.zero, asInt, asIntOf, hwr, hneg, h48, h63, hfit', hz0, show n ≠ 0 from by omega, Question.forced, Builtin.firstCells, newRow, grownCap, cells]
          have hcs : cells.size = grownCap w n 0 e * ti.size := by
            simp only [cells, Array.size_append, size_zeroCells, f.len, ← Nat.add_mul]
            congr 1
            omega
          obtain ⟨s1, a1⟩ := drew_SR hs
          have hh : (w.drew.alloc (.cells cells e)).heap = w.drew.heap.push (.cells cells e (0, 0)) := rfl
          have zf := zfacts f w.drew (XL X (Ab.kl [] σ) ι) n (n * z.cells.size) (by rw [f.len]; exact Nat.le_refl _)
          obtain ⟨he, s2, a2⟩ := s1.killAlloc (w' := w.drew.alloc (.cells cells e)) hf (ks := []) (fun _ h => by cases h) hh rfl rfl rfl (Nat.le_refl _) (.arr ti.size (List.replicate n ti.zero)) ti.size (fun Y ι' _ hp => ⟨rfl, cells, e, push_new hh, zf.1, fun j p e x a b => by
            obtain ⟨u, k1, k2, k3⟩ := zf.2 j p e x a b
            refine ⟨u, ?_, k2, hp _ _ k3⟩
            rw [Nat.zero_add]
            simp only [cells]
            have hlt := (Array.getElem?_eq_some_iff.1 k1).1
            rw [Array.getElem?_append_left (by unfold Builtin.zeroCells; simpa using hlt)]
            exact k1⟩)
          refine ⟨_, _, _, hK, Runs.val (by simp [execOp, ho, resolve, invoke, builtin, h1, h2, hr]; rfl) he s2 ?_ (a1.trans a2)⟩
          have := VR.own (w := w.drew.alloc (.cells cells e)) (X := XL X (updF σ ((al, .live (.arr ti.size (List.replicate n ti.zero))) :: kills [])) (upI ι al (.at w.heap.size 0 ti.size))) (ι := upI ι al (.at w.heap.size 0 ti.size)) ti.size al 0 n (grownCap w n 0 e) w.heap.size 0 .opn cells e (by simp [upI]) hge (push_new hh) (by rw [hcs]; simp)
          simpa [kills] using this
        · exact hD h
      · exact hD h
    · rename_i hc
      split at h
      · rename_i t hts hvs
        have hce := call_eta c .cap hc
        have hops : (Op.call c).operands.toList = c.args.toList := by simp [Op.operands, Call.operands, hc]
        rw [hops] at hvs
        obtain ⟨x, hx⟩ := map1 hvs
        rw [hx] at hvs
        have ho : o.op = .call ⟨.builtin .cap, #[x], #[t]⟩ := by rw [ho, hce, arr1 hx, arr1 hts]
        have h1 := hE x
        rw [(List.cons.inj hvs).1] at h1
        have h1 := h1.nils_inv
        obtain ⟨e, ti, hu, hte, h⟩ := elemT_fact hT h
        exact Good.same h hs (cv := .int .i64 0) (by simp [execOp, ho, resolve, invoke, builtin, h1, Builtin.cap_, run_underlying hu, goInt]) (.pure _ _ (.int _ _))
      · exact hD h
    · exact hD h
  · rename_i t x hi ho
    rw [ho] at h
    split at h
    · rename_i k n hvs
      have hvs : [ev E x, ev E hi] = [.nils, .int k n] := hvs
      have h1 := hE x
      have h2 := hE hi
      rw [(List.cons.inj hvs).1] at h1
      rw [(List.cons.inj (List.cons.inj hvs).2).1] at h2
      have h1 := h1.nils_inv
      have h2 := h2.int_inv
      obtain ⟨e, ti, hu, hte, h⟩ := elemT_fact hT h
      obtain ⟨i, d, z, f⟩ := hT.fact hte
      obtain ⟨rfl, hK⟩ := h
      have hr := run_sliceAt (w := w) hu f none 0 0 none (some (.int k 0)) none 0 0 0 rfl ⟨k, rfl⟩ rfl (fun h => by cases h) (Nat.le_refl _) (.inl (Nat.le_refl _)) (Nat.le_refl _)
      exact Good.same hK hs (cv := .slice none 0 0) (by simp [execOp, ho, h1, h2, hr]) (.pure _ _ .nils)
    · exact hD h
  · rename_i t x lo hi ho
    rw [ho] at h
    split at h
    · rename_i s k i0 n r kl l kh hh hvs
      have hvs : [ev E x, ev E lo, ev E hi] = [.own s k i0 n (.room r), .int kl l, .int kh hh] := hvs
      have h1 := hE x
      have h2 := hE lo
      have h3 := hE hi
      rw [(List.cons.inj hvs).1] at h1
      rw [(List.cons.inj (List.cons.inj hvs).2).1] at h2
      rw [(List.cons.inj (List.cons.inj (List.cons.inj hvs).2).2).1] at h3
      have h2 := h2.int_inv
      have h3 := h3.int_inv
      obtain ⟨e, ti, hu, hte, h⟩ := elemT_fact hT h
      obtain ⟨i, d, z, f⟩ := hT.fact hte
      simp only [bK_iff] at h
      obtain ⟨hz, ⟨q0, q1, q2⟩, hK⟩ := h
      obtain ⟨a1, rfl⟩ := Int.eq_ofNat_of_zero_le q0
      obtain ⟨a2, rfl⟩ := Int.eq_ofNat_of_zero_le (Int.le_trans q0 q1)
      rw [Int.toNat_natCast, Int.toNat_natCast] at hK
      have hzs : ti.size = s := (Nat.eq_of_beq_eq_true hz).symm
      rcases h1.own_inv with ⟨c, b, p, vs, ty, hv, g1, g2, g3, g4⟩ | ⟨ad, hv, hn, g1, g2⟩
      · have g2 : n + r ≤ c := g2
        have hr := run_sliceAt (w := w) hu f (some ⟨b, p + i0 * s, none⟩) n c (some (.int kl a1)) (some (.int kh a2)) none a1 a2 c ⟨kl, rfl⟩ ⟨kh, rfl⟩ rfl (fun h => by cases h) (by omega) (.inl (by omega)) (Nat.le_refl _)
        refine Good.same hK hs (cv := .slice (if c = a1 then some ⟨b, p + i0 * s, none⟩ else (some (⟨b, p + i0 * s, none⟩ : Addr)).map (·.add (a1 * ti.size))) (a2 - a1) (c - a1)) (by simp [execOp, ho, hv, h2, h3, hr]) ?_
        have hq : (Q.room (n + r - a2)).fits (a2 - a1) (c - a1) := by simp only [Q.fits]; omega
        by_cases hc : c = a1
        · have h0 : a2 - a1 = 0 := by omega
          have h0' : c - a1 = 0 := by omega
          rw [h0, h0'] at hq ⊢
          rw [if_pos hc]
          exact .own0 s k _ _ _ (by rw [g1]; simp) hq
        · rw [if_neg hc, Option.map_some, addr_add, hzs]
          exact own_part g1 g3 g4 (by omega) hq
      · have g2 : 0 + r ≤ 0 := g2
        have hr := run_sliceAt (w := w) hu f ad 0 0 (some (.int kl a1)) (some (.int kh a2)) none a1 a2 0 ⟨kl, rfl⟩ ⟨kh, rfl⟩ rfl (fun h => by cases h) (by omega) (.inl (by omega)) (Nat.le_refl _)
        have e1 : a1 = 0 := by omega
        have e2 : a2 = 0 := by omega
        subst e1
        subst e2
        refine Good.same hK hs (cv := .slice ad 0 0) (by simp [execOp, ho, hv, h2, h3] at hr ⊢; simp [hr]) ?_
        exact .own0 s k _ _ _ g1 (by simp only [Q.fits]; omega)
    · exact hD h
  · rename_i t x lo hi mx ho
    rw [ho] at h
    split at h
    · rename_i s k i0 n q kl l kh hh km m hvs
      have hvs : [ev E x, ev E lo, ev E hi, ev E mx] = [.own s k i0 n q, .int kl l, .int kh hh, .int km m] := hvs
      have h1 := hE x
      have h2 := hE lo
      have h3 := hE hi
      have h4 := hE mx
      rw [(List.cons.inj hvs).1] at h1
      rw [(List.cons.inj (List.cons.inj hvs).2).1] at h2
      rw [(List.cons.inj (List.cons.inj (List.cons.inj hvs).2).2).1] at h3
      rw [(List.cons.inj (List.cons.inj (List.cons.inj (List.cons.inj hvs).2).2).2).1] at h4
      have h2 := h2.int_inv
      have h3 := h3.int_inv
      have h4 := h4.int_inv
      obtain ⟨e, ti, hu, hte, h⟩ := elemT_fact hT h
      obtain ⟨i, d, z, f⟩ := hT.fact hte
      simp only [bK_iff] at h
      obtain ⟨_, ⟨q0, q1, q2, q3⟩, hK⟩ := h
      obtain ⟨a1, rfl⟩ := Int.eq_ofNat_of_zero_le q0
      obtain ⟨a2, rfl⟩ := Int.eq_ofNat_of_zero_le (Int.le_trans q0 q1)
      obtain ⟨a3, rfl⟩ := Int.eq_ofNat_of_zero_le (Int.le_trans (Int.le_trans q0 q1) q2)
      have fin : ∀ ad c, a.eval x = .slice ad n c → n ≤ c → Good cx o a w X ι σ K := fun ad c hv hc => by
        have hr := run_sliceAt (w := w) hu f ad n c (some (.int kl a1)) (some (.int kh a2)) (some (.int km a3)) a1 a2 a3 ⟨kl, rfl⟩ ⟨kh, rfl⟩ ⟨km, rfl⟩ (fun _ => rfl) (by omega) (.inl (by omega)) (by omega)
        exact Good.same hK hs (cv := .slice (if a3 = a1 then ad else ad.map (·.add (a1 * ti.size))) (a2 - a1) (a3 - a1)) (by simp [execOp, ho, hv, h2, h3, h4, hr]) (.un _)
      rcases h1.own_inv with ⟨c, b, p, vs, ty, hv, g1, g2, g3, g4⟩ | ⟨ad, hv, hn, g1, g2⟩
      · exact fin _ c hv (by cases q <;> simp only [Q.fits] at g2 <;> omega)
      · subst hn
        exact fin ad 0 hv (Nat.le_refl _)
    · exact hD h
  · exact hD h
theorem opV_sound (hT : TOk cx) (hs : SR w X ι σ) (hE : ∀ x, VR w (XL X σ ι) ι (a.eval x) (ev E x)) (h : opV cx al o.op (o.op.operands.toList.map (ev E)) σ K) : Good cx o a w X ι σ K := by
  generalize ho : o.op = op at h
  cases op with
  | move x => exact s_move (.inl ho) hs hE h
  | assign x => exact s_move (.inr ho) hs hE h
  | pick c x y => exact s_pick (al := al) ho hs hE h
  | alloc e => exact s_alloc (al := al) hT ho hs h
  | box e x => exact s_box (al := al) ho hs hE h
  | build t ps => exact s_build (al := al) hT ho hs hE h
  | buildSlice t n ps => exact s_buildSlice (al := al) hT ho hs hE h
  | load t x => exact s_load (al := al) hT ho hs hE h
  | store t x y => exact s_store (al := al) hT ho hs hE h
  | nilCheck x => exact s_nilCheck (al := al) ho hs hE h
  | binOp op t x y t' => exact s_binOp (al := al) hT ho hs hE h
  | unOp op t x => exact s_unOp (al := al) ho hs hE h
  | convert s t x => exact s_convert (al := al) hT ho hs hE h
  | extract x n => exact s_extract (al := al) ho hs hE h
  | fieldAddr t x f => exact s_fieldAddr (al := al) hT ho hs hE h
  | field t x f => exact s_field (al := al) hT ho hs hE h
  | indexAddr t x i => exact s_indexAddr (al := al) hT ho hs hE h
  | makeSlice t x y =>
    have h : opV cx al (.makeSlice t x y) [ev E x, ev E y] σ K := h
    simp only [opV, u2] at h
    refine mkS_sound (al := al) (D := False) hT hs hE False.elim ?_
    rw [ho]
    show mkS cx al (.makeSlice t x y) [ev E x, ev E y] σ K False
    obtain ⟨e, ti, hu, hte, h'⟩ := elemT_fact hT h
    simp only [intK_iff] at h'
    obtain ⟨k, l, hl, k', c, hc, _⟩ := h'
    rw [hl, hc] at h ⊢
    exact h
  | index t x i => exact s_index (al := al) hT ho hs hE h
  | slice t x lo hi mx => exact s_slice (al := al) hT ho hs hE h
  | makeFunc fn xs ys => cases fn with
    | func f => exact s_makeFunc (al := al) ho hs hE h
    | _ => exact h.elim
  | call c =>
    cases hc : c.callee with
    | invoke r m => simp only [opV, hc] at h
    | builtin b =>
      have hce := call_eta c b hc
      have hops : (Op.call c).operands.toList = c.args.toList := by simp [Op.operands, Call.operands, hc]
      simp only [opV, hc, hops] at h
      cases b with
      | len =>
        cases hts : c.argTypes.toList with
        | nil => rw [hts] at h; exact h.elim
        | cons t ts =>
          have hta : c.argTypes = (t :: ts).toArray := by apply Array.ext'; simpa using hts
          have hl : ∃ v, c.args.toList.map (ev E) = [v] := by
            rw [hts] at h
            simp only [builtinW, opK_iff, u1_iff] at h
            obtain ⟨ti, _, v, hv, _⟩ := h
            exact ⟨v, hv⟩
          obtain ⟨v, hv⟩ := hl
          obtain ⟨x, hx⟩ := map1 hv
          have hxa := arr1 hx
          refine s_len (al := al) (x := x) (t := t) (ts := ts) hT (by rw [ho, hce, hxa, hta]) hs hE ?_
          rw [hts, hx] at h
          exact h
      | append =>
        cases hts : c.argTypes.toList with
        | nil => rw [hts] at h; exact h.elim
        | cons t ts => cases ts with
          | nil => rw [hts] at h; exact h.elim
          | cons t' ts => cases ts with
            | cons => rw [hts] at h; exact h.elim
            | nil =>
              have hta := arr2 hts
              have hl : ∃ v u, c.args.toList.map (ev E) = [v, u] := by
                rw [hts] at h
                simp only [builtinW, bK_iff] at h
                obtain ⟨_, h⟩ := h
                obtain ⟨e, ti, _, _, h⟩ := elemT_fact hT h
                simp only [u2_iff] at h
                obtain ⟨v, u, hv, _⟩ := h
                exact ⟨v, u, hv⟩
              obtain ⟨v, u, hv⟩ := hl
              obtain ⟨x, y, hx⟩ := map2 hv
              have hxa := arr2 hx
              refine s_append (al := al) (x := x) (y := y) (t := t) (t' := t') hT (by rw [ho, hce, hxa, hta]) hs hE ?_
              rw [hts, hx] at h
              exact h
      | clear =>
        cases hts : c.argTypes.toList with
        | nil => rw [hts] at h; exact h.elim
        | cons t ts =>
          have hta : c.argTypes = (t :: ts).toArray := by apply Array.ext'; simpa using hts
          have hl : ∃ v, c.args.toList.map (ev E) = [v] := by
            rw [hts] at h
            simp only [builtinW] at h
            obtain ⟨e, ti, _, _, h⟩ := elemT_fact hT h
            simp only [u1_iff] at h
            obtain ⟨v, hv, _⟩ := h
            exact ⟨v, hv⟩
          obtain ⟨v, hv⟩ := hl
          obtain ⟨x, hx⟩ := map1 hv
          have hxa := arr1 hx
          refine s_clear (al := al) (x := x) (t := t) (ts := ts) hT (by rw [ho, hce, hxa, hta]) hs hE ?_
          rw [hts, hx] at h
          exact h
      | _ => exact h.elim
    | value f =>
      have hops : (Op.call c).operands.toList = f :: c.args.toList := by simp [Op.operands, Call.operands, hc]
      simp only [opV, hc, hops, List.map_cons] at h
      unfold callW at h
      split at h
      · rename_i g xs ys hf
        cases hb : cx.br g with
        | true => rw [hb] at h; exact s_callR (al := al) ho hc hs hE hf h
        | false => rw [hb] at h; exact s_callP ho hc hs hE hf h
      · exact h.elim
  | _ => exact h.elim
theorem opN_sound (hT : TOk cx) (hs : SR w X ι σ) (hE : ∀ x, VR w (XL X σ ι) ι (a.eval x) (ev E x)) (h : opN cx al o.op (o.op.operands.toList.map (ev E)) σ K) : Good cx o a w X ι σ K := by
  unfold opN nilS at h
  split at h
  · rename_i t x t' ho
    rw [ho] at h
    have hx := hE x
    have hc : a.eval (.const (.slice none 0 0)) = .slice none 0 0 := rfl
    split at h
    · rename_i e sz bt z ht
      obtain ⟨i, d, zz, f⟩ := hT.fact ht
      have hu : cx.P.underlying t = some (.slice e) := by have := f.slice rfl; subst this; exact f.und
      have fin : ∀ p n c, a.eval x = .slice p n c → K (.lit p.isNone) [] [] → Good cx o a w X ι σ K := fun p n c hv hK => by
        refine Good.same hK hs (cv := .bool p.isNone) ?_ (.pure _ _ (.lit _))
        have hr := run_nilsl t e cx.P w hu p n c x (.const (.slice none 0 0))
        simp only [Sem.run_bind] at hr
        cases hg : (eqGuard .eql t x (.const (.slice none 0 0)) (.slice p n c) (.slice none 0 0)).run cx.P w with
        | ok u w' => rw [hg] at hr; simp only [Result.andThen_ok] at hr; simp [execOp, ho, hv, hc, hg, hr]
        | halt e w' => rw [hg] at hr; simp at hr
      have two : ∀ p n c, a.eval x = .slice p n c → (p = none → K (.lit true) [] []) → K (.lit false) [] [] → Good cx o a w X ι σ K := fun p n c hv h1 h2 => by
        cases p with
        | none => exact fin none n c hv (h1 rfl)
        | some q => exact fin (some q) n c hv h2
      split at h
      · rename_i s es y hvs
        have hvx : ev E x = .row s es := (List.cons.inj hvs).1
        rw [hvx] at hx
        rcases hx.row_inv with ⟨rfl, ad, c, e1⟩ | ⟨b, p, c, g, e1, _⟩
        · exact two _ _ _ e1 (fun _ => h.1 rfl) (h.2 trivial)
        · exact two _ _ _ e1 (fun e => by cases e) (h.2 trivial)
      · rename_i s k j n q y hvs
        have hvx : ev E x = .own s k j n q := (List.cons.inj hvs).1
        rw [hvx] at hx
        rcases hx.own_inv with ⟨c, b, p, vs, ty, e1, _⟩ | ⟨ad, e1, e0, _⟩
        · exact two _ _ _ e1 (fun e => by cases e) (h.2 trivial)
        · exact two _ _ _ e1 (fun _ => h.1 e0) (h.2 trivial)
      · rename_i y hvs
        have hvx : ev E x = .nils := (List.cons.inj hvs).1
        rw [hvx] at hx
        exact fin none 0 0 hx.nils_inv h
      · rw [← ho] at h; exact convS_sound hT hs hE (mkS_sound hT hs hE (opV_sound hT hs hE)) h
    · rw [← ho] at h; exact convS_sound hT hs hE (mkS_sound hT hs hE (opV_sound hT hs hE)) h
  · exact convS_sound hT hs hE (mkS_sound hT hs hE (opV_sound hT hs hE)) h
end
structure Run (N : Nat) (X L0 : Nat → Prop) (w0 : World) (pins : List Nat) (ιi : Nat → LS) (E : Nat → AV) (σ : Nat → SV) (ι : Nat → LS) (a : Act) (w : World) : Prop where
  sim : Sim N X E σ ι a w
  adv : Adv L0 w0 (Lv σ ι) w
  pin : ∀ k ∈ pins, ι k = ιi k ∧ ιi k ≠ .free
structure Bs where
  N : Nat
  X : Nat → Prop
  L0 : Nat → Prop
  w0 : World
  pins : List Nat
  ιi : Nat → LS
def I (B : Bs) (E : Nat → AV) (σ : Nat → SV) (a : Act) (w : World) : Prop := ∃ ι, Run B.N B.X B.L0 B.w0 B.pins B.ιi E σ ι a w
theorem I.put {B : Bs} {E : Nat → AV} {σ σ' : Nat → SV} {ι ι' : Nat → LS} {a : Act} {w w' : World} {v : AV} {cv : Value} (h : Run B.N B.X B.L0 B.w0 B.pins B.ιi E σ ι a w) {d : Option Nat} (hd : ∀ t, d = some t → t < B.N) (he : Ext ι ι') (hs : SR w' B.X ι' σ')
    (hv : VR w' (XL B.X σ' ι') ι' cv v) (ha : Adv (Lv σ ι) w (Lv σ' ι') w') : I B (upD d v E) σ' (a.put d cv) w' :=
  ⟨ι', h.sim.put hd he hs hv ha, h.adv.trans ha, fun k hk => by
    obtain ⟨e1, e2⟩ := h.pin k hk
    exact ⟨by rw [he k (by rw [e1]; exact e2), e1], e2⟩⟩
section
variable {cx : Cx} {B : Bs} {a : Act} {w : World}
theorem opsW_sound (hT : TOk cx) {ops : Array Oper} {K : Env → Sto → Prop} {Q : Exit → Act → World → Prop} (hd : ∀ o ∈ ops.toList, ∀ t, o.dst = some t → t < B.N) (hK : ∀ E σ a w, K E σ → I B (get E) (sget σ) a w → Q .normal a w) :
    ∀ (l : List Oper) (i : Nat) (E : Env) (σ : Sto) (a : Act) (w : World), l = ops.toList.drop i → I B (get E) (sget σ) a w → opsW cx ops.toList K l i E σ → wpOps cx.P ops Q (List.range' i l.length) a w
  | [], i, E, σ, a, w, _, hI, h => hK E σ a w h hI
  | o :: l, i, E, σ, a, w, hl, ⟨ι, hR⟩, h => by
    have hoi : ops.toList[i]? = some o := by
      have : (ops.toList.drop i)[0]? = some o := by rw [← hl]; rfl
      simpa using this
    have hl' : l = ops.toList.drop (i + 1) := by
      have : (ops.toList.drop i).drop 1 = l := by rw [← hl]; rfl
      rw [← this, List.drop_drop]
    have hoi' : ops[i]? = some o := by simpa using hoi
    have hdo := hd o (List.mem_of_getElem? hoi)
    have h' : guardK ops.toList o.guard E (opN cx (64 * o.dst.getD 0) o.op (o.op.operands.toList.map (ev (get E))) (sget σ) fun v u _ => Ab.put ops.toList i o.dst E v fun E' => opsW cx ops.toList K l (i + 1) E' (upS u σ))
      (opsW cx ops.toList K l (i + 1) (upE o.dst (.tup []) E) σ) := h
    show wpOps cx.P ops Q (i :: List.range' (i + 1) l.length) a w
    simp only [wpOps, hoi']
    rcases guard_spec h' hR.sim.env rfl with ⟨hw, hg⟩ | ⟨hw, hg⟩
    · rw [if_pos hw]
      refine .inl ?_
      obtain ⟨v, u, rd, hk, hrun⟩ := opN_sound (a := a) (w := w) hT hR.sim.sr hR.sim.ops hg
      refine hrun _ _ fun cv w' ι' he hs hv ha => ?_
      have hk' := put_spec hk
      refine opsW_sound hT hd hK l (i + 1) _ _ _ _ hl' ?_ hk'
      rw [get_upE, sget_upS]
      exact I.put hR hdo he hs (nm_VR _ hv) ha
    · rw [if_neg (by rw [hw]; simp)]
      refine opsW_sound hT hd hK l (i + 1) _ _ _ _ hl' ?_ hg
      rw [get_upE]
      exact I.put hR hdo (Ext.refl _) hR.sim.sr skip_VR (Adv.refl _ _)
theorem get_rnEnv (m : List (Nat × Nat)) (E : Nat → AV) : ∀ (S : List Nat) (t : Nat), get (rnEnv m E S) t = if t ∈ S then rn2 m (E t) else .un
  | [], t => by simp [rnEnv, get]
  | s :: S, t => by
    show (bif Nat.beq s t then rn2 m (E s) else get (rnEnv m E S) t) = _
    by_cases e : s = t
    · subst e; simp
    · have : Nat.beq s t = false := by rw [Bool.eq_false_iff]; intro e'; exact e (Nat.eq_of_beq_eq_true e')
      rw [this, get_rnEnv m E S t]
      have : (t ∈ s :: S) = (t ∈ S) := by simp only [List.mem_cons, eq_iff_iff]; exact ⟨fun h => h.elim (fun h => absurd h.symm e) id, .inr⟩
      simp only [cond_false, this]
theorem canon_sound {S : List Nat} {E : Env} {σ : Sto} {K : Env → Sto → Prop} (h : canon B.pins S E σ K) (hI : I B (get E) (sget σ) a w) : ∃ E' σ', K E' σ' ∧ I B (get E') (sget σ') a w := by
  obtain ⟨ι, hR⟩ := hI
  unfold canon at h
  obtain ⟨m0, h⟩ := addP_ex _ _ _ _ h
  obtain ⟨m, h⟩ := addE_ex _ _ _ _ _ _ _ h
  simp only [bK_iff, rnEnvK_iff, rnStoK_iff] at h
  obtain ⟨hok, h⟩ := h
  obtain ⟨hn1, hn2, hnf, hpin⟩ := mOk_fact hok
  have hs := hR.sim.sr
  have hsub : ∀ b, Lv (sget (rnSto m (sget σ) m)) (fwd m ι) b → Lv (sget σ) ι b := fun b hb => by
    obtain ⟨k, κ, blk, o, s, _, h1, h2⟩ := Lv_fwd hb
    exact ⟨k, blk, o, s, h1, h2⟩
  have hX : ∀ b, XL B.X (sget (rnSto m (sget σ) m)) (fwd m ι) b → XL B.X (sget σ) ι b := fun b hb => hb.elim .inl (fun h => .inr (hsub b h))
  refine ⟨_, _, h, fwd m ι, ⟨fun t => ?_, hs.rename hn2 hn1 (fun b h => .inl h) (fun b h h' => (hs.out b h).2 (hsub b h')), hR.sim.size, hR.sim.defers⟩, hR.adv.trans (Adv.less hsub w), fun k hk => ?_⟩
  · have := get_rnEnv m (get E) S t
    rw [this]
    split
    · exact rn2_VR (fwd_ok hn2) ((hR.sim.env t).anti hX)
    · exact .un _
  · obtain ⟨e1, e2⟩ := hR.pin k hk
    refine ⟨?_, e2⟩
    unfold fwd
    rw [lookR_of hn2 (hpin k hk)]
    exact e1
end
end Go.Ab
namespace Go.Ab
def Sel {R : Type} (F : (R → Prop) → Prop) : Prop := ∀ K, F K → ∃ r, K r ∧ ∀ K', K' r → F K'
namespace Sel
variable {R α : Type}
theorem pure (r : R) : Sel (fun K => K r) := fun _ h => ⟨r, h, fun _ h' => h'⟩
theorem no : Sel (fun _ : R → Prop => False) := fun _ h => h.elim
theorem op (o : Option α) (F : α → (R → Prop) → Prop) (h : ∀ a, Sel (F a)) : Sel (fun K => opK o fun a => F a K) := fun K hK => by
  cases o with
  | none => exact hK.elim
  | some a => obtain ⟨r, h1, h2⟩ := h a K hK; exact ⟨r, h1, h2⟩
theorem b (b : Bool) (F : (R → Prop) → Prop) (h : b = true → Sel F) : Sel (fun K => bK b (F K)) := fun K hK => by
  cases b with
  | false => exact hK.elim
  | true => obtain ⟨r, h1, h2⟩ := h rfl K hK; exact ⟨r, h1, h2⟩
theorem and (p : Prop) (F : (R → Prop) → Prop) (h : p → Sel F) : Sel (fun K => p ∧ F K) := fun K hK => by
  obtain ⟨r, h1, h2⟩ := h hK.1 K hK.2
  exact ⟨r, h1, fun K' h' => ⟨hK.1, h2 K' h'⟩⟩
theorem ex (p : α → Prop) (F : α → (R → Prop) → Prop) (h : ∀ a, Sel (F a)) : Sel (fun K => ∃ a, p a ∧ F a K) := fun K ⟨a, h0, hK⟩ => by
  obtain ⟨r, h1, h2⟩ := h a K hK
  exact ⟨r, h1, fun K' h' => ⟨a, h0, h2 K' h'⟩⟩
theorem ex' (F : α → (R → Prop) → Prop) (h : ∀ a, Sel (F a)) : Sel (fun K => ∃ a, F a K) := fun K ⟨a, hK⟩ => by
  obtain ⟨r, h1, h2⟩ := h a K hK
  exact ⟨r, h1, fun K' h' => ⟨a, h2 K' h'⟩⟩
theorem fo (v : AV) (F : AV → (R → Prop) → Prop) (h : ∀ a, Sel (F a)) : Sel (fun K => fo v fun a => F a K) := fun K hK => by
  have hK := (fo_iff _ _).1 hK
  obtain ⟨r, h1, h2⟩ := h v K hK
  exact ⟨r, h1, fun K' h' => (fo_iff _ _).2 (h2 K' h')⟩
theorem u1 (vs : List AV) (F : AV → (R → Prop) → Prop) (h : ∀ a, Sel (F a)) : Sel (fun K => u1 vs fun a => F a K) := fun K hK => by
  match vs, hK with
  | [a], hK => exact h a K hK
theorem u2 (vs : List AV) (F : AV → AV → (R → Prop) → Prop) (h : ∀ a b, Sel (F a b)) : Sel (fun K => u2 vs fun a b => F a b K) := fun K hK => by
  match vs, hK with
  | [a, b], hK => exact h a b K hK
theorem u3 (vs : List AV) (F : AV → AV → AV → (R → Prop) → Prop) (h : ∀ a b c, Sel (F a b c)) : Sel (fun K => u3 vs fun a b c => F a b c K) := fun K hK => by
  match vs, hK with
  | [a, b, c], hK => exact h a b c K hK
theorem int (v : AV) (F : Int → (R → Prop) → Prop) (h : ∀ a, Sel (F a)) : Sel (fun K => intK v fun a => F a K) := fun K hK => by
  match v, hK with
  | .int _ n, hK => exact h n K hK
theorem ite (b : Bool) (F G : (R → Prop) → Prop) (hF : Sel F) (hG : Sel G) : Sel (fun K => bif b then F K else G K) := fun K hK => by
  cases b with
  | false => exact hG K hK
  | true => exact hF K hK
theorem bind {F : (α → Prop) → Prop} {G : α → (R → Prop) → Prop} (hF : Sel F) (hG : ∀ a, Sel (G a)) : Sel (fun K => F fun a => G a K) := fun K hK => by
  obtain ⟨a, h1, h2⟩ := hF _ hK
  obtain ⟨r, h3, h4⟩ := hG a K h1
  exact ⟨r, h3, fun K' h' => h2 _ (h4 K' h')⟩
theorem br (c : Bool) (F G : (R → Prop) → Prop) (hF : Sel F) (hG : Sel G) : Sel (fun K => (c = true → F K) ∧ (c = false → G K)) := fun K hK => by
  cases c with
  | false => obtain ⟨r, h1, h2⟩ := hG K (hK.2 rfl); exact ⟨r, h1, fun K' h' => ⟨fun e => (nomatch e), fun _ => h2 K' h'⟩⟩
  | true => obtain ⟨r, h1, h2⟩ := hF K (hK.1 rfl); exact ⟨r, h1, fun K' h' => ⟨fun _ => h2 K' h', fun e => nomatch e⟩⟩
end Sel
theorem nilW_sel (T : Option TI) (op : BinOp) (p q : Bool) : Sel (nilW T op p q) := by
  show Sel fun K => nilW T op p q K
  unfold nilW
  cases op <;> ((try dsimp only); repeat' (first | exact Sel.no | exact Sel.pure _ | refine Sel.op _ _ fun _ => ?_ | refine Sel.b _ _ fun _ => ?_ | refine Sel.ex _ _ fun _ => ?_ | refine Sel.ex' _ fun _ => ?_ | refine Sel.and _ _ fun _ => ?_ | refine Sel.fo _ _ fun _ => ?_ | refine Sel.int _ _ fun _ => ?_ | refine Sel.br _ _ _ ?_ ?_))
theorem boolW_sel (T : Option TI) (op : BinOp) (a b : AV) : Sel (boolW T op a b) := by
  show Sel fun K => boolW T op a b K
  unfold boolW
  cases op <;> ((try dsimp only); repeat' (first | exact Sel.no | exact Sel.pure _ | refine Sel.op _ _ fun _ => ?_ | refine Sel.b _ _ fun _ => ?_ | refine Sel.ex _ _ fun _ => ?_ | refine Sel.ex' _ fun _ => ?_ | refine Sel.and _ _ fun _ => ?_ | refine Sel.fo _ _ fun _ => ?_ | refine Sel.int _ _ fun _ => ?_ | refine Sel.br _ _ _ ?_ ?_))
theorem int_sel (op : BinOp) (k k' : IntKind) (a b : Int) (T : Option TI) : Sel (binW T op (.int k a) (.int k' b)) := by
  show Sel fun K => binW T op (.int k a) (.int k' b) K
  unfold binW
  cases op <;> ((try dsimp only); repeat' (first | exact Sel.no | exact Sel.pure _ | refine Sel.op _ _ fun _ => ?_ | refine Sel.b _ _ fun _ => ?_ | refine Sel.ex _ _ fun _ => ?_ | refine Sel.ex' _ fun _ => ?_ | refine Sel.and _ _ fun _ => ?_ | refine Sel.fo _ _ fun _ => ?_ | refine Sel.int _ _ fun _ => ?_ | refine Sel.br _ _ _ ?_ ?_))
theorem str_sel (op : BinOp) (a b : ByteArray) (T : Option TI) : Sel (binW T op (.str a) (.str b)) := by
  show Sel fun K => binW T op (.str a) (.str b) K
  unfold binW
  cases op <;> ((try dsimp only); repeat' (first | exact Sel.no | exact Sel.pure _ | refine Sel.op _ _ fun _ => ?_ | refine Sel.b _ _ fun _ => ?_ | refine Sel.ex _ _ fun _ => ?_ | refine Sel.ex' _ fun _ => ?_ | refine Sel.and _ _ fun _ => ?_ | refine Sel.fo _ _ fun _ => ?_ | refine Sel.int _ _ fun _ => ?_ | refine Sel.br _ _ _ ?_ ?_))
theorem agg_sel (op : BinOp) (a b : List AV) (T : Option TI) : Sel (binW T op (.agg a) (.agg b)) := by
  show Sel fun K => binW T op (.agg a) (.agg b) K
  unfold binW
  cases op <;> ((try dsimp only); repeat' (first | exact Sel.no | exact Sel.pure _ | refine Sel.op _ _ fun _ => ?_ | refine Sel.b _ _ fun _ => ?_ | refine Sel.ex _ _ fun _ => ?_ | refine Sel.ex' _ fun _ => ?_ | refine Sel.and _ _ fun _ => ?_ | refine Sel.fo _ _ fun _ => ?_ | refine Sel.int _ _ fun _ => ?_ | refine Sel.br _ _ _ ?_ ?_))
theorem binW_sel (T : Option TI) (op : BinOp) (x y : AV) : Sel (binW T op x y) := by
  cases x <;> cases y <;> first
    | exact int_sel op _ _ _ _ T
    | exact str_sel op _ _ T
    | exact agg_sel op _ _ T
    | exact nilW_sel T op _ _
    | exact boolW_sel T op _ _
theorem lenW_sel (x : AV) : Sel (lenW x) := by
  show Sel fun K => lenW x K
  cases x <;> first | exact Sel.no | exact Sel.pure _
theorem lenS_sel (x : AV) : Sel (lenS x) := by
  show Sel fun K => lenS x K
  cases x <;> first | exact Sel.no | exact Sel.pure _
theorem finW_sel (t : Option TI) (cs : List AV) (o : Nat) : Sel (finW t cs o) := by
  cases t with
  | none => exact Sel.no
  | some ti =>
    show Sel fun K => bif ti.agg then opK (sub cs o ti.size) fun vs => K (.agg vs) else opK cs[o]? fun v => fo v K
    refine Sel.ite _ _ _ ?_ ?_
    · ((try dsimp only); repeat' (first | exact Sel.no | exact Sel.pure _ | refine Sel.op _ _ fun _ => ?_ | refine Sel.b _ _ fun _ => ?_ | refine Sel.ex _ _ fun _ => ?_ | refine Sel.ex' _ fun _ => ?_ | refine Sel.and _ _ fun _ => ?_ | refine Sel.fo _ _ fun _ => ?_ | refine Sel.int _ _ fun _ => ?_ | refine Sel.br _ _ _ ?_ ?_))
    · refine Sel.op _ _ fun v => ?_
      refine Sel.fo v (fun a K => K a) fun a => Sel.pure a
theorem sliceW_sel (x : AV) (lo hi mx : Option AV) : Sel (sliceW x lo hi mx) := by
  show Sel fun K => sliceW x lo hi mx K
  cases x <;> first
    | exact Sel.no
    | (cases lo <;> cases hi <;> cases mx <;> first | exact Sel.no | (unfold sliceW; ((try dsimp only); repeat' (first | exact Sel.no | exact Sel.pure _ | refine Sel.op _ _ fun _ => ?_ | refine Sel.b _ _ fun _ => ?_ | refine Sel.ex _ _ fun _ => ?_ | refine Sel.ex' _ fun _ => ?_ | refine Sel.and _ _ fun _ => ?_ | refine Sel.fo _ _ fun _ => ?_ | refine Sel.int _ _ fun _ => ?_ | refine Sel.br _ _ _ ?_ ?_))))
section
variable {σ : Nat → SV}
theorem vw_lo {v : AV} {K : AV → List Nat → Prop} (h : vw σ v K) : ∃ v' ks, K v' ks ∧ ∀ σ' : Nat → SV, (∀ k ∈ ks, σ' k = σ k) → ∀ K' : AV → List Nat → Prop, K' v' ks → vw σ' v K' := by
  cases v with
  | own s k i n q =>
    simp only [vw, arrK_iff, bK_iff] at h
    obtain ⟨s', es, h1, h2, h⟩ := h
    cases q with
    | room r => exact ⟨_, _, h.2, fun σ' ha K' hK => by simp only [vw, arrK_iff, bK_iff]; exact ⟨s', es, (ha k (by simp)).trans h1, h2, h.1, hK⟩⟩
    | full => exact ⟨_, _, h.2, fun σ' ha K' hK => by simp only [vw, arrK_iff, bK_iff]; exact ⟨s', es, (ha k (by simp)).trans h1, h2, h.1, hK⟩⟩
    | opn => exact ⟨_, _, h.2, fun σ' ha K' hK => by simp only [vw, arrK_iff, bK_iff]; exact ⟨s', es, (ha k (by simp)).trans h1, h2, h.1, hK⟩⟩
  | _ =>
    simp only [vw, bK_iff, fo_iff] at h
    exact ⟨_, _, h.2, fun σ' _ K' hK => by simp only [vw, bK_iff, fo_iff]; exact ⟨h.1, hK⟩⟩
theorem vws_lo : ∀ {l : List AV} {K : List AV → List Nat → Prop}, vws σ l K → ∃ l' ks, K l' ks ∧ ∀ σ' : Nat → SV, (∀ k ∈ ks, σ' k = σ k) → ∀ K' : List AV → List Nat → Prop, K' l' ks → vws σ' l K'
  | [], K, h => ⟨[], [], h, fun _ _ _ hK => hK⟩
  | v :: r, K, h => by
    rw [vws_cons] at h
    obtain ⟨v', ks, h, g1⟩ := vw_lo h
    obtain ⟨r', ks', h, g2⟩ := vws_lo h
    exact ⟨_, _, h, fun σ' ha K' hK => by
      rw [vws_cons]
      exact g1 σ' (fun k hk => ha k (List.mem_append_left _ hk)) _ (g2 σ' (fun k hk => ha k (List.mem_append_right _ hk)) _ hK)⟩
theorem vwA_no {v : AV} (h : ∀ cs, v ≠ .agg cs) (h' : ∀ k o, v ≠ .bptr k o) (h'' : ∀ s es i o, v ≠ .rptr s es i o) (σ : Nat → SV) (K : AV → List Nat → Prop) : vwA σ v K = vw σ v K := by
  unfold vwA
  split
  · exact absurd rfl (h _)
  · exact absurd rfl (h' _ _)
  · exact absurd rfl (h'' _ _ _ _)
  · rfl
theorem vwA_lo {v : AV} {K : AV → List Nat → Prop} (h : vwA σ v K) : ∃ v' ks, K v' ks ∧ ∀ σ' : Nat → SV, (∀ k ∈ ks, σ' k = σ k) → ∀ K' : AV → List Nat → Prop, K' v' ks → vwA σ' v K' := by
  by_cases hv : ∃ cs, v = .agg cs
  · obtain ⟨cs, rfl⟩ := hv
    have h : vws σ cs fun cs' ks => K (.agg cs') ks := h
    obtain ⟨l', ks, h, g⟩ := vws_lo h
    exact ⟨_, _, h, fun σ' ha K' hK => g σ' ha (fun cs' ks => K' (.agg cs') ks) hK⟩
  · have hv : ∀ cs, v ≠ .agg cs := fun cs e => hv ⟨cs, e⟩
    by_cases hb : ∃ k o, v = .bptr k o
    · obtain ⟨k, o, rfl⟩ := hb
      have h : boxK σ k fun cs => vws σ cs fun cs' ks => K (.rptr cs.length [cs'] 0 o) (k :: ks) := h
      rw [boxK_iff] at h
      obtain ⟨cs, hk, h⟩ := h
      obtain ⟨l', ks, h, g⟩ := vws_lo h
      exact ⟨_, _, h, fun σ' ha K' hK => by
        show boxK σ' k fun cs => vws σ' cs fun cs' ks => K' (.rptr cs.length [cs'] 0 o) (k :: ks)
        rw [boxK_iff]
        exact ⟨cs, (ha k (List.mem_cons_self ..)).trans hk, g σ' (fun k' hk' => ha k' (List.mem_cons_of_mem _ hk')) (fun cs' ks => K' (.rptr cs.length [cs'] 0 o) (k :: ks)) hK⟩⟩
    · have hb : ∀ k o, v ≠ .bptr k o := fun k o e => hb ⟨k, o, e⟩
      by_cases hr : ∃ s es i o, v = .rptr s es i o
      · obtain ⟨s, es, i, o, rfl⟩ := hr
        exact ⟨_, _, h, fun σ' _ K' hK => hK⟩
      · have hr : ∀ s es i o, v ≠ .rptr s es i o := fun s es i o e => hr ⟨s, es, i, o, e⟩
        rw [vwA_no hv hb hr] at h
        obtain ⟨v', ks, h, g⟩ := vw_lo h
        exact ⟨_, _, h, fun σ' ha K' hK => by rw [vwA_no hv hb hr]; exact g σ' ha K' hK⟩
theorem vwAs_lo : ∀ {l : List AV} {K : List AV → List Nat → Prop}, vwAs σ l K → ∃ l' ks, K l' ks ∧ ∀ σ' : Nat → SV, (∀ k ∈ ks, σ' k = σ k) → ∀ K' : List AV → List Nat → Prop, K' l' ks → vwAs σ' l K'
  | [], K, h => ⟨[], [], h, fun _ _ _ hK => hK⟩
  | v :: r, K, h => by
    rw [vwAs_cons] at h
    obtain ⟨v', ks, h, g1⟩ := vwA_lo h
    obtain ⟨r', ks', h, g2⟩ := vwAs_lo h
    exact ⟨_, _, h, fun σ' ha K' hK => by
      rw [vwAs_cons]
      exact g1 σ' (fun k hk => ha k (List.mem_append_left _ hk)) _ (g2 σ' (fun k hk => ha k (List.mem_append_right _ hk)) _ hK)⟩
theorem fills_cons (σ : Nat → SV) (s : Nat) (es : List (List AV)) (i : Nat) (r : List Nat) (v : AV) (vs : List AV) (K : List (List AV) → List Nat → Prop) :
    fills σ s es (i :: r) (v :: vs) K = opK (cellsOf v) fun x => vws σ x fun x' ks => bK (Nat.beq x'.length s) <| opK (eset es i x') fun es' => fills σ s es' r vs fun es'' ks' => K es'' (ks ++ ks') := rfl
theorem fills_lo (s : Nat) : ∀ {vs : List AV} {is : List Nat} {es : List (List AV)} {K : List (List AV) → List Nat → Prop}, fills σ s es is vs K →
    ∃ es' ks, K es' ks ∧ ∀ σ' : Nat → SV, (∀ k ∈ ks, σ' k = σ k) → ∀ K' : List (List AV) → List Nat → Prop, K' es' ks → fills σ' s es is vs K'
  | [], [], es, K, h => ⟨es, [], h, fun _ _ _ hK => hK⟩
  | [], _ :: _, es, K, h => h.elim
  | _ :: _, [], es, K, h => h.elim
  | v :: vs, i :: r, es, K, h => by
    rw [fills_cons] at h
    simp only [opK_iff] at h
    obtain ⟨x, hx, h⟩ := h
    obtain ⟨x', ks, h, g1⟩ := vws_lo h
    simp only [bK_iff] at h
    obtain ⟨hb, es', he, h⟩ := h
    obtain ⟨es'', ks', h, g2⟩ := fills_lo s h
    exact ⟨_, _, h, fun σ' ha K' hK => by
      rw [fills_cons]
      simp only [opK_iff]
      refine ⟨x, hx, g1 σ' (fun k hk => ha k (List.mem_append_left _ hk)) _ ?_⟩
      simp only [bK_iff]
      exact ⟨hb, es', he, g2 σ' (fun k hk => ha k (List.mem_append_right _ hk)) _ hK⟩⟩
theorem elemsK_lo {v : AV} {K : List (List AV) → List Nat → Prop} (h : elemsK σ v K) : ∃ es ks, K es ks ∧ ∀ σ' : Nat → SV, (∀ k ∈ ks, σ' k = σ k) → ∀ K' : List (List AV) → List Nat → Prop, K' es ks → elemsK σ' v K' := by
  cases v with
  | own s k i n q =>
    simp only [elemsK, arrK_iff, bK_iff] at h
    obtain ⟨s', es, h1, h2, h⟩ := h
    cases q with
    | room r => exact ⟨_, _, h.2, fun σ' ha K' hK => by simp only [elemsK, arrK_iff, bK_iff]; exact ⟨s', es, (ha k (by simp)).trans h1, h2, h.1, hK⟩⟩
    | full => exact ⟨_, _, h.2, fun σ' ha K' hK => by simp only [elemsK, arrK_iff, bK_iff]; exact ⟨s', es, (ha k (by simp)).trans h1, h2, h.1, hK⟩⟩
    | opn => exact ⟨_, _, h.2, fun σ' ha K' hK => by simp only [elemsK, arrK_iff, bK_iff]; exact ⟨s', es, (ha k (by simp)).trans h1, h2, h.1, hK⟩⟩
  | row s es => exact ⟨_, _, h, fun σ' _ K' hK => hK⟩
  | nils => exact ⟨_, _, h, fun σ' _ K' hK => hK⟩
  | emp => exact ⟨_, _, h, fun σ' _ K' hK => hK⟩
  | _ => exact h.elim
end
end Go.Ab
namespace Go.Ab
section
variable {σ : Nat → SV}
def SubM (m m' : List (Nat × Nat)) : Prop := ∀ p ∈ m, p ∈ m'
def MLo (f : (Nat → SV) → List (Nat × Nat) → Nat → AV → (List (Nat × Nat) → Prop) → Prop) (σ : Nat → SV) : Prop :=
  ∀ m κ v K, f σ m κ v K → ∃ m', K m' ∧ SubM m m' ∧ ∀ σ' : Nat → SV, (∀ p ∈ m', σ' p.1 = σ p.1) → ∀ K' : List (Nat × Nat) → Prop, K' m' → f σ' m κ v K'
theorem addCs_lo {f : (Nat → SV) → List (Nat × Nat) → Nat → AV → (List (Nat × Nat) → Prop) → Prop} (hf : MLo f σ) : ∀ (l : List AV) (m : List (Nat × Nat)) (κ : Nat) (K : List (Nat × Nat) → Prop), addCs (f σ) l m κ K →
    ∃ m', K m' ∧ SubM m m' ∧ ∀ σ' : Nat → SV, (∀ p ∈ m', σ' p.1 = σ p.1) → ∀ K' : List (Nat × Nat) → Prop, K' m' → addCs (f σ') l m κ K'
  | [], m, _, K, h => ⟨m, h, fun _ hp => hp, fun _ _ _ hK => hK⟩
  | v :: r, m, κ, K, h => by
    have h : f σ m κ v fun m' => addCs (f σ) r m' (κ + 1) K := h
    obtain ⟨m1, h, s1, g1⟩ := hf _ _ _ _ h
    obtain ⟨m2, h, s2, g2⟩ := addCs_lo hf r m1 (κ + 1) K h
    exact ⟨m2, h, fun p hp => s2 p (s1 p hp), fun σ' ha K' hK => g1 σ' (fun p hp => ha p (s2 p hp)) _ (g2 σ' ha _ hK)⟩
theorem addV_lo (σ : Nat → SV) : ∀ (n : Nat), MLo (fun σ => addV true σ n) σ
  | 0, _, _, _, _, h => h.elim
  | n + 1, m, κ, v, K, h => by
    have h : addV true σ (n + 1) m κ v K := h
    have ih := addV_lo σ n
    have key : ∀ k, (match look m k with
        | some _ => K m
        | none => match σ k with
          | .live (.box cs) => addCs (addV true σ n) cs ((k, κ) :: m) (κ + 1) K
          | .live (.arr _ _) => K ((k, κ) :: m)
          | _ => bif true then False else K m) → ∃ m', K m' ∧ SubM m m' ∧ ∀ σ' : Nat → SV, (∀ p ∈ m', σ' p.1 = σ p.1) → ∀ K' : List (Nat × Nat) → Prop, K' m' → (match look m k with
        | some _ => K' m
        | none => match σ' k with
          | .live (.box cs) => addCs (addV true σ' n) cs ((k, κ) :: m) (κ + 1) K'
          | .live (.arr _ _) => K' ((k, κ) :: m)
          | _ => bif true then False else K' m) := by
      intro k h
      cases hl : look m k with
      | some x => rw [hl] at h; exact ⟨m, h, fun _ hp => hp, fun σ' _ K' hK => hK⟩
      | none =>
        rw [hl] at h
        cases hk : σ k with
        | free => rw [hk] at h; exact h.elim
        | dead => rw [hk] at h; exact h.elim
        | live b =>
          rw [hk] at h
          cases b with
          | box cs =>
            obtain ⟨m', h, s1, g1⟩ := addCs_lo ih cs _ _ _ h
            refine ⟨m', h, fun p hp => s1 p (List.mem_cons_of_mem _ hp), fun σ' ha K' hK => ?_⟩
            have hk' : σ' k = .live (.box cs) := (ha _ (s1 _ (List.mem_cons_self ..))).trans hk
            simp only [hk']
            exact g1 σ' ha _ hK
          | arr s es =>
            refine ⟨_, h, fun p hp => List.mem_cons_of_mem _ hp, fun σ' ha K' hK => ?_⟩
            have hk' : σ' k = .live (.arr s es) := (ha _ (List.mem_cons_self ..)).trans hk
            simp only [hk']
            exact hK
    cases v with
    | own s k i n q => exact key k h
    | ptr k i p => exact key k h
    | bptr k p => exact key k h
    | agg cs => exact addCs_lo ih cs m (κ + 1) K h
    | tup cs => exact addCs_lo ih cs m (κ + 1) K h
    | fn f a b =>
      have h1 : addCs (addV true σ n) a m (κ + 1) (fun m => addCs (addV true σ n) b m (κ + 4) K) := h
      obtain ⟨m1, h, s1, g1⟩ := addCs_lo ih _ _ _ _ h1
      obtain ⟨m2, h, s2, g2⟩ := addCs_lo ih _ _ _ _ h
      exact ⟨m2, h, fun p hp => s2 p (s1 p hp), fun σ' ha K' hK => g1 σ' (fun p hp => ha p (s2 p hp)) _ (g2 σ' ha _ hK)⟩
    | _ => exact ⟨m, h, fun _ hp => hp, fun _ _ _ hK => hK⟩
theorem addE_lo (E : Nat → AV) (base : Nat) : ∀ (l : List Nat) (m : List (Nat × Nat)) (K : List (Nat × Nat) → Prop), addE true σ E base l m K →
    ∃ m', K m' ∧ SubM m m' ∧ ∀ σ' : Nat → SV, (∀ p ∈ m', σ' p.1 = σ p.1) → ∀ K' : List (Nat × Nat) → Prop, K' m' → addE true σ' E base l m K'
  | [], m, K, h => ⟨m, h, fun _ hp => hp, fun _ _ _ hK => hK⟩
  | t :: r, m, K, h => by
    have h : addV true σ 4 m (64 * t + base) (E t) (fun m' => addE true σ E base r m' K) := h
    obtain ⟨m1, h, s1, g1⟩ := addV_lo σ 4 _ _ _ _ h
    obtain ⟨m2, h, s2, g2⟩ := addE_lo E base r m1 K h
    exact ⟨m2, h, fun p hp => s2 p (s1 p hp), fun σ' ha K' hK => g1 σ' (fun p hp => ha p (s2 p hp)) (fun m' => addE true σ' E base r m' K') (g2 σ' ha _ hK)⟩
theorem rnSto_congr {m : List (Nat × Nat)} {σ' : Nat → SV} : ∀ {l : List (Nat × Nat)}, (∀ p ∈ l, σ' p.1 = σ p.1) → rnSto m σ' l = rnSto m σ l
  | [], _ => rfl
  | (k, k') :: r, h => by
    show (k', rnS m (σ' k)) :: rnSto m σ' r = (k', rnS m (σ k)) :: rnSto m σ r
    rw [h _ (List.mem_cons_self ..), rnSto_congr fun p hp => h p (List.mem_cons_of_mem _ hp)]
theorem rnSto_keys (m : List (Nat × Nat)) (σ : Nat → SV) : ∀ (l : List (Nat × Nat)), (rnSto m σ l).map (·.1) = l.map (·.2)
  | [] => rfl
  | (_, _) :: r => congrArg (_ :: ·) (rnSto_keys m σ r)
theorem mOk_congr {m : List (Nat × Nat)} {σ' : Nat → SV} (h : ∀ p ∈ m, σ' p.1 = σ p.1) : mOk σ' [] m = mOk σ [] m := by
  have : ∀ (l : List (Nat × Nat)), (∀ p ∈ l, σ' p.1 = σ p.1) → l.all (fun p => !isFree (σ' p.1)) = l.all (fun p => !isFree (σ p.1)) := by
    intro l
    induction l with
    | nil => intro _; rfl
    | cons p r ih =>
      intro h
      simp only [List.all_cons, h p (List.mem_cons_self ..), ih fun q hq => h q (List.mem_cons_of_mem _ hq)]
  unfold mOk
  rw [this m h]
theorem newOk_congr {m : List (Nat × Nat)} {al : Nat} {σ' : Nat → SV} : ∀ {l : Sto}, (∀ p ∈ backM m al l, σ' p.2 = σ p.2) → newOk m al σ' l = newOk m al σ l
  | [], _ => rfl
  | (κ, v) :: r, h => by
    have ih := newOk_congr (m := m) (al := al) (σ' := σ') (l := r) fun p hp => h p (by unfold backM; exact List.mem_cons_of_mem _ hp)
    have h0 := h _ (by unfold backM; exact List.mem_cons_self ..)
    unfold newOk
    split
    · exact ih
    · rename_i hn
      simp only [hn] at h0
      rw [h0, ih]
theorem callR_lo {cx : Cx} {al g : Nat} {args : List AV} {K : AV → Upd → List Nat → Prop} (h : callR cx al g args σ K) :
    ∃ v u rd, K v u rd ∧ ∀ σ' : Nat → SV, (∀ k ∈ rd, σ' k = σ k) → (∀ k ∈ u.map (·.1), σ' k = σ k) → ∀ K' : AV → Upd → List Nat → Prop, K' v u rd → callR cx al g args σ' K' := by
  unfold callR at h
  obtain ⟨m, h, _, g1⟩ := addE_lo _ _ _ _ _ h
  simp only [bK_iff, mapK_iff (rn1K_iff m), rnStoK_iff, backK_iff, rn2K_iff] at h
  obtain ⟨hok, r, σ2, hA, hn, h⟩ := h
  refine ⟨_, _, _, h, fun σ' h1 h2 K' hK => ?_⟩
  have hm : ∀ p ∈ m, σ' p.1 = σ p.1 := fun p hp => h1 _ (List.mem_map.2 ⟨p, hp, rfl⟩)
  have hb : ∀ p ∈ backM m al σ2, σ' p.2 = σ p.2 := fun p hp => h2 _ (by
    rw [List.map_append, rnSto_keys]
    exact List.mem_append_right _ (List.mem_map.2 ⟨p, hp, rfl⟩))
  unfold callR
  refine g1 σ' hm _ ?_
  simp only [bK_iff, mapK_iff (rn1K_iff m), rnStoK_iff, backK_iff, rn2K_iff, rnSto_congr hm, mOk_congr hm]
  refine ⟨hok, r, σ2, hA, ?_, hK⟩
  rw [newOk_congr hb]
  exact hn
theorem callP_lo {cx : Cx} {g : Nat} {args : List AV} {K : AV → Upd → List Nat → Prop} (h : callP cx g args σ K) :
    ∃ v u rd, K v u rd ∧ ∀ σ' : Nat → SV, (∀ k ∈ rd, σ' k = σ k) → (∀ k ∈ u.map (·.1), σ' k = σ k) → ∀ K' : AV → Upd → List Nat → Prop, K' v u rd → callP cx g args σ' K' := by
  unfold callP at h
  obtain ⟨l', ks, h, g1⟩ := vwAs_lo h
  obtain ⟨r, hP, h⟩ := h
  rw [fo_iff] at h
  cases ks with
  | nil =>
    exact ⟨_, _, _, h, fun σ' h1 _ K' hK => g1 σ' h1 _ ⟨r, hP, (fo_iff _ _).2 hK⟩⟩
  | cons k ks =>
    simp only at h
    cases hs : scal r with
    | true =>
      rw [hs] at h
      exact ⟨_, _, _, h, fun σ' h1 _ K' hK => g1 σ' h1 _ ⟨r, hP, (fo_iff _ _).2 (by simp only [hs]; exact hK)⟩⟩
    | false =>
      rw [hs] at h
      exact ⟨_, _, _, h, fun σ' h1 _ K' hK => g1 σ' h1 _ ⟨r, hP, (fo_iff _ _).2 (by simp only [hs]; exact hK)⟩⟩
theorem callW_lo {cx : Cx} {al : Nat} {f : AV} {args : List AV} {K : AV → Upd → List Nat → Prop} (h : callW cx al f args σ K) :
    ∃ v u rd, K v u rd ∧ ∀ σ' : Nat → SV, (∀ k ∈ rd, σ' k = σ k) → (∀ k ∈ u.map (·.1), σ' k = σ k) → ∀ K' : AV → Upd → List Nat → Prop, K' v u rd → callW cx al f args σ' K' := by
  cases f with
  | fn g a b =>
    cases hb : cx.br g with
    | true =>
      have h : callR cx al g (a ++ args ++ b) σ K := by simpa only [callW, hb, cond_true] using h
      obtain ⟨v, u, rd, h, g1⟩ := callR_lo h
      exact ⟨v, u, rd, h, fun σ' h1 h2 K' hK => by simp only [callW, hb, cond_true]; exact g1 σ' h1 h2 K' hK⟩
    | false =>
      have h : callP cx g (a ++ args ++ b) σ K := by simpa only [callW, hb, cond_false] using h
      obtain ⟨v, u, rd, h, g1⟩ := callP_lo h
      exact ⟨v, u, rd, h, fun σ' h1 h2 K' hK => by simp only [callW, hb, cond_false]; exact g1 σ' h1 h2 K' hK⟩
  | _ => exact h.elim
theorem appW_lo {s bytes al : Nat} {a x : AV} {K : AV → Upd → List Nat → Prop} (h : appW s bytes al σ a x K) :
    ∃ v u rd, K v u rd ∧ ∀ σ' : Nat → SV, (∀ k ∈ rd, σ' k = σ k) → (∀ k ∈ u.map (·.1), σ' k = σ k) → ∀ K' : AV → Upd → List Nat → Prop, K' v u rd → appW s bytes al σ' a x K' := by
  cases a with
  | nils =>
    simp only [appW, bK_iff] at h
    obtain ⟨hx, ha, h⟩ := h
    obtain ⟨xs, ks, h, g1⟩ := elemsK_lo h
    simp only [freeK_iff] at h
    refine ⟨_, _, _, h.2.2, fun σ' h1 h2 K' hK => ?_⟩
    simp only [appW, bK_iff]
    refine ⟨hx, ha, g1 σ' h1 _ ?_⟩
    simp only [freeK_iff]
    exact ⟨(h2 al (by simp)).trans h.1, h.2.1, hK⟩
  | emp =>
    simp only [appW, bK_iff] at h
    obtain ⟨hx, ha, h⟩ := h
    obtain ⟨xs, ks, h, g1⟩ := elemsK_lo h
    simp only [freeK_iff] at h
    refine ⟨_, _, _, h.2.2, fun σ' h1 h2 K' hK => ?_⟩
    simp only [appW, bK_iff]
    refine ⟨hx, ha, g1 σ' h1 _ ?_⟩
    simp only [freeK_iff]
    exact ⟨(h2 al (by simp)).trans h.1, h.2.1, hK⟩
  | own s0 k i n q =>
    simp only [appW, bK_iff] at h
    obtain ⟨hx, ha, h⟩ := h
    obtain ⟨xs, ks, h, g1⟩ := elemsK_lo h
    simp only [arrK_iff, bK_iff] at h
    obtain ⟨s', es, hk, hb, h⟩ := h
    cases q with
    | room r =>
      refine ⟨_, _, _, h.2, fun σ' h1 h2 K' hK => ?_⟩
      simp only [appW, bK_iff]
      refine ⟨hx, ha, g1 σ' (fun k hk => h1 k (List.mem_cons_of_mem _ hk)) _ ?_⟩
      simp only [arrK_iff, bK_iff]
      exact ⟨s', es, (h1 k (by simp)).trans hk, hb, h.1, hK⟩
    | full =>
      simp only [freeK_iff] at h
      refine ⟨_, _, _, h.2.2, fun σ' h1 h2 K' hK => ?_⟩
      simp only [appW, bK_iff]
      refine ⟨hx, ha, g1 σ' (fun k hk => h1 k (List.mem_cons_of_mem _ hk)) _ ?_⟩
      simp only [arrK_iff, bK_iff, freeK_iff]
      exact ⟨s', es, (h1 k (by simp)).trans hk, hb, (h2 al (by simp)).trans h.1, h.2.1, hK⟩
    | opn =>
      simp only [freeK_iff] at h
      refine ⟨_, _, _, h.2.2, fun σ' h1 h2 K' hK => ?_⟩
      simp only [appW, bK_iff]
      refine ⟨hx, ha, g1 σ' (fun k hk => h1 k (List.mem_cons_of_mem _ hk)) _ ?_⟩
      simp only [arrK_iff, bK_iff, freeK_iff]
      exact ⟨s', es, (h1 k (by simp)).trans hk, hb, (h2 al (by simp)).trans h.1, h.2.1, hK⟩
  | _ =>
    simp only [appW, bK_iff] at h
    obtain ⟨hx, ha, h⟩ := h
    obtain ⟨xs, ks, h, g1⟩ := elemsK_lo h
    exact h.elim
end
end Go.Ab
namespace Go.Ab
section
variable {cx : Cx} {al : Nat} {σ : Nat → SV}
def LoV (F : (Nat → SV) → (AV → Upd → List Nat → Prop) → Prop) (σ : Nat → SV) : Prop :=
  ∀ K, F σ K → ∃ v u rd, K v u rd ∧ ∀ σ' : Nat → SV, (∀ k ∈ rd, σ' k = σ k) → (∀ k ∈ u.map (·.1), σ' k = σ k) → ∀ K' : AV → Upd → List Nat → Prop, K' v u rd → F σ' K'
theorem Sel.lo {G : (AV → Upd → List Nat → Prop) → Prop} {F : (Nat → SV) → (AV → Upd → List Nat → Prop) → Prop} (hF : ∀ σ K, F σ K = G K) (h : Sel fun K : (AV × Upd × List Nat) → Prop => G fun v u rd => K (v, u, rd)) : LoV F σ := fun K hK => by
  rw [hF] at hK
  obtain ⟨⟨v, u, rd⟩, h1, h2⟩ := h (fun p => K p.1 p.2.1 p.2.2) hK
  exact ⟨v, u, rd, h1, fun σ' _ _ K' hK' => by rw [hF]; exact h2 (fun p => K' p.1 p.2.1 p.2.2) hK'⟩
def opF (cx : Cx) (al : Nat) (o : Op) (vs : List AV) : (Nat → SV) → (AV → Upd → List Nat → Prop) → Prop := fun σ K => opV cx al o vs σ K
variable {vs : List AV}
theorem lo_move (x : Operand) : LoV (opF cx al (.move x) vs) σ :=
  Sel.lo (G := fun K => u1 vs fun v => fo v fun v => K v [] []) (fun _ _ => rfl) (Sel.u1 _ _ fun v => Sel.fo v _ fun _ => Sel.pure _)
theorem lo_assign (x : Operand) : LoV (opF cx al (.assign x) vs) σ :=
  Sel.lo (G := fun K => u1 vs fun v => fo v fun v => K v [] []) (fun _ _ => rfl) (Sel.u1 _ _ fun v => Sel.fo v _ fun _ => Sel.pure _)
theorem lo_pick (x y z : Operand) : LoV (opF cx al (.pick x y z) vs) σ := by
  refine Sel.lo (G := fun K => opV cx al (.pick x y z) vs σ K) (fun _ _ => rfl) ?_
  refine Sel.u3 _ _ fun c a b => ?_
  cases c with
  | lit c =>
    cases c with
    | false => exact Sel.fo b (fun v (K : (AV × Upd × List Nat) → Prop) => K (v, [], [])) fun v => Sel.pure _
    | true => exact Sel.fo a (fun v (K : (AV × Upd × List Nat) → Prop) => K (v, [], [])) fun v => Sel.pure _
  | bool c => exact Sel.br c _ _ (Sel.fo a (fun v (K : (AV × Upd × List Nat) → Prop) => K (v, [], [])) fun v => Sel.pure _) (Sel.fo b (fun v (K : (AV × Upd × List Nat) → Prop) => K (v, [], [])) fun v => Sel.pure _)
  | _ => exact Sel.no
theorem lo_alloc (e : TypeId) : LoV (opF cx al (.alloc e) vs) σ := fun K h => by
  simp only [opF, opV, opK_iff, freeK_iff] at h
  obtain ⟨ti, ht, hf, h⟩ := h
  refine ⟨_, _, _, h, fun σ' h1 h2 K' hK => ?_⟩
  simp only [opF, opV, opK_iff, freeK_iff]
  exact ⟨ti, ht, (h2 al (by simp)).trans hf, hK⟩
theorem lo_box (e : TypeId) (x : Operand) : LoV (opF cx al (.box e x) vs) σ := fun K h => by
  simp only [opF, opV, u1_iff, opK_iff, freeK_iff] at h
  obtain ⟨v, hv, cs, hc, hf, h⟩ := h
  refine ⟨_, _, _, h, fun σ' h1 h2 K' hK => ?_⟩
  simp only [opF, opV, u1_iff, opK_iff, freeK_iff]
  exact ⟨v, hv, cs, hc, (h2 al (by simp)).trans hf, hK⟩
theorem lo_build (t : TypeId) (ps : Array (Nat × Operand)) : LoV (opF cx al (.build t ps) vs) σ := by
  refine Sel.lo (G := fun K => opV cx al (.build t ps) vs σ K) (fun _ _ => rfl) ?_
  show Sel fun K : (AV × Upd × List Nat) → Prop => match cx.T t with
    | some ⟨.struct fs _, _, _, z⟩ => opK (fillp fs z (ps.toList.map (·.1)) vs) fun cs => K (.agg cs, [], [])
    | _ => False
  cases cx.T t with
  | none => exact Sel.no
  | some ti =>
    obtain ⟨k, s, b, z⟩ := ti
    cases k with
    | struct fs q => exact Sel.op _ _ fun cs => Sel.pure _
    | _ => exact Sel.no
theorem lo_load (t : TypeId) (x : Operand) : LoV (opF cx al (.load t x) vs) σ := fun K h => by
  simp only [opF, opV, u1_iff] at h
  obtain ⟨a, ha, h⟩ := h
  cases a with
  | bptr k o =>
    simp only [boxK_iff] at h
    obtain ⟨cs, hk, h⟩ := h
    obtain ⟨v, h, g⟩ := finW_sel _ _ _ _ h
    refine ⟨_, _, _, h, fun σ' h1 h2 K' hK => ?_⟩
    simp only [opF, opV, u1_iff]
    refine ⟨_, ha, ?_⟩
    simp only [boxK_iff]
    exact ⟨cs, (h1 k (by simp)).trans hk, g _ hK⟩
  | ptr k i o =>
    simp only [arrK_iff] at h
    obtain ⟨s, es, hk, e, he, h⟩ := h
    obtain ⟨v, h, g⟩ := finW_sel _ _ _ _ h
    refine ⟨_, _, _, h, fun σ' h1 h2 K' hK => ?_⟩
    simp only [opF, opV, u1_iff]
    refine ⟨_, ha, ?_⟩
    simp only [arrK_iff]
    exact ⟨s, es, (h1 k (by simp)).trans hk, e, he, g _ hK⟩
  | rptr s es i o =>
    obtain ⟨e, he, h⟩ := h
    obtain ⟨v, h, g⟩ := finW_sel _ _ _ _ h
    refine ⟨_, _, _, h, fun σ' h1 h2 K' hK => ?_⟩
    simp only [opF, opV, u1_iff]
    exact ⟨_, ha, e, he, g _ hK⟩
  | _ => exact h.elim
theorem lo_store (t : TypeId) (x y : Operand) : LoV (opF cx al (.store t x y) vs) σ := fun K h => by
  simp only [opF, opV, u2_iff, opK_iff, bK_iff] at h
  obtain ⟨ti, ht, a, v, ha, x, hx, hl, h⟩ := h
  cases a with
  | bptr k o =>
    simp only [boxK_iff, opK_iff] at h
    obtain ⟨cs, hk, cs', hc, h⟩ := h
    refine ⟨_, _, _, h, fun σ' h1 h2 K' hK => ?_⟩
    simp only [opF, opV, u2_iff, opK_iff, bK_iff]
    refine ⟨ti, ht, _, v, ha, x, hx, hl, ?_⟩
    simp only [boxK_iff, opK_iff]
    exact ⟨cs, (h1 k (by simp)).trans hk, cs', hc, hK⟩
  | ptr k i o =>
    simp only [arrK_iff] at h
    obtain ⟨s, es, hk, h⟩ := h
    obtain ⟨x', ks, h, g⟩ := vws_lo h
    obtain ⟨hm, e, he, e', hc, h⟩ := h
    refine ⟨_, _, _, h, fun σ' h1 h2 K' hK => ?_⟩
    simp only [opF, opV, u2_iff, opK_iff, bK_iff]
    refine ⟨ti, ht, _, v, ha, x, hx, hl, ?_⟩
    simp only [arrK_iff]
    refine ⟨s, es, (h1 k (by simp)).trans hk, g σ' (fun k hk => h1 k (List.mem_cons_of_mem _ hk)) _ ?_⟩
    exact ⟨hm, e, he, e', hc, hK⟩
  | _ => exact h.elim
theorem lo_nilCheck (x : Operand) : LoV (opF cx al (.nilCheck x) vs) σ := by
  refine Sel.lo (G := fun K => opV cx al (.nilCheck x) vs σ K) (fun _ _ => rfl) ?_
  refine Sel.u1 _ _ fun c => ?_
  cases c with
  | bptr => exact Sel.pure _
  | ptr => exact Sel.pure _
  | rptr => exact Sel.pure _
  | _ => exact Sel.no
theorem lo_binOp (op : BinOp) (t : TypeId) (x y : Operand) (t' : TypeId) : LoV (opF cx al (.binOp op t x y t') vs) σ := by
  refine Sel.lo (G := fun K => u2 vs fun a b => binW (cx.T t) op a b fun v => K v [] []) (fun _ _ => rfl) ?_
  exact Sel.u2 _ _ fun a b => Sel.bind (binW_sel _ _ _ _) fun v => Sel.pure _
theorem lo_unOp (op : UnOp) (t : TypeId) (x : Operand) : LoV (opF cx al (.unOp op t x) vs) σ := by
  refine Sel.lo (G := fun K => opV cx al (.unOp op t x) vs σ K) (fun _ _ => rfl) ?_
  refine Sel.u1 _ _ fun c => ?_
  cases op <;> cases c <;> first | exact Sel.no | exact Sel.pure _
theorem lo_convert (s t : TypeId) (x : Operand) : LoV (opF cx al (.convert s t x) vs) σ := by
  refine Sel.lo (G := fun K => opV cx al (.convert s t x) vs σ K) (fun _ _ => rfl) ?_
  refine Sel.u1 _ _ fun c => ?_
  cases c with
  | int k n =>
    show Sel fun K : (AV × Upd × List Nat) → Prop => match AV.int k n, cx.T s, cx.T t with
      | .int _ n, some ⟨.int _, _, _, _⟩, some ⟨.int k, _, _, _⟩ => K (.int k (k.wrap n), [], [])
      | _, _, _ => False
    cases cx.T s with
    | none => exact Sel.no
    | some a =>
      obtain ⟨a, _, _, _⟩ := a
      cases cx.T t with
      | none => cases a <;> exact Sel.no
      | some b =>
        obtain ⟨b, _, _, _⟩ := b
        cases a <;> cases b <;> first | exact Sel.no | exact Sel.pure _
  | _ => exact Sel.no
theorem lo_extract (x : Operand) (n : Nat) : LoV (opF cx al (.extract x n) vs) σ := by
  refine Sel.lo (G := fun K => opV cx al (.extract x n) vs σ K) (fun _ _ => rfl) ?_
  refine Sel.u1 _ _ fun c => ?_
  cases c with
  | tup ws => exact Sel.op _ _ fun v => Sel.fo v _ fun _ => Sel.pure _
  | _ => exact Sel.no
theorem lo_fieldAddr (t : TypeId) (x : Operand) (f : Nat) : LoV (opF cx al (.fieldAddr t x f) vs) σ := by
  refine Sel.lo (G := fun K => opV cx al (.fieldAddr t x f) vs σ K) (fun _ _ => rfl) ?_
  refine Sel.u1 _ _ fun c => Sel.op _ _ fun ⟨d, u, s⟩ => ?_
  cases c with
  | bptr => exact Sel.pure _
  | ptr => exact Sel.pure _
  | rptr => exact Sel.pure _
  | _ => exact Sel.no
theorem lo_field (t : TypeId) (x : Operand) (f : Nat) : LoV (opF cx al (.field t x f) vs) σ := by
  refine Sel.lo (G := fun K => opV cx al (.field t x f) vs σ K) (fun _ _ => rfl) ?_
  refine Sel.u1 _ _ fun c => Sel.op _ _ fun ⟨d, u, s⟩ => ?_
  cases c with
  | agg cs => exact Sel.bind (F := finW (cx.T u) cs d) (G := fun v (K : (AV × Upd × List Nat) → Prop) => K (v, [], [])) (finW_sel _ _ _) fun v => Sel.pure _
  | _ => exact Sel.no
theorem elemT_sel {R : Type} {t : Nat} {F : Nat → TI → (R → Prop) → Prop} (h : ∀ e ti, Sel (F e ti)) : Sel fun K => elemT cx.T t fun e ti => F e ti K := by
  show Sel fun K => match cx.T t with
    | some ⟨.slice e, _, _, _⟩ => opK (cx.T e) fun ti => F e ti K
    | _ => False
  cases cx.T t with
  | none => exact Sel.no
  | some a =>
    obtain ⟨a, _, _, _⟩ := a
    cases a with
    | slice e => exact Sel.op _ _ fun ti => h e ti
    | _ => exact Sel.no
theorem elemT_ex {t : Nat} {K : Nat → TI → Prop} (h : elemT cx.T t K) : ∃ e ti, K e ti ∧ ∀ K' : Nat → TI → Prop, K' e ti → elemT cx.T t K' := by
  unfold elemT at h ⊢
  split at h
  · rename_i e _ _ _ he
    rw [opK_iff] at h
    obtain ⟨ti, ht, h⟩ := h
    exact ⟨e, ti, h, fun K' hK => by rw [opK_iff]; exact ⟨ti, ht, hK⟩⟩
  · exact h.elim
theorem elemA_sel {R : Type} {t : Nat} {F : TI → (R → Prop) → Prop} {G : Nat → TI → (R → Prop) → Prop} (h : ∀ ti, Sel (F ti)) (h' : ∀ n ti, Sel (G n ti)) : Sel fun K => elemA cx.T t (fun ti => F ti K) fun n ti => G n ti K := by
  show Sel fun K => match cx.T t with
    | some ⟨.slice e, _, _, _⟩ => opK (cx.T e) fun ti => F ti K
    | some ⟨.array n e, _, _, _⟩ => opK (cx.T e) fun ti => G n ti K
    | _ => False
  cases cx.T t with
  | none => exact Sel.no
  | some a =>
    obtain ⟨a, _, _, _⟩ := a
    cases a with
    | slice e => exact Sel.op _ _ fun ti => h ti
    | array n e => exact Sel.op _ _ fun ti => h' n ti
    | _ => exact Sel.no
theorem lo_indexAddr (t : TypeId) (x i : Operand) : LoV (opF cx al (.indexAddr t x i) vs) σ := by
  refine Sel.lo (G := fun K => opV cx al (.indexAddr t x i) vs σ K) (fun _ _ => rfl) ?_
  refine Sel.u2 _ _ fun x i => elemA_sel (fun ti => Sel.int _ _ fun i => ?_) fun n ti => Sel.int _ _ fun i => ?_
  · cases x with
    | row s es => exact Sel.b _ _ fun _ => Sel.and _ _ fun _ => Sel.pure _
    | own s k j n q => exact Sel.b _ _ fun _ => Sel.and _ _ fun _ => Sel.pure _
    | _ => exact Sel.no
  · cases x with
    | bptr k o => exact Sel.and _ _ fun _ => Sel.pure _
    | ptr k j o => exact Sel.and _ _ fun _ => Sel.pure _
    | rptr s es j o => exact Sel.and _ _ fun _ => Sel.pure _
    | _ => exact Sel.no
theorem lo_makeSlice (t : TypeId) (x y : Operand) : LoV (opF cx al (.makeSlice t x y) vs) σ := fun K h => by
  simp only [opF, opV, u2_iff] at h
  obtain ⟨a, b, hv, h⟩ := h
  obtain ⟨e, ti, h, g⟩ := elemT_ex h
  simp only [intK_iff, freeK_iff] at h
  obtain ⟨k, l, hl, k', c, hc, hf, hb, h⟩ := h
  refine ⟨_, _, _, h, fun σ' h1 h2 K' hK => ?_⟩
  simp only [opF, opV, u2_iff]
  refine ⟨a, b, hv, g _ ?_⟩
  simp only [intK_iff, freeK_iff]
  exact ⟨k, l, hl, k', c, hc, (h2 al (by simp)).trans hf, hb, hK⟩
theorem lo_index (t : TypeId) (x i : Operand) : LoV (opF cx al (.index t x i) vs) σ := by
  refine Sel.lo (G := fun K => opV cx al (.index t x i) vs σ K) (fun _ _ => rfl) ?_
  refine Sel.u2 _ _ fun x i => Sel.int _ _ fun i => ?_
  cases x with
  | str s =>
    show Sel fun K : (AV × Upd × List Nat) → Prop => match AV.str s, cx.T t with
      | .str s, some ⟨.string, _, _, _⟩ => 0 ≤ i ∧ ∃ b, s[i.toNat]? = some b ∧ K (.int .u8 b.toNat, [], [])
      | _, _ => False
    cases cx.T t with
    | none => exact Sel.no
    | some a =>
      obtain ⟨a, _, _, _⟩ := a
      cases a with
      | string => exact Sel.and _ _ fun _ => Sel.ex _ _ fun b => Sel.pure _
      | _ => exact Sel.no
  | _ => exact Sel.no
theorem lo_slice (t : TypeId) (x : Operand) (lo hi mx : Option Operand) : LoV (opF cx al (.slice t x lo hi mx) vs) σ := by
  refine Sel.lo (G := fun K => opV cx al (.slice t x lo hi mx) vs σ K) (fun _ _ => rfl) ?_
  refine elemT_sel fun e ti => ?_
  cases lo <;> cases hi <;> cases mx <;> first
    | exact Sel.no
    | exact Sel.u1 _ _ fun x => Sel.b _ _ fun _ => Sel.bind (sliceW_sel _ _ _ _) fun v => Sel.pure _
    | exact Sel.u2 _ _ fun x l => Sel.b _ _ fun _ => Sel.bind (sliceW_sel _ _ _ _) fun v => Sel.pure _
    | exact Sel.u3 _ _ fun x l m => Sel.b _ _ fun _ => Sel.bind (sliceW_sel _ _ _ _) fun v => Sel.pure _
theorem lo_makeFunc (fn : Fn) (a b : Array Operand) : LoV (opF cx al (.makeFunc fn a b) vs) σ := by
  cases fn with
  | func f => exact Sel.lo (G := fun K => K (.fn f (vs.take a.size) (vs.drop a.size)) [] []) (fun _ _ => rfl) (Sel.pure _)
  | _ => exact fun _ h => h.elim
theorem lo_buildSlice (t : TypeId) (n : Nat) (ps : Array (Nat × Operand)) : LoV (opF cx al (.buildSlice t n ps) vs) σ := fun K h => by
  simp only [opF, opV] at h
  obtain ⟨e, ti, h, g⟩ := elemT_ex h
  cases n with
  | zero =>
    simp only [bK_iff] at h
    refine ⟨_, _, _, h.2, fun σ' h1 h2 K' hK => ?_⟩
    simp only [opF, opV]
    exact g _ ((bK_iff _ _).2 ⟨h.1, hK⟩)
  | succ n =>
    simp only [bK_iff] at h
    obtain ⟨hb, h⟩ := h
    obtain ⟨es, ks, h, g2⟩ := fills_lo _ h
    simp only [freeK_iff] at h
    refine ⟨_, _, _, h.2, fun σ' h1 h2 K' hK => ?_⟩
    simp only [opF, opV]
    exact g _ ((bK_iff _ _).2 ⟨hb, g2 σ' h1 _ ((freeK_iff _ _ _).2 ⟨(h2 al (by simp)).trans h.1, hK⟩)⟩)
theorem lo_call (c : Call) : LoV (opF cx al (.call c) vs) σ := fun K h => by
  cases hc : c.callee with
  | invoke r m => simp only [opF, opV, hc] at h
  | value f =>
    simp only [opF, opV, hc] at h
    cases vs with
    | nil => exact h.elim
    | cons f r =>
      obtain ⟨v, u, rd, h, g⟩ := callW_lo h
      exact ⟨v, u, rd, h, fun σ' h1 h2 K' hK => by simp only [opF, opV, hc]; exact g σ' h1 h2 K' hK⟩
  | builtin b =>
    have eq : ∀ σ K, opF cx al (.call c) vs σ K = builtinW cx al b c.argTypes.toList vs σ K := fun σ K => by simp only [opF, opV, hc]
    rw [eq] at h
    simp only [eq]
    cases b with
    | len =>
      cases hts : c.argTypes.toList with
      | nil => rw [hts] at h; exact h.elim
      | cons t ts =>
        rw [hts] at h
        simp only [builtinW, opK_iff, u1_iff] at h
        obtain ⟨ti, ht, x, hx, h⟩ := h
        obtain ⟨k, _, _, _⟩ := ti
        cases k with
        | slice e =>
          obtain ⟨v, h, g⟩ := lenW_sel _ _ h
          exact ⟨_, _, _, h, fun σ' h1 h2 K' hK => by simp only [builtinW, opK_iff, u1_iff]; exact ⟨_, ht, x, hx, g _ hK⟩⟩
        | string =>
          obtain ⟨v, h, g⟩ := lenS_sel _ _ h
          exact ⟨_, _, _, h, fun σ' h1 h2 K' hK => by simp only [builtinW, opK_iff, u1_iff]; exact ⟨_, ht, x, hx, g _ hK⟩⟩
        | _ => exact h.elim
    | append =>
      cases hts : c.argTypes.toList with
      | nil => rw [hts] at h; exact h.elim
      | cons t ts => cases ts with
        | nil => rw [hts] at h; exact h.elim
        | cons t' ts => cases ts with
          | cons => rw [hts] at h; exact h.elim
          | nil =>
            rw [hts] at h
            simp only [builtinW, bK_iff] at h
            obtain ⟨hb, h⟩ := h
            obtain ⟨e, ti, h, g⟩ := elemT_ex h
            simp only [u2_iff] at h
            obtain ⟨a, x, hv, h⟩ := h
            obtain ⟨v, u, rd, h, g2⟩ := appW_lo h
            refine ⟨v, u, rd, h, fun σ' h1 h2 K' hK => ?_⟩
            simp only [builtinW, bK_iff]
            refine ⟨hb, g _ ?_⟩
            simp only [u2_iff]
            exact ⟨a, x, hv, g2 σ' h1 h2 K' hK⟩
    | clear =>
      cases hts : c.argTypes.toList with
      | nil => rw [hts] at h; exact h.elim
      | cons t ts =>
        rw [hts] at h
        simp only [builtinW] at h
        obtain ⟨e, ti, h, g⟩ := elemT_ex h
        simp only [u1_iff] at h
        obtain ⟨x, hv, h⟩ := h
        have fin : ∀ {v u rd}, K v u rd → (∀ σ' : Nat → SV, (∀ k ∈ rd, σ' k = σ k) → ∀ K' : AV → Upd → List Nat → Prop, K' v u rd → builtinW cx al .clear (t :: ts) vs σ' K') → ∃ v u rd, K v u rd ∧ ∀ σ' : Nat → SV, (∀ k ∈ rd, σ' k = σ k) → (∀ k ∈ u.map (·.1), σ' k = σ k) → ∀ K' : AV → Upd → List Nat → Prop, K' v u rd → builtinW cx al .clear (t :: ts) vs σ' K' :=
          fun hK hg => ⟨_, _, _, hK, fun σ' h1 _ K' hK' => hg σ' h1 K' hK'⟩
        cases x with
        | own s k i n q =>
          simp only [arrK_iff, bK_iff] at h
          obtain ⟨s', es, hk, hb, hl, h⟩ := h
          refine fin h fun σ' h1 K' hK => ?_
          simp only [builtinW]
          refine g _ ?_
          simp only [u1_iff]
          refine ⟨_, hv, ?_⟩
          simp only [arrK_iff, bK_iff]
          exact ⟨s', es, (h1 k (by simp)).trans hk, hb, hl, hK⟩
        | nils =>
          refine fin h fun σ' h1 K' hK => ?_
          simp only [builtinW]
          refine g _ ?_
          simp only [u1_iff]
          exact ⟨_, hv, hK⟩
        | emp =>
          refine fin h fun σ' h1 K' hK => ?_
          simp only [builtinW]
          refine g _ ?_
          simp only [u1_iff]
          exact ⟨_, hv, hK⟩
        | _ => exact h.elim
    | _ => exact h.elim
theorem opV_lo (o : Op) : LoV (opF cx al o vs) σ := by
  cases o with
  | move x => exact lo_move x
  | assign x => exact lo_assign x
  | pick c x y => exact lo_pick c x y
  | alloc e => exact lo_alloc e
  | box e x => exact lo_box e x
  | build t ps => exact lo_build t ps
  | buildSlice t n ps => exact lo_buildSlice t n ps
  | load t x => exact lo_load t x
  | store t x y => exact lo_store t x y
  | nilCheck x => exact lo_nilCheck x
  | binOp op t x y t' => exact lo_binOp op t x y t'
  | unOp op t x => exact lo_unOp op t x
  | convert s t x => exact lo_convert s t x
  | extract x n => exact lo_extract x n
  | fieldAddr t x f => exact lo_fieldAddr t x f
  | field t x f => exact lo_field t x f
  | indexAddr t x i => exact lo_indexAddr t x i
  | makeSlice t x y => exact lo_makeSlice t x y
  | index t x i => exact lo_index t x i
  | slice t x lo hi mx => exact lo_slice t x lo hi mx
  | makeFunc fn xs ys => exact lo_makeFunc fn xs ys
  | call c => exact lo_call c
  | _ => exact fun _ h => h.elim
end
end Go.Ab
namespace Go.Ab
section
variable {V R : Type} {W : R → Nat → Prop} {up : R → (Nat → V) → Nat → V}
theorem fold_agree (h1 : ∀ r s k, ¬ W r k → up r s k = s k) (h2 : ∀ r s s' k, s k = s' k → up r s k = up r s' k) {p q : R → Bool} {k : Nat} : ∀ (T : List R) (s s' : Nat → V), s k = s' k → (∀ r ∈ T, W r k → p r = q r) →
    (T.filter p).foldl (fun s r => up r s) s k = (T.filter q).foldl (fun s r => up r s) s' k
  | [], s, s', h, _ => h
  | r :: T, s, s', h, hp => by
    have ih := fun s s' h => fold_agree h1 h2 (p := p) (q := q) T s s' h (fun r hr => hp r (List.mem_cons_of_mem _ hr))
    by_cases hw : W r k
    · have := hp r (List.mem_cons_self ..) hw
      cases hq : q r with
      | true => rw [hq] at this; rw [List.filter_cons_of_pos (by simp [this]), List.filter_cons_of_pos (by simp [hq])]; exact ih _ _ (h2 r s s' k h)
      | false => rw [hq] at this; rw [List.filter_cons_of_neg (by simp [this]), List.filter_cons_of_neg (by simp [hq])]; exact ih _ _ h
    · have e1 : up r s k = s' k := (h1 r s k hw).trans h
      have e2 : s k = up r s' k := h.trans (h1 r s' k hw).symm
      cases hpr : p r <;> cases hqr : q r <;> simp only [List.filter_cons, hpr, hqr, if_true, List.foldl_cons, Bool.false_eq_true, if_false]
      · exact ih _ _ h
      · exact ih _ _ e2
      · exact ih _ _ e1
      · exact ih _ _ (e1.trans (h1 r s' k hw).symm)
theorem fold_up (h1 : ∀ r s k, ¬ W r k → up r s k = s k) (h2 : ∀ r s s' k, s k = s' k → up r s k = up r s' k) (r : R) : ∀ (T : List R) (s : Nat → V), (∀ r' ∈ T, ∀ k, W r k → ¬ W r' k) →
    T.foldl (fun s r => up r s) (up r s) = up r (T.foldl (fun s r => up r s) s)
  | [], _, _ => rfl
  | r' :: T, s, h => by
    have hc : up r' (up r s) = up r (up r' s) := by
      funext k
      by_cases hk : W r k
      · rw [h1 r' _ k (h r' (List.mem_cons_self ..) k hk)]
        exact (h2 r _ _ k (h1 r' s k (h r' (List.mem_cons_self ..) k hk))).symm
      · rw [h1 r (up r' s) k hk]
        exact h2 r' _ _ k (h1 r s k hk)
    show T.foldl _ (up r' (up r s)) = up r (T.foldl _ (up r' s))
    rw [hc]
    exact fold_up h1 h2 r T (up r' s) fun r1 hr => h r1 (List.mem_cons_of_mem _ hr)
theorem fold_add (h1 : ∀ r s k, ¬ W r k → up r s k = s k) (h2 : ∀ r s s' k, s k = s' k → up r s k = up r s' k) {p p' : R → Bool} (T1 : List R) (r : R) (T2 : List R) (s : Nat → V) (hp : ∀ x ∈ T1 ++ T2, p' x = p x) (hr : p r = false) (hr' : p' r = true)
    (hd : ∀ r' ∈ T2, p r' = true → ∀ k, W r k → ¬ W r' k) : ((T1 ++ r :: T2).filter p').foldl (fun s r => up r s) s = up r (((T1 ++ r :: T2).filter p).foldl (fun s r => up r s) s) := by
  have e1 : T1.filter p' = T1.filter p := List.filter_congr fun x hx => hp x (List.mem_append_left _ hx)
  have e2 : T2.filter p' = T2.filter p := List.filter_congr fun x hx => hp x (List.mem_append_right _ hx)
  rw [List.filter_append, List.filter_append, List.filter_cons_of_pos (by simp [hr']), List.filter_cons_of_neg (by simp [hr]), e1, e2, List.foldl_append, List.foldl_append, List.foldl_cons]
  exact fold_up h1 h2 r _ _ fun r' hr' => hd r' (List.mem_filter.1 hr').1 (List.mem_filter.1 hr').2
end
structure Rec where
  f : Foot
  v : AV
  u : Upd
def wE (r : Rec) (t : Nat) : Prop := r.f.dst = some t
def wS (r : Rec) (k : Nat) : Prop := k ∈ r.u.map (·.1)
def uE (r : Rec) (E : Nat → AV) : Nat → AV := upD r.f.dst r.v E
def uS (r : Rec) (σ : Nat → SV) : Nat → SV := updF σ r.u
theorem upD_no (o : Option Nat) (v : AV) (s : Nat → AV) (k : Nat) (h : ¬ o = some k) : upD o v s k = s k := by
  cases o with
  | none => rfl
  | some d => exact if_neg fun e => h (by rw [e])
theorem upD_cg (o : Option Nat) (v : AV) (s s' : Nat → AV) (k : Nat) (h : s k = s' k) : upD o v s k = upD o v s' k := by
  cases o with
  | none => exact h
  | some d => simp only [upD, h]
theorem uE_no (r : Rec) (s : Nat → AV) (k : Nat) (h : ¬ wE r k) : uE r s k = s k := upD_no _ _ _ _ h
theorem uE_cg (r : Rec) (s s' : Nat → AV) (k : Nat) (h : s k = s' k) : uE r s k = uE r s' k := upD_cg _ _ _ _ _ h
theorem updF_no : ∀ (u : Upd) (σ : Nat → SV) (k : Nat), k ∉ u.map (·.1) → updF σ u k = σ k
  | [], _, _, _ => rfl
  | a :: u, σ, k, h => by
    show updF _ u k = _
    rw [updF_no u _ k fun hk => h (List.mem_cons_of_mem _ hk)]
    have : k ≠ a.1 := fun e => h (by rw [e]; exact List.mem_cons_self ..)
    simp only [if_neg this]
theorem updF_cg : ∀ (u : Upd) (σ σ' : Nat → SV) (k : Nat), σ k = σ' k → updF σ u k = updF σ' u k
  | [], _, _, _, h => h
  | a :: u, σ, σ', k, h => updF_cg u _ _ k (by simp only [h])
theorem uS_no (r : Rec) (s : Nat → SV) (k : Nat) (h : ¬ wS r k) : uS r s k = s k := updF_no _ _ _ h
theorem uS_cg (r : Rec) (s s' : Nat → SV) (k : Nat) (h : s k = s' k) : uS r s k = uS r s' k := updF_cg _ _ _ _ h
def allE (T : List Rec) (E : Nat → AV) : Nat → AV := T.foldl (fun s r => uE r s) E
def allS (T : List Rec) (σ : Nat → SV) : Nat → SV := T.foldl (fun s r => uS r s) σ
def Stp (cx : Cx) (B : Bs) (ops : Array Oper) (i : Nat) (r : Rec) (E0 : Nat → AV) (σ0 : Nat → SV) : Prop :=
  ∀ (E : Nat → AV) (σ : Nat → SV), (∀ t ∈ r.f.us, E t = E0 t) → (∀ k ∈ r.f.rd, σ k = σ0 k) → (∀ k ∈ r.f.wr, σ k = σ0 k) →
    ∀ (a : Act) (w : World) (Q : Exit → Act → World → Prop) (K : Act → World → Prop), I B E σ a w → (∀ a' w', I B (uE r E) (uS r σ) a' w' → K a' w') → wpOp cx.P ops Q i K a w
structure WF (cx : Cx) (B : Bs) (ops : Array Oper) (E0 : Nat → AV) (σ0 : Nat → SV) (T : List Rec) : Prop where
  idx : ∀ (j : Nat) (r : Rec), T[j]? = some r → r.f.i = j
  wr : ∀ r ∈ T, r.f.wr = r.u.map (·.1)
  anc : ∀ (j : Nat) (r : Rec), T[j]? = some r → ∃ o, ops[j]? = some o ∧ r.f.anc = ancOf (((T.take j).map (·.f)).reverse) o
  stp : ∀ (j : Nat) (r : Rec), T[j]? = some r → Stp cx B ops j r (allE (T.take j) E0) (allS (T.take j) σ0)
theorem get_snoc {α : Type} {T : List α} {r x : α} {j : Nat} (h : (T ++ [r])[j]? = some x) : (T[j]? = some x ∧ j < T.length) ∨ (j = T.length ∧ x = r) := by
  rcases Nat.lt_or_ge j T.length with hj | hj
  · rw [List.getElem?_append_left hj] at h
    exact .inl ⟨h, hj⟩
  · rw [List.getElem?_append_right hj] at h
    cases hk : j - T.length with
    | zero => rw [hk] at h; cases h; exact .inr ⟨by omega, rfl⟩
    | succ n => rw [hk] at h; simp at h
theorem take_snoc {α : Type} {T : List α} {r : α} {j : Nat} (h : j ≤ T.length) : (T ++ [r]).take j = T.take j := List.take_append_of_le_length h
theorem WF.snoc {cx : Cx} {B : Bs} {ops : Array Oper} {E0 : Nat → AV} {σ0 : Nat → SV} {T : List Rec} (h : WF cx B ops E0 σ0 T) {r : Rec} (h1 : r.f.i = T.length) (h2 : r.f.wr = r.u.map (·.1)) (h3 : ∃ o, ops[T.length]? = some o ∧ r.f.anc = ancOf ((T.map (·.f)).reverse) o)
    (h4 : Stp cx B ops T.length r (allE T E0) (allS T σ0)) : WF cx B ops E0 σ0 (T ++ [r]) := by
  refine ⟨fun j x hj => ?_, fun x hx => ?_, fun j x hj => ?_, fun j x hj => ?_⟩
  · rcases get_snoc hj with ⟨h', _⟩ | ⟨rfl, rfl⟩
    · exact h.idx j x h'
    · exact h1
  · rcases List.mem_append.1 hx with hx | hx
    · exact h.wr x hx
    · rw [List.mem_singleton] at hx; subst hx; exact h2
  · rcases get_snoc hj with ⟨h', hl⟩ | ⟨rfl, rfl⟩
    · rw [take_snoc (Nat.le_of_lt hl)]; exact h.anc j x h'
    · rw [take_snoc (Nat.le_refl _), List.take_length]; exact h3
  · rcases get_snoc hj with ⟨h', hl⟩ | ⟨rfl, rfl⟩
    · rw [take_snoc (Nat.le_of_lt hl)]; exact h.stp j x h'
    · rw [take_snoc (Nat.le_refl _), List.take_length]; exact h4
section
variable {cx : Cx} {B : Bs} {ops : Array Oper}
theorem guard_lo {ol : List Oper} {g : Option (Nat × Bool)} {E : Env} {go skip : Prop} (h : guardK ol g E go skip) :
    (go ∧ ∀ E' : Env, (∀ j w d, g = some (j, w) → dstOf ol[j]? = some d → get E' d = get E d) → guardK ol g E' True False) ∨
    (skip ∧ ∀ E' : Env, (∀ j w d, g = some (j, w) → dstOf ol[j]? = some d → get E' d = get E d) → guardK ol g E' False True) := by
  cases g with
  | none => exact .inl ⟨h, fun _ _ => trivial⟩
  | some p =>
    obtain ⟨j, want⟩ := p
    unfold guardK at h ⊢
    simp only at h ⊢
    cases hd : dstOf ol[j]? with
    | none => rw [hd] at h; exact h.elim
    | some d =>
      rw [hd] at h
      simp only at h ⊢
      split at h
      · rename_i b hb
        cases hx : Bool.xor b want with
        | true => rw [hx] at h; exact .inr ⟨h, fun E' he => by rw [he j want d rfl hd, hb]; simp only [hx]; trivial⟩
        | false => rw [hx] at h; exact .inl ⟨h, fun E' he => by rw [he j want d rfl hd, hb]; simp only [hx]; trivial⟩
      · rename_i hb
        exact .inr ⟨h, fun E' he => by rw [he j want d rfl hd, hb]; trivial⟩
      · exact h.elim
theorem vals_eq {E E' : Nat → AV} {o : Op} (h : ∀ t ∈ tmpsOf o, E' t = E t) : o.operands.toList.map (ev E') = o.operands.toList.map (ev E) := by
  refine List.map_congr_left fun x hx => ?_
  cases x with
  | tmp t => exact h t (List.mem_filterMap.2 ⟨_, hx, rfl⟩)
  | _ => rfl
theorem guard_at {o : Oper} {go skip : Prop} {E : Nat → AV} {σ : Nat → SV} {a : Act} {w : World} {ι : Nat → LS} {X : Nat → Prop} (hs : ∀ t, VR w (XL X σ ι) ι (a.tmps.getD t undef) (E t)) {E0 : Env}
    (hE : ∀ j w d, o.guard = some (j, w) → dstOf ops.toList[j]? = some d → E d = get E0 d)
    (h : ∀ E' : Env, (∀ j w d, o.guard = some (j, w) → dstOf ops.toList[j]? = some d → get E' d = get E0 d) → guardK ops.toList o.guard E' go skip) :
    (Region.wanted o (yielded ops a.tmps) = true ∧ go) ∨ (Region.wanted o (yielded ops a.tmps) = false ∧ skip) := by
  have : ∃ E' : Env, (∀ j w d, o.guard = some (j, w) → dstOf ops.toList[j]? = some d → get E' d = get E0 d) ∧ ∀ t, VR w (XL X σ ι) ι (a.tmps.getD t undef) (get E' t) := by
    cases hg : o.guard with
    | none => exact ⟨[], fun j w d h => (nomatch h), fun t => .un _⟩
    | some p =>
      obtain ⟨j, want⟩ := p
      cases hd : dstOf ops.toList[j]? with
      | none => exact ⟨[], fun j' w d h h' => (by cases h; rw [hd] at h'; cases h'), fun t => .un _⟩
      | some d =>
        refine ⟨[(d, E d)], fun j' w d' h h' => ?_, fun t => ?_⟩
        · cases h
          rw [hd] at h'
          cases h'
          show (bif Nat.beq d d then E d else .un) = _
          rw [Nat.beq_refl, cond_true]
          exact hE j want d hg hd
        · show VR _ _ _ _ (bif Nat.beq d t then E d else .un)
          cases hb : Nat.beq d t with
          | true => rw [cond_true, ← Nat.eq_of_beq_eq_true hb]; exact hs d
          | false => exact .un _
  obtain ⟨E', h1, h2⟩ := this
  exact guard_spec (h E' h1) h2 rfl
theorem foot_us {ol : List Oper} {i : Nat} {o : Oper} {rd : List Nat} {u : Upd} {l : List Foot} {t : Nat} (h : t ∈ tmpsOf o.op) : t ∈ (footOf ol i o rd u l).us := by
  unfold footOf
  simp only
  split
  · split
    · exact List.mem_cons_of_mem _ h
    · exact h
  · exact h
theorem foot_gd {ol : List Oper} {i : Nat} {o : Oper} {rd : List Nat} {u : Upd} {l : List Foot} {j d : Nat} {w : Bool} (h : o.guard = some (j, w)) (h' : dstOf ol[j]? = some d) : d ∈ (footOf ol i o rd u l).us := by
  unfold footOf
  simp only [h, h']
  exact List.mem_cons_self ..
theorem opsD_trace (hT : TOk cx) (hd : ∀ o ∈ ops.toList, ∀ t, o.dst = some t → t < B.N) {K : Env → Sto → List Foot → Prop} {E0 : Nat → AV} {σ0 : Nat → SV} :
    ∀ (l : List Oper) (E : Env) (σ : Sto) (T0 : List Rec), l = ops.toList.drop T0.length → WF cx B ops E0 σ0 T0 → get E = allE T0 E0 → sget σ = allS T0 σ0 → opsD cx ops.toList K l T0.length E σ ((T0.map (·.f)).reverse) →
      ∃ T, T.length = T0.length + l.length ∧ WF cx B ops E0 σ0 T ∧ ∃ E' σ', K E' σ' ((T.map (·.f)).reverse) ∧ get E' = allE T E0 ∧ sget σ' = allS T σ0
  | [], E, σ, T0, _, hw, hE, hS, h => ⟨T0, rfl, hw, E, σ, h, hE, hS⟩
  | o :: l, E, σ, T0, hl, hw, hE, hS, h => by
    have hoi : ops.toList[T0.length]? = some o := by
      have : (ops.toList.drop T0.length)[0]? = some o := by rw [← hl]; rfl
      simpa using this
    have hl' : l = ops.toList.drop (T0.length + 1) := by
      have : (ops.toList.drop T0.length).drop 1 = l := by rw [← hl]; rfl
      rw [← this, List.drop_drop]
    have hoi' : ops[T0.length]? = some o := by simpa using hoi
    have hdo := hd o (List.mem_of_getElem? hoi)
    have h' : guardK ops.toList o.guard E (opV cx (64 * o.dst.getD 0) o.op (o.op.operands.toList.map (ev (get E))) (sget σ) fun v u rd => Ab.put ops.toList T0.length o.dst E v fun E' => opsD cx ops.toList K l (T0.length + 1) E' (upS u σ) (footOf ops.toList T0.length o rd u ((T0.map (·.f)).reverse) :: (T0.map (·.f)).reverse))
      (opsD cx ops.toList K l (T0.length + 1) (upE o.dst (.tup []) E) σ (footOf ops.toList T0.length o [] [] ((T0.map (·.f)).reverse) :: (T0.map (·.f)).reverse)) := h
    have next : ∀ (r : Rec) (E' : Env) (σ' : Sto), r.f.i = T0.length → r.f.wr = r.u.map (·.1) → r.f.anc = ancOf ((T0.map (·.f)).reverse) o → Stp cx B ops T0.length r (allE T0 E0) (allS T0 σ0) → get E' = uE r (get E) → sget σ' = uS r (sget σ) →
        opsD cx ops.toList K l (T0.length + 1) E' σ' (r.f :: (T0.map (·.f)).reverse) → ∃ T, T.length = T0.length + (l.length + 1) ∧ WF cx B ops E0 σ0 T ∧ ∃ E' σ', K E' σ' ((T.map (·.f)).reverse) ∧ get E' = allE T E0 ∧ sget σ' = allS T σ0 := by
      intro r E' σ' h1 h2 h3 h4 h5 h6 h7
      have hlen : (T0 ++ [r]).length = T0.length + 1 := by simp
      obtain ⟨T, q1, q2, q3⟩ := opsD_trace hT hd l E' σ' (T0 ++ [r]) (by rw [hlen]; exact hl') (hw.snoc h1 h2 ⟨o, hoi', h3⟩ h4)
        (by rw [h5, hE]; unfold allE; rw [List.foldl_append]; rfl) (by rw [h6, hS]; unfold allS; rw [List.foldl_append]; rfl) (by rw [hlen, List.map_append, List.reverse_append]; exact h7)
      exact ⟨T, by rw [q1, hlen]; omega, q2, q3⟩
    rcases guard_lo h' with ⟨hg, hgo⟩ | ⟨hg, hgo⟩
    · obtain ⟨v, u, rd, hk, hlo⟩ := opV_lo o.op _ hg
      refine next ⟨footOf ops.toList T0.length o rd u ((T0.map (·.f)).reverse), nm (memN T0.length (gset ops.toList)) v, u⟩ (upE o.dst (nm (memN T0.length (gset ops.toList)) v) E) (upS u σ) rfl rfl rfl (fun Ef σf hus hrd hwr a w Q K' hI hK' => ?_) (get_upE ..) (sget_upS ..) (put_spec hk)
      obtain ⟨ι, hR⟩ := hI
      have hus' : ∀ t ∈ (footOf ops.toList T0.length o rd u ((T0.map (·.f)).reverse)).us, Ef t = get E t := fun t ht => by rw [hE]; exact hus t ht
      have hv : o.op.operands.toList.map (ev Ef) = o.op.operands.toList.map (ev (get E)) := vals_eq fun t ht => hus' t (foot_us ht)
      unfold wpOp
      simp only [hoi']
      rcases guard_at (go := True) (skip := False) hR.sim.env (fun j w d h h' => hus' d (foot_gd h h')) hgo with ⟨hwt, _⟩ | ⟨_, hf⟩
      · rw [if_pos hwt]
        refine .inl ?_
        have hop : opV cx (64 * o.dst.getD 0) o.op (o.op.operands.toList.map (ev Ef)) σf (fun v' u' _ => v' = v ∧ u' = u) := by
          rw [hv]
          exact hlo σf (fun k hk => by rw [hS]; exact hrd k hk) (fun k hk => by rw [hS]; exact hwr k hk) _ ⟨rfl, rfl⟩
        have hops : ∀ x, VR w (XL B.X σf ι) ι (a.eval x) (ev Ef x) := hR.sim.ops
        obtain ⟨v', u', rd', ⟨e1, e2⟩, hrun⟩ := opV_sound (a := a) (w := w) hT hR.sim.sr hops hop
        subst e1 e2
        refine hrun _ _ fun cv w' ι' he hs hvr ha => ?_
        exact hK' _ _ (I.put hR hdo he hs (nm_VR _ hvr) ha)
      · exact hf.elim
    · refine next ⟨footOf ops.toList T0.length o [] [] ((T0.map (·.f)).reverse), .tup [], []⟩ (upE o.dst (.tup []) E) σ rfl rfl rfl (fun Ef σf hus hrd hwr a w Q K' hI hK' => ?_) (get_upE ..) rfl hg
      obtain ⟨ι, hR⟩ := hI
      have hus' : ∀ t ∈ (footOf ops.toList T0.length o [] [] ((T0.map (·.f)).reverse)).us, Ef t = get E t := fun t ht => by rw [hE]; exact hus t ht
      unfold wpOp
      simp only [hoi']
      rcases guard_at (go := False) (skip := True) hR.sim.env (fun j w d h h' => hus' d (foot_gd h h')) hgo with ⟨_, hf⟩ | ⟨hwt, _⟩
      · exact hf.elim
      · rw [if_neg (by rw [hwt]; simp)]
        exact hK' _ _ (I.put hR hdo (Ext.refl _) hR.sim.sr skip_VR (Adv.refl _ _))
end
end Go.Ab
namespace Go.Ab
structure Ap (f g : Foot) : Prop where
  dst : ∀ d, f.dst = some d → g.dst ≠ some d
  du : ∀ d, f.dst = some d → d ∉ g.us
  ud : ∀ d, g.dst = some d → d ∉ f.us
  ww : ∀ k ∈ f.wr, k ∉ g.wr
  wr : ∀ k ∈ f.wr, k ∉ g.rd
  rw : ∀ k ∈ g.wr, k ∉ f.rd
theorem Ap.symm {f g : Foot} (h : Ap f g) : Ap g f := ⟨fun d h1 h2 => h.dst d h2 h1, h.ud, h.du, fun k h1 h2 => h.ww k h2 h1, h.rw, h.wr⟩
theorem not_memN {k : Nat} {l : List Nat} (h : (!memN k l) = true) : k ∉ l := fun h' => by rw [memN_iff.2 h'] at h; cases h
theorem disj_spec {a b : List Nat} (h : disj a b = true) : ∀ k ∈ a, k ∉ b := fun k hk => not_memN (List.all_eq_true.1 h k hk)
theorem apart_ap {f g : Foot} (h : apart f g = true) : Ap f g := by
  unfold apart at h
  simp only [Bool.and_eq_true] at h
  obtain ⟨⟨⟨⟨h1, h2⟩, h3⟩, h4⟩, h5⟩ := h
  refine ⟨fun d hd => ?_, fun d hd => ?_, fun d hd => ?_, disj_spec h3, disj_spec h4, fun k hk hk' => disj_spec h5 k hk' hk⟩
  · simp only [hd, Bool.and_eq_true] at h1
    intro he
    have := h1.2
    simp only [he, Nat.beq_refl] at this
    cases this
  · simp only [hd, Bool.and_eq_true] at h1
    exact not_memN h1.1
  · simp only [hd] at h2
    exact not_memN h2
theorem chk_spec : ∀ (l : List Foot), chk l = true → (∀ f ∈ l, ∀ k ∈ f.anc, k < f.i) ∧ l.Pairwise fun f g => g.i ∈ f.anc ∨ Ap f g
  | [], _ => ⟨fun _ h => (nomatch h), .nil⟩
  | f :: r, h => by
    unfold chk at h
    simp only [Bool.and_eq_true] at h
    obtain ⟨⟨h1, h2⟩, h3⟩ := h
    obtain ⟨g1, g2⟩ := chk_spec r h3
    refine ⟨fun x hx k hk => ?_, .cons (fun x hx => ?_) g2⟩
    · rcases List.mem_cons.1 hx with rfl | hx
      · have := List.all_eq_true.1 h1 k hk
        simp only [Nat.blt] at this
        exact Nat.le_of_ble_eq_true this
      · exact g1 x hx k hk
    · have := List.all_eq_true.1 h2 x hx
      rcases Bool.or_eq_true_iff.1 this with h | h
      · exact .inl (memN_iff.1 h)
      · exact .inr (apart_ap h)
section
variable {cx : Cx} {B : Bs} {ops : Array Oper} {E0 : Nat → AV} {σ0 : Nat → SV} {T : List Rec}
theorem chk_at (hw : WF cx B ops E0 σ0 T) (hc : chk ((T.map (·.f)).reverse) = true) :
    (∀ (j : Nat) (r : Rec), T[j]? = some r → ∀ k ∈ r.f.anc, k < j) ∧ ∀ (i j : Nat) (ri rj : Rec), T[i]? = some ri → T[j]? = some rj → j < i → j ∈ ri.f.anc ∨ Ap ri.f rj.f := by
  obtain ⟨h1, h2⟩ := chk_spec _ hc
  refine ⟨fun j r hj k hk => ?_, fun i j ri rj hi hj hij => ?_⟩
  · have := h1 r.f (List.mem_reverse.2 (List.mem_map.2 ⟨r, List.mem_of_getElem? hj, rfl⟩)) k hk
    rwa [hw.idx j r hj] at this
  · rw [List.pairwise_reverse, List.pairwise_map, List.pairwise_iff_getElem] at h2
    obtain ⟨li, ei⟩ := List.getElem?_eq_some_iff.1 hi
    obtain ⟨lj, ej⟩ := List.getElem?_eq_some_iff.1 hj
    have := h2 j i lj li hij
    rw [ei, ej, hw.idx j rj hj] at this
    exact this
def Cl (T : List Rec) (L : Nat → Bool) : Prop := ∀ (j : Nat) (r : Rec), T[j]? = some r → L j = true → ∀ k ∈ r.f.anc, L k = true
def subE (T : List Rec) (L : Nat → Bool) (E : Nat → AV) : Nat → AV := (T.filter fun r => L r.f.i).foldl (fun s r => uE r s) E
def subS (T : List Rec) (L : Nat → Bool) (σ : Nat → SV) : Nat → SV := (T.filter fun r => L r.f.i).foldl (fun s r => uS r s) σ
theorem filter_take (f : Rec → Nat) : ∀ (T : List Rec) (b i : Nat), (∀ (j : Nat) (r : Rec), T[j]? = some r → f r = b + j) → T.filter (fun r => decide (f r < b + i)) = T.take i
  | [], _, _, _ => by simp
  | r :: T, b, i, h => by
    have h0 : f r = b := h 0 r rfl
    have ht : ∀ (j : Nat) (x : Rec), T[j]? = some x → f x = (b + 1) + j := fun j x hx => by rw [h (j + 1) x (by simpa using hx)]; omega
    cases i with
    | zero =>
      rw [List.take_zero, List.filter_eq_nil_iff]
      intro x hx
      obtain ⟨j, hj⟩ := List.mem_iff_getElem?.1 hx
      rw [h j x hj]
      simp
    | succ i =>
      have := filter_take f T (b + 1) i ht
      rw [List.take_succ_cons, List.filter_cons_of_pos (by simp [h0]), ← this]
      congr 1
      refine List.filter_congr fun x _ => ?_
      congr 2
      omega
theorem step_any (hw : WF cx B ops E0 σ0 T) (hc : chk ((T.map (·.f)).reverse) = true) {L L' : Nat → Bool} {i : Nat} {r : Rec} (hi : T[i]? = some r) (hL : Cl T L) (hLi : L i = false) (ha : ∀ k ∈ r.f.anc, L k = true) (hL' : ∀ j, L' j = if j = i then true else L j) :
    (∀ t ∈ r.f.us, subE T L E0 t = allE (T.take i) E0 t) ∧ (∀ k ∈ r.f.rd, subS T L σ0 k = allS (T.take i) σ0 k) ∧ (∀ k ∈ r.f.wr, subS T L σ0 k = allS (T.take i) σ0 k) ∧
      subE T L' E0 = uE r (subE T L E0) ∧ subS T L' σ0 = uS r (subS T L σ0) := by
  obtain ⟨hc1, hc2⟩ := chk_at hw hc
  have ht : T.take i = T.filter fun x => decide (x.f.i < i) := by
    have := filter_take (fun x => x.f.i) T 0 i (fun j x hx => by rw [hw.idx j x hx]; omega)
    rw [← this]
    refine List.filter_congr fun x _ => ?_
    congr 2
    omega
  have dich : ∀ x ∈ T, Ap r.f x.f ∨ (L x.f.i = decide (x.f.i < i)) := by
    intro x hx
    obtain ⟨j, hj⟩ := List.mem_iff_getElem?.1 hx
    rw [hw.idx j x hj]
    rcases Nat.lt_trichotomy j i with h | h | h
    · rcases hc2 i j r x hi hj h with h' | h'
      · exact .inr (by rw [ha j h']; simp [h])
      · exact .inl h'
    · subst h
      exact .inr (by rw [hLi]; simp)
    · rcases hc2 j i x r hj hi h with h' | h'
      · cases hl : L j with
        | false => exact .inr (by simp; omega)
        | true => rw [hL j x hj hl i h'] at hLi; cases hLi
      · exact .inl h'.symm
  have hsplit : T = T.take i ++ r :: T.drop (i + 1) := by
    obtain ⟨li, ei⟩ := List.getElem?_eq_some_iff.1 hi
    rw [← ei, List.getElem_cons_drop, List.take_append_drop]
  have hne : ∀ x ∈ T.take i ++ T.drop (i + 1), L' x.f.i = L x.f.i := by
    intro x hx
    have : x.f.i ≠ i := by
      rcases List.mem_append.1 hx with hx | hx
      · obtain ⟨j, hj⟩ := List.mem_iff_getElem?.1 hx
        rw [List.getElem?_take] at hj
        split at hj
        · rw [hw.idx j x hj]; omega
        · cases hj
      · obtain ⟨j, hj⟩ := List.mem_iff_getElem?.1 hx
        rw [List.getElem?_drop] at hj
        rw [hw.idx _ x hj]; omega
    rw [hL', if_neg this]
  have hri : r.f.i = i := hw.idx i r hi
  have hlate : ∀ x ∈ T.drop (i + 1), L x.f.i = true → Ap r.f x.f := by
    intro x hx hl
    obtain ⟨j, hj⟩ := List.mem_iff_getElem?.1 hx
    rw [List.getElem?_drop] at hj
    rw [hw.idx _ x hj] at hl
    rcases hc2 _ i x r hj hi (by omega) with h' | h'
    · rw [hL _ x hj hl i h'] at hLi; cases hLi
    · exact h'.symm
  have hmr : r ∈ T := List.mem_of_getElem? hi
  have hmx : ∀ x ∈ T.drop (i + 1), x ∈ T := fun x hx => List.mem_of_mem_drop hx
  refine ⟨fun t htu => ?_, fun k hk => ?_, fun k hk => ?_, ?_, ?_⟩
  · unfold allE; rw [ht]
    exact fold_agree uE_no uE_cg T _ _ rfl fun x hx hwx => (dich x hx).resolve_left fun h => h.ud t hwx htu
  · unfold allS; rw [ht]
    exact fold_agree uS_no uS_cg T _ _ rfl fun x hx hwx => (dich x hx).resolve_left fun h => h.rw k (by rw [hw.wr x hx]; exact hwx) hk
  · unfold allS; rw [ht]
    exact fold_agree uS_no uS_cg T _ _ rfl fun x hx hwx => (dich x hx).resolve_left fun h => h.ww k hk (by rw [hw.wr x hx]; exact hwx)
  · unfold subE
    have := fold_add (W := wE) (up := uE) uE_no uE_cg (p := fun x => L x.f.i) (p' := fun x => L' x.f.i) (T.take i) r (T.drop (i + 1)) E0 hne (by rw [hri]; exact hLi) (by rw [hri, hL', if_pos rfl]) (fun x hx hl k h1 h2 => (hlate x hx hl).dst k h1 h2)
    rw [← hsplit] at this
    exact this
  · unfold subS
    have := fold_add (W := wS) (up := uS) uS_no uS_cg (p := fun x => L x.f.i) (p' := fun x => L' x.f.i) (T.take i) r (T.drop (i + 1)) σ0 hne (by rw [hri]; exact hLi) (by rw [hri, hL', if_pos rfl])
      (fun x hx hl k h1 h2 => (hlate x hx hl).ww k (by rw [hw.wr r hmr]; exact h1) (by rw [hw.wr x (hmx x hx)]; exact h2))
    rw [← hsplit] at this
    exact this
theorem mem_dd {k : Nat} : ∀ {l : List Nat}, k ∈ dd l ↔ k ∈ l
  | [] => Iff.rfl
  | a :: l => by
    show k ∈ (bif memN a (dd l) then dd l else a :: dd l) ↔ _
    rw [List.mem_cons, ← mem_dd (l := l)]
    cases hm : memN a (dd l) with
    | false => rw [cond_false, List.mem_cons]
    | true =>
      rw [cond_true]
      exact ⟨.inr, fun h => h.elim (fun e => e ▸ memN_iff.1 hm) id⟩
theorem anc_after {l : List Foot} {o : Oper} {k : Nat} (h : k ∈ ancOf l o) : ∃ e ∈ o.after, Region.binds .any e = true ∧ (k = e.on ∨ ∃ f ∈ l, f.i = e.on ∧ k ∈ f.anc) := by
  unfold ancOf at h
  rw [mem_dd] at h
  obtain ⟨e, he, hk⟩ := List.mem_flatMap.1 h
  refine ⟨e, by simpa using he, ?_⟩
  cases hb : Region.binds .any e with
  | false => rw [hb] at hk; cases hk
  | true =>
    rw [hb, cond_true] at hk
    refine ⟨rfl, (List.mem_cons.1 hk).imp id fun hk => ?_⟩
    split at hk
    · rename_i f hf
      exact ⟨f, List.mem_of_find?_eq_some hf, Nat.eq_of_beq_eq_true (List.find?_some (p := fun f : Foot => Nat.beq f.i e.on) hf), hk⟩
    · cases hk
theorem after_anc {l : List Foot} {o : Oper} {e : Edge} (he : e ∈ o.after) (hb : Region.binds .any e = true) : e.on ∈ ancOf l o := by
  unfold ancOf
  rw [mem_dd]
  refine List.mem_flatMap.2 ⟨e, by simpa using he, ?_⟩
  rw [hb, cond_true]
  exact List.mem_cons_self ..
end
end Go.Ab
namespace Go.Ab
section
variable {cx : Cx} {B : Bs} {ops : Array Oper} {E0 : Nat → AV} {σ0 : Nat → SV} {T : List Rec} {Q : Exit → Act → World → Prop}
theorem all_listed (hw : WF cx B ops E0 σ0 T) (hl : T.length = ops.size) (hc : chk ((T.map (·.f)).reverse) = true) {listed : Array Bool} (hs : listed.size = ops.size) (hr : Region.ready .any ops listed = []) : ∀ j, j < ops.size → listed.getD j false = true := by
  intro j
  induction j using Nat.strongRecOn with
  | ind j ih =>
    intro hj
    cases hL : listed.getD j false with
    | true => rfl
    | false =>
      obtain ⟨o, ho, hanc⟩ := hw.anc j T[j] (by simp [hl, hj])
      have hlt := (chk_at hw hc).1 j T[j] (by simp [hl, hj])
      have hL' : listed.getD j true = false := by
        rw [Array.getD_eq_getD_getElem?] at hL ⊢
        have : listed[j]? = some listed[j] := by simp [hs, hj]
        rw [this] at hL ⊢
        exact hL
      have hm : j ∈ Region.ready .any ops listed := mem_ready.2 ⟨hL', o, ho, fun e he hb => by
        have h1 : e.on ∈ T[j].f.anc := by rw [hanc]; exact after_anc he hb
        have h2 := hlt _ h1
        exact ih _ h2 (by omega)⟩
      rw [hr] at hm
      cases hm
theorem sub_all (hw : WF cx B ops E0 σ0 T) (hl : T.length = ops.size) {L : Nat → Bool} (hL : ∀ j, j < ops.size → L j = true) : T.filter (fun r => L r.f.i) = T := by
  refine List.filter_eq_self.2 fun r hr => ?_
  obtain ⟨j, hj⟩ := List.mem_iff_getElem?.1 hr
  rw [hw.idx j r hj]
  exact hL j (by rw [← hl]; exact (List.getElem?_eq_some_iff.1 hj).1)
theorem ready_none {listed : Array Bool} (hs : listed.size = ops.size) (h : ∀ j, j < ops.size → listed.getD j false = true) : Region.ready .any ops listed = [] := by
  refine List.eq_nil_iff_forall_not_mem.2 fun j hj => ?_
  obtain ⟨h1, o, ho, _⟩ := mem_ready.1 hj
  have hj : j < ops.size := (Array.getElem?_eq_some_iff.1 ho).1
  have := h j hj
  rw [Array.getD_eq_getD_getElem?] at h1 this
  have e : listed[j]? = some listed[j] := by simp [hs, hj]
  rw [e] at h1 this
  have h1 : listed[j] = false := h1
  have this : listed[j] = true := this
  rw [this] at h1
  cases h1
theorem wpAny_of (hw : WF cx B ops E0 σ0 T) (hl : T.length = ops.size) (hc : chk ((T.map (·.f)).reverse) = true) (hQ : ∀ a w, I B (allE T E0) (allS T σ0) a w → Q .normal a w) :
    ∀ (fuel : Nat) (listed : Array Bool) (rest : List Nat) (a : Act) (w : World), listed.size = ops.size → Cl T (fun j => listed.getD j false) → (∀ j, j < ops.size → listed.getD j false = false → j ∈ rest) → rest.length ≤ fuel →
      I B (subE T (fun j => listed.getD j false) E0) (subS T (fun j => listed.getD j false) σ0) a w → wpAny cx.P .any ops Q fuel listed a w
  | 0, listed, rest, a, w, hs, _, hr, hlen, hI => by
    have hall : ∀ j, j < ops.size → listed.getD j false = true := fun j hj => by
      cases h : listed.getD j false with
      | true => rfl
      | false =>
        have := hr j hj h
        have e : rest = [] := List.eq_nil_of_length_eq_zero (by omega)
        rw [e] at this
        cases this
    refine ⟨ready_none hs hall, hQ a w ?_⟩
    unfold subE subS at hI
    rw [sub_all hw hl hall] at hI
    exact hI
  | fuel + 1, listed, rest, a, w, hs, hcl, hr, hlen, hI => by
    refine ⟨fun hn => hQ a w ?_, fun i hi => ?_⟩
    · unfold subE subS at hI
      rw [sub_all hw hl (all_listed hw hl hc hs hn)] at hI
      exact hI
    · obtain ⟨h1, o, ho, haf⟩ := mem_ready.1 hi
      have hii : i < ops.size := (Array.getElem?_eq_some_iff.1 ho).1
      have hLi : listed.getD i false = false := by
        rw [Array.getD_eq_getD_getElem?] at h1 ⊢
        have e : listed[i]? = some listed[i] := by simp [hs, hii]
        rw [e] at h1 ⊢
        exact h1
      have hTi : T[i]? = some (T[i]'(by omega)) := by simp [hl, hii]
      have hset : ∀ j, (listed.setIfInBounds i true).getD j false = if j = i then true else listed.getD j false := fun j => by
        rw [Array.getD_eq_getD_getElem?, Array.getD_eq_getD_getElem?]
        by_cases e : j = i
        · subst e; simp [hs, hii]
        · rw [if_neg e, Array.getElem?_setIfInBounds_ne (fun h => e h.symm)]
      obtain ⟨o', ho', hanc⟩ := hw.anc i _ hTi
      rw [ho] at ho'
      cases ho'
      have hancL : ∀ k ∈ (T[i]'(by omega)).f.anc, listed.getD k false = true := fun k hk => by
        rw [hanc] at hk
        obtain ⟨e, he, hb, hk⟩ := anc_after hk
        have hon := haf e he hb
        rcases hk with rfl | ⟨f, hf, hfi, hkf⟩
        · exact hon
        · obtain ⟨x, hx, rfl⟩ := List.mem_map.1 (List.mem_reverse.1 hf)
          obtain ⟨j, hj⟩ := List.mem_iff_getElem?.1 (List.mem_of_mem_take hx)
          have hji : j = e.on := by rw [← hw.idx j x hj]; exact hfi
          exact hcl j x hj (by rw [hji]; exact hon) k hkf
      obtain ⟨g1, g2, g3, g4, g5⟩ := step_any hw hc hTi hcl hLi hancL hset
      refine hw.stp i _ hTi _ _ g1 g2 g3 a w Q _ hI fun a' w' hI' => ?_
      refine wpAny_of hw hl hc hQ fuel (listed.setIfInBounds i true) (rest.erase i) a' w' (by simp [hs]) (fun j r hj hL k hk => ?_) (fun j hj hL => ?_) ?_ (by rw [g4, g5]; exact hI')
      · have hL : (listed.setIfInBounds i true).getD j false = true := hL
        show (listed.setIfInBounds i true).getD k false = true
        rw [hset] at hL ⊢
        by_cases e : k = i
        · rw [if_pos e]
        · rw [if_neg e]
          by_cases e' : j = i
          · subst e'
            rw [hTi] at hj
            cases hj
            exact hancL k hk
          · rw [if_neg e'] at hL
            exact hcl j r hj hL k hk
      · rw [hset] at hL
        by_cases e : j = i
        · rw [if_pos e] at hL; cases hL
        · rw [if_neg e] at hL
          exact (List.mem_erase_of_ne e).2 (hr j hj hL)
      · rw [List.length_erase_of_mem (hr i hii hLi)]
        omega
theorem opsD_sound (hT : TOk cx) (hd : ∀ o ∈ ops.toList, ∀ t, o.dst = some t → t < B.N) {K : Env → Sto → Prop} (hK : ∀ E σ a w, K E σ → I B (get E) (sget σ) a w → Q .normal a w) {E : Env} {σ : Sto} {a : Act} {w : World} (hI : I B (get E) (sget σ) a w)
    (h : opsD cx ops.toList (fun E σ l => chk l = true ∧ K E σ) ops.toList 0 E σ []) : wpAny cx.P .any ops Q ops.size (Array.replicate ops.size false) a w := by
  obtain ⟨T, h1, h2, E', σ', ⟨h3, h4⟩, h5, h6⟩ := opsD_trace (B := B) (E0 := get E) (σ0 := sget σ) hT hd ops.toList E σ [] rfl ⟨fun j r h => by simp at h, fun r h => (nomatch h), fun j r h => by simp at h, fun j r h => by simp at h⟩ rfl rfl h
  have hl : T.length = ops.size := by simpa using h1
  have hf : (T.filter fun r => (Array.replicate ops.size false).getD r.f.i false) = [] := List.filter_eq_nil_iff.2 fun r _ => by
    rw [Array.getD_eq_getD_getElem?, Array.getElem?_replicate]
    split <;> simp
  refine wpAny_of h2 hl h3 (fun a w hI => hK E' σ' a w h4 (by rw [h5, h6]; exact hI)) ops.size _ (List.range ops.size) a w (by simp) (fun j r hj hL k hk => ?_) (fun j hj _ => List.mem_range.2 hj) (by simp) ?_
  · have hL : (Array.replicate ops.size false).getD j false = true := hL
    rw [Array.getD_eq_getD_getElem?, Array.getElem?_replicate] at hL
    split at hL <;> simp at hL
  · unfold subE subS
    rw [hf]
    exact hI
theorem I_drawn {E : Nat → AV} {σ : Nat → SV} {a : Act} {w w' : World} (hh : w'.heap = w.heap) (h1 : w'.os = w.os) (h2 : w'.tape = w.tape) (h3 : w'.output = w.output) (h4 : w.drawn ≤ w'.drawn) (h : I B E σ a w) : I B E σ a w' := by
  obtain ⟨ι, hR⟩ := h
  have ha : Adv (Lv σ ι) w (Lv σ ι) w' := ⟨h1, h2, h3, by rw [hh]; exact Nat.le_refl _, fun b _ hb => ⟨by rw [hh], hb⟩, fun b vs ty fr h => ⟨vs, by rw [hh]; exact h, rfl⟩, h4⟩
  have hs := hR.sim.sr
  exact ⟨ι, ⟨fun t => (hR.sim.env t).step ha (Ext.refl _), ⟨fun k b hk => (hs.blk k b hk).step ha (Ext.refl _) (fun c o s _ => by rw [hh]), hs.inj, fun b hb => by rw [hh]; exact hs.out b hb, hs.free⟩, hR.sim.size, hR.sim.defers⟩, hR.adv.trans ha, hR.pin⟩
end
end Go.Ab
namespace Go.Ab
def exOf : Ex → Exit
  | .norm => .normal
  | .exit i => .exit i
  | .ret => .ret
theorem StLe.of {pins : List Nat} {p q : Env × Sto} (h : p = q) : StLe pins p q := by
  subst h
  exact ⟨fun w X ι vs h1 h2 => ⟨ι, h1, h2, fun _ h => h, fun _ _ => rfl⟩⟩
theorem StLe.trans {pins : List Nat} {p q r : Env × Sto} (h : StLe pins p q) (h' : StLe pins q r) : StLe pins p r := ⟨fun w X ι vs h1 h2 => by
  obtain ⟨ι1, a1, a2, a3, a4⟩ := h.to w X ι vs h1 h2
  obtain ⟨ι2, b1, b2, b3, b4⟩ := h'.to w X ι1 vs a1 a2
  exact ⟨ι2, b1, b2, fun b hb => a3 b (b3 b hb), fun k hk => (b4 k hk).trans (a4 k hk)⟩⟩
theorem StLe.I {B : Bs} {p q : Env × Sto} (h : StLe B.pins p q) {a : Act} {w : World} (hI : I B (get p.1) (sget p.2) a w) : I B (get q.1) (sget q.2) a w := by
  obtain ⟨ι, hs, ha, hp⟩ := hI
  obtain ⟨ι', h1, h2, h3, h4⟩ := h.to w B.X ι _ hs.sr hs.env
  exact ⟨ι', ⟨h2, h1, hs.size, hs.defers⟩, ha.trans (Adv.less h3 w), fun k hk => ⟨(h4 k hk).trans (hp k hk).1, (hp k hk).2⟩⟩
noncomputable def codeB (n : Nat) (c : Code) : Bool :=
  Code.rec (motive := fun _ => Bool) true (fun _ ops _ => ops.toList.all fun o => match o.dst with | some d => Nat.blt d n | none => true) (fun _ _ a b => a && b) (fun _ _ _ a b => a && b) (fun _ _ b => b) (fun _ b => b)
    (fun _ _ _ _ _ _ => true) (fun _ => true) (fun _ _ => true) (fun _ => true) (fun _ => true) true (fun _ => true) c
section
variable {cx : Cx} {B : Bs}
theorem codeW_sound (hT : TOk cx) (hm : cx.P.follows .mixedOrders = true) {n : Nat} (hn : n ≤ B.N) : ∀ (c : Code), codeB n c = true → ∀ (E : Env) (σ : Sto) (Q : Ex → Env → Sto → Prop) (a : Act) (w : World) (R : Exit → Act → World → Prop),
    I B (get E) (sget σ) a w → codeW cx B.pins c E σ Q → (∀ e E σ a w, Q e E σ → I B (get E) (sget σ) a w → R (exOf e) a w) → c.wp cx.P R a w := by
  intro c
  induction c with
  | skip => intro _ E σ Q a w R hI h hR; exact wp_skip (hR .norm E σ a w h hI)
  | region id ops d =>
    intro hb E σ Q a w R hI h hR
    have hd : ∀ o ∈ ops.toList, ∀ t, o.dst = some t → t < B.N := fun o ho t ht => by
      have := List.all_eq_true.1 (show ops.toList.all _ = true from hb) o ho
      rw [ht] at this
      exact Nat.lt_of_lt_of_le (Nat.le_of_ble_eq_true this) hn
    have h : preW cx B.pins id E σ fun E σ => bif d then opsD cx ops.toList (fun E σ l => chk l = true ∧ Q .norm E σ) ops.toList 0 E σ [] else opsW cx ops.toList (Q .norm) ops.toList 0 E σ := h
    obtain ⟨E, σ, h, hI⟩ : ∃ E σ, (bif d then opsD cx ops.toList (fun E σ l => chk l = true ∧ Q .norm E σ) ops.toList 0 E σ [] else opsW cx ops.toList (Q .norm) ops.toList 0 E σ) ∧ I B (get E) (sget σ) a w := by
      unfold preW at h
      cases hbr : cx.br (1000 + id) with
      | false => rw [hbr] at h; exact ⟨E, σ, h, hI⟩
      | true =>
        rw [hbr] at h
        obtain ⟨S, p, h⟩ := h
        obtain ⟨E1, σ1, ⟨h1, h2⟩, hI1⟩ := canon_sound h hI
        exact ⟨p.1, p.2, h2, StLe.I (p := (E1, σ1)) h1 hI1⟩
    cases d with
    | true => exact wp_region_any hm (opsD_sound hT hd (K := Q .norm) (fun E σ a w hq hI => hR .norm E σ a w hq hI) (I_drawn (w := w) rfl rfl rfl rfl (Nat.le_add_right _ _) hI) h)
    | false =>
      refine wp_region ?_
      have := opsW_sound (Q := R) hT hd (fun E σ a w hq hI => hR .norm E σ a w hq hI) ops.toList 0 E σ a w rfl hI h
      rw [List.range_eq_range', ← Array.length_toList]
      exact this
  | seq x y ihx ihy =>
    intro hb E σ Q a w R hI h hR
    have hb : (codeB n x && codeB n y) = true := hb
    rw [Bool.and_eq_true] at hb
    refine wp_seq (ihx hb.1 E σ _ a w _ hI h fun e E σ a w hq hI => ?_)
    cases e with
    | norm => exact ihy hb.2 E σ Q a w R hI hq hR
    | exit i => exact hR (.exit i) E σ a w hq hI
    | ret => exact hR .ret E σ a w hq hI
  | cond c x y ihx ihy =>
    intro hb E σ Q a w R hI h hR
    have hb : (codeB n x && codeB n y) = true := hb
    rw [Bool.and_eq_true] at hb
    have h : condK (ev (get E) c) (codeW cx B.pins x E σ Q) (codeW cx B.pins y E σ Q) := h
    obtain ⟨ι, hRun⟩ := id hI
    have hc := hRun.sim.ops c
    cases hv : ev (get E) c with
    | lit t =>
      rw [hv] at h hc
      refine wp_cond hc.lit_inv ?_
      cases t with
      | true => exact ihx hb.1 E σ Q a w R hI h hR
      | false => exact ihy hb.2 E σ Q a w R hI h hR
    | bool t =>
      rw [hv] at h hc
      refine wp_cond hc.bool_inv ?_
      cases t with
      | true => exact ihx hb.1 E σ Q a w R hI (h.1 rfl) hR
      | false => exact ihy hb.2 E σ Q a w R hI (h.2 rfl) hR
    | _ => rw [hv] at h; exact h.elim
  | block id x ih =>
    intro hb E σ Q a w R hI h hR
    refine wp_block (ih hb E σ _ a w _ hI h fun e E σ a w hq hI => ?_)
    cases e with
    | norm => exact hR .norm E σ a w hq hI
    | exit i =>
      show (if i = id then R .normal a w else R (.exit i) a w)
      have hq : bif Nat.beq i id then Q .norm E σ else Q (.exit i) E σ := hq
      by_cases e : i = id
      · subst e
        rw [Nat.beq_refl] at hq
        rw [if_pos rfl]
        exact hR .norm E σ a w hq hI
      · rw [if_neg e]
        have : Nat.beq i id = false := by rw [Bool.eq_false_iff]; intro e'; exact e (Nat.eq_of_beq_eq_true e')
        rw [this] at hq
        exact hR (.exit i) E σ a w hq hI
    | ret => exact hR .ret E σ a w hq hI
  | loop x ih =>
    intro hb E σ Q a w R hI h hR
    rcases (show (∃ S n, canon B.pins S E σ fun E σ => iter B.pins (codeW cx B.pins x) S n E σ Q) ∨ loopW B.pins (codeW cx B.pins x) E σ Q ∨ loopJ B.pins (codeW cx B.pins x) E σ Q from h) with ⟨S, n', h⟩ | ⟨S, α, f, inv, meas, h, hstep⟩ | ⟨S, α, f, inv, meas, S', β, g, jnv, h, hstep, hout⟩
    · obtain ⟨E1, σ1, h1, hI1⟩ := canon_sound h hI
      clear h hI
      refine wp_loop_rounds n' ?_
      induction n' generalizing E1 σ1 a w with
      | zero => exact (show False from h1).elim
      | succ n' ih' =>
        have h : codeW cx B.pins x E1 σ1 fun e E' σ' => e.on E' σ' (fun E' σ' => canon B.pins S E' σ' fun E' σ' => iter B.pins (codeW cx B.pins x) S n' E' σ' Q) Q := h1
        refine ih hb E1 σ1 _ a w _ hI1 h fun e E σ a w hq hI => ?_
        cases e with
        | norm =>
          obtain ⟨E, σ, h, hI⟩ := canon_sound hq hI
          exact ih' _ _ _ _ h hI
        | exit i => exact hR (.exit i) E σ a w hq hI
        | ret => exact hR .ret E σ a w hq hI
    · obtain ⟨E1, σ1, ⟨y, h1, h2⟩, hI1⟩ := canon_sound h hI
      have hI1 := StLe.I (p := (E1, σ1)) h1 hI1
      have key : ∀ (n' : Nat) (y : α) (a : Act) (w : World), inv y → meas y < n' → I B (get (f y).1) (sget (f y).2) a w → Code.rounds cx.P x R n' a w := by
        intro n'
        induction n' with
        | zero => intro y a w _ h; exact absurd h (Nat.not_lt_zero _)
        | succ n' ih' =>
          intro y a w hy hlt hI
          refine ih hb _ _ _ a w _ hI (hstep y hy) fun e E σ a w hq hI => ?_
          cases e with
          | norm =>
            obtain ⟨E2, σ2, ⟨z, g1, g2, g3⟩, hI2⟩ := canon_sound hq hI
            have hI2 := StLe.I (p := (E2, σ2)) g1 hI2
            exact ih' z a w g2 (by omega) hI2
          | exit i => exact hR (.exit i) E σ a w hq hI
          | ret => exact hR .ret E σ a w hq hI
      exact wp_loop_rounds (meas y + 1) (key _ y a w h2 (Nat.lt_succ_self _) hI1)
    · obtain ⟨E1, σ1, ⟨y, h1, h2⟩, hI1⟩ := canon_sound h hI
      have hI1 := StLe.I (p := (E1, σ1)) h1 hI1
      have key : ∀ (n' : Nat) (y : α) (a : Act) (w : World), inv y → meas y < n' → I B (get (f y).1) (sget (f y).2) a w → Code.rounds cx.P x R n' a w := by
        intro n'
        induction n' with
        | zero => intro y a w _ h; exact absurd h (Nat.not_lt_zero _)
        | succ n' ih' =>
          intro y a w hy hlt hI
          refine ih hb _ _ _ a w _ hI (hstep y hy) fun e E σ a w hq hI => ?_
          cases e with
          | norm =>
            obtain ⟨E2, σ2, ⟨z, g1, g2, g3⟩, hI2⟩ := canon_sound hq hI
            have hI2 := StLe.I (p := (E2, σ2)) g1 hI2
            exact ih' z a w g2 (by omega) hI2
          | exit i =>
            obtain ⟨E2, σ2, ⟨z, g1, g2⟩, hI2⟩ := canon_sound hq hI
            have hI2 := StLe.I (p := (E2, σ2)) g1 hI2
            exact hR (.exit i) _ _ a w (hout i z g2) hI2
          | ret => exact hR .ret E σ a w hq hI
      exact wp_loop_rounds (meas y + 1) (key _ y a w h2 (Nat.lt_succ_self _) hI1)
  | rangeFunc f ps x y => intro _ E σ Q a w R hI h hR; exact (show False from h).elim
  | exit id => intro _ E σ Q a w R hI h hR; exact wp_exit (hR (.exit id) E σ a w h hI)
  | scope x => intro _ E σ Q a w R hI h hR; exact (show False from h).elim
  | label l => intro _ E σ Q a w R hI h hR; exact (show False from h).elim
  | goto l => intro _ E σ Q a w R hI h hR; exact (show False from h).elim
  | ret => intro _ E σ Q a w R hI h hR; exact wp_ret (hR .ret E σ a w h hI)
  | refuse why => intro _ E σ Q a w R hI h hR; exact (show False from h).elim
end
end Go.Ab
namespace Go.Ab
section
variable {cx : Cx} {B : Bs} {a : Act} {w : World}
theorem sget_none : ∀ {σ : Sto} {k : Nat}, k ∉ σ.map (·.1) → sget σ k = .free
  | [], _, _ => rfl
  | (k', v) :: r, k, h => by
    show (bif Nat.beq k' k then v else sget r k) = _
    cases hb : Nat.beq k' k with
    | true => exact absurd (by rw [Nat.eq_of_beq_eq_true hb]; exact List.mem_cons_self ..) h
    | false => exact sget_none fun h' => h (List.mem_cons_of_mem _ h')
theorem VRs.anti {X X' : Nat → Prop} {ι : Nat → LS} {us : List Value} {xs : List AV} (h : VRs w X ι us xs) (hX : ∀ b, X' b → X b) : VRs w X' ι us xs := ⟨h.1, fun j v x a b => (h.2 j v x a b).anti hX⟩
def oneC (us : List Value) : Value := match us with | [v] => v | _ => .tuple us.toArray
theorem oneOf_match {vs : List AV} {Q : AV → Prop} (h : match vs with | [v] => Q v | _ => Q (.tup vs)) : Q (oneOf vs) := by
  match vs, h with
  | [], h => exact h
  | [v], h => exact h
  | a :: b :: r, h => exact h
theorem get_envOf : ∀ (args : List AV) (i t : Nat), get (envOf args i) t = if i ≤ t then args.getD (t - i) .un else .un
  | [], i, t => by
    show AV.un = _
    split <;> simp
  | x :: r, i, t => by
    unfold envOf
    show (bif Nat.beq i t then x else get (envOf r (i + 1)) t) = _
    by_cases e : i = t
    · subst e; simp
    · have : Nat.beq i t = false := by rw [Bool.eq_false_iff]; intro e'; exact e (Nat.eq_of_beq_eq_true e')
      rw [this, cond_false, get_envOf r (i + 1) t]
      by_cases h : i ≤ t
      · rw [if_pos h, if_pos (by omega)]
        have : t - i = (t - (i + 1)) + 1 := by omega
        rw [this]
        try rfl
      · rw [if_neg h, if_neg (by omega)]
theorem outK_sound {n : Nat} {r : AV} {cv : Value} {σ : Sto} {K : AV → Sto → Prop} {X L0 : Nat → Prop} {w0 : World} {pins : List Nat} {ιi ι : Nat → LS} (h : outK pins n r σ K) (hs : SR w X ι (sget σ)) (hv : VR w (XL X (sget σ) ι) ι cv r) (ha : Adv L0 w0 (Lv (sget σ) ι) w) (hp : ∀ k ∈ pins, ι k = ιi k ∧ ιi k ≠ .free) :
    ∃ r' σ' ι', K r' σ' ∧ SR w X ι' (sget σ') ∧ VR w (XL X (sget σ') ι') ι' cv r' ∧ Adv L0 w0 (Lv (sget σ') ι') w ∧ ∀ k ∈ pins, ι' k = ιi k := by
  unfold outK at h
  obtain ⟨m0, h⟩ := addP_ex _ _ _ _ h
  obtain ⟨m, h⟩ := addV_ex _ _ _ _ _ _ _ h
  simp only [bK_iff, rn2K_iff, rnStoK_iff] at h
  obtain ⟨hok, h⟩ := h
  obtain ⟨hn1, hn2, hnf, hpin⟩ := mOk_fact hok
  have hsub : ∀ b, Lv (sget (rnSto m (sget σ) m)) (fwd m ι) b → Lv (sget σ) ι b := fun b hb => by
    obtain ⟨k, κ, blk, o, s, _, h1, h2⟩ := Lv_fwd hb
    exact ⟨k, blk, o, s, h1, h2⟩
  have hX : ∀ b, XL X (sget (rnSto m (sget σ) m)) (fwd m ι) b → XL X (sget σ) ι b := fun b hb => hb.elim .inl (fun h => .inr (hsub b h))
  refine ⟨_, _, fwd m ι, h, hs.rename hn2 hn1 (fun b h => .inl h) (fun b h h' => (hs.out b h).2 (hsub b h')), rn2_VR (fwd_ok hn2) (hv.anti hX), ha.trans (Adv.less hsub w), fun k hk => ?_⟩
  obtain ⟨e1, _⟩ := hp k hk
  unfold fwd
  rw [lookR_of hn2 (hpin k hk)]
  exact e1
def resF (tmps : Array Value) : ResultVar → Sem Value
  | .tmp t => pure (tmps.getD t undef)
  | .cell a t => do loadVar t (← asAddr (tmps.getD a undef))
theorem results_eq {fn : Func} {tmps : Array Value} {P : Program} {us : List Value} (h : (fn.results.toList.mapM (resF tmps)).run P w = .ok us w) : (results fn tmps).run P w = .ok (oneC us) w := by
  have e : results fn tmps = (fn.results.mapM (resF tmps)) >>= fun vs => pure (if h : vs.size = 1 then vs[0] else .tuple vs) := by
    unfold results
    congr 1
  have h2 : (fn.results.mapM (resF tmps)).run P w = .ok us.toArray w := by
    have : fn.results.mapM (resF tmps) = List.toArray <$> fn.results.toList.mapM (resF tmps) := by
      rw [Array.mapM_eq_mapM_toList]
    rw [this]
    simp [h]
  rw [e]
  simp only [Sem.run_bind, h2]
  match us with
  | [] => rfl
  | [v] => rfl
  | a :: b :: r =>
    have : ¬ (a :: b :: r).toArray.size = 1 := by simp
    simp [oneC]
theorem resW_sound (hT : TOk cx) {X : Nat → Prop} {ι : Nat → LS} {σ : Nat → SV} {N : Nat} {E : Env} (hS : Sim N X (get E) σ ι a w) {r : ResultVar} {K : AV → Prop} (h : resW cx r E σ K) :
    ∃ v cv, K v ∧ (resF a.tmps r).run cx.P w = .ok cv w ∧ VR w (XL X σ ι) ι cv v := by
  cases r with
  | tmp t =>
    have h : fo (get E t) K := h
    rw [fo_iff] at h
    exact ⟨_, _, h, rfl, hS.env t⟩
  | cell ad t =>
    have hx := hS.env ad
    have h : (match get E ad with
      | .bptr k o => boxK σ k fun cs => finW (cx.T t) cs o K
      | _ => False) := h
    cases hv : get E ad with
    | bptr k o =>
      simp only [hv, boxK_iff] at h
      obtain ⟨cs, hk, h⟩ := h
      rw [hv] at hx
      obtain ⟨b, c, s, h1, h2⟩ := hx.bptr_inv
      obtain ⟨rfl, vs, ty, h3, h4, h5⟩ := hS.sr.box hk h1
      obtain ⟨v, cv, hK, hr, hvr⟩ := finW_load (w := w) (X := X) (ι := ι) (σ := σ) hT h (b := b) (q := 0) (fun j y hy => by
        have hj : j < vs.size := by rw [h4]; exact (List.getElem?_eq_some_iff.1 hy).1
        exact ⟨vs[j], by rw [cell_of_heap h3]; simp [hj], (h5 j _ _ (by simp [hj]) hy).2⟩)
      refine ⟨v, cv, hK, ?_, hvr⟩
      rw [Nat.zero_add] at hr h2
      unfold resF
      simp [h2, asAddr, hr]
    | _ => simp only [hv] at h
theorem ressW_sound (hT : TOk cx) {X : Nat → Prop} {ι : Nat → LS} {σ : Nat → SV} {N : Nat} {E : Env} (hS : Sim N X (get E) σ ι a w) : ∀ (l : List ResultVar) {K : List AV → Prop}, ressW cx E σ l K →
    ∃ vs us, K vs ∧ (l.mapM (resF a.tmps)).run cx.P w = .ok us w ∧ VRs w (XL X σ ι) ι us vs
  | [], K, h => ⟨[], [], h, by simp, rfl, fun j u x h _ => by simp at h⟩
  | r :: l, K, h => by
    have h : resW cx r E σ fun v => ressW cx E σ l fun vs => K (v :: vs) := h
    obtain ⟨v, cv, h, hr, hv⟩ := resW_sound hT hS h
    obtain ⟨vs, us, h, hrs, hvs⟩ := ressW_sound hT hS l h
    refine ⟨_, cv :: us, h, by simp [List.mapM_cons, hr, hrs], by simp [hvs.1], fun j u x hu hx => ?_⟩
    cases j with
    | zero => simp at hu hx; subst hu hx; exact hv
    | succ j => exact hvs.2 j u x (by simpa using hu) (by simpa using hx)
theorem one_VR {X : Nat → Prop} {ι : Nat → LS} {vs : List AV} {us : List Value} (h : VRs w X ι us vs) : VR w X ι (oneC us) (oneOf vs) := by
  obtain ⟨hl, hg⟩ := h
  match us, vs, hl with
  | [], [], _ => exact .tup _ _ (by simp) fun j u x h _ => by simp at h
  | [u], [v], _ => exact hg 0 u v rfl rfl
  | a :: b :: r, c :: d :: q, hl => exact .tup _ _ (by simpa using hl) fun j u x hu hx => hg j u x (by simpa using hu) hx
noncomputable def funcB (fn : Func) : Bool := match fn.body with
  | some c => codeB fn.ntmps c
  | none => false
theorem funcW_sound (hT : TOk cx) (hm : cx.P.follows .mixedOrders = true) {f : Nat} {fn : Func} (hf : cx.P.funcs[f]? = some fn) (hB : funcB fn = true) {args : List AV} {σ : Sto} {Q : AV → Sto → Prop} (h : funcW cx fn args σ Q) {X : Nat → Prop} {ι : Nat → LS} {vs : Array Value}
    (hs : SR w X ι (sget σ)) (hv : VRs w (XL X (sget σ) ι) ι vs.toList args) (hp : ∀ k ∈ σ.map (·.1), ι k ≠ .free) :
    Calls cx.P f vs w fun e w' => ∃ v r σ1 ι1, e = .returned v ∧ Q r σ1 ∧ SR w' X ι1 (sget σ1) ∧ VR w' (XL X (sget σ1) ι1) ι1 v r ∧ Adv (Lv (sget σ) ι) w (Lv (sget σ1) ι1) w' ∧ ∀ k ∈ σ.map (·.1), ι1 k = ι k ∧ ι k ≠ .free := by
  unfold funcW at h
  unfold funcB at hB
  cases hb : fn.body with
  | none => rw [hb] at h; exact h.elim
  | some c =>
    rw [hb] at h hB
    refine calls_of_wp hf hb ?_
    let B : Bs := ⟨vs.size + (fn.ntmps - vs.size), X, Lv (sget σ) ι, w, σ.map (·.1), ι⟩
    have hlen : vs.size = args.length := by simpa using hv.1
    have hI : I B (get (envOf args 0)) (sget σ) { tmps := vs ++ Array.replicate (fn.ntmps - vs.size) undef, defers := [] } w := by
      refine ⟨ι, ⟨fun t => ?_, hs, by simp [B], rfl⟩, Adv.refl _ _, fun k hk => ⟨rfl, hp k hk⟩⟩
      rw [get_envOf, if_pos (Nat.zero_le _), Nat.sub_zero]
      by_cases ht : t < args.length
      · have e1 : args.getD t .un = args[t] := by simp [List.getD_eq_getElem?_getD, ht]
        have ht' : t < vs.size := by omega
        have e2 : (vs ++ Array.replicate (fn.ntmps - vs.size) undef).getD t undef = vs[t] := by
          rw [Array.getD_eq_getD_getElem?, Array.getElem?_append_left ht']
          simp [ht']
        rw [e1]
        show VR w _ ι ((vs ++ Array.replicate (fn.ntmps - vs.size) undef).getD t undef) _
        rw [e2]
        exact hv.2 t _ _ (by simp [ht']) (by simp [ht])
      · have e1 : args.getD t .un = .un := by simp [List.getD_eq_getElem?_getD]; rw [List.getElem?_eq_none (by omega)]; rfl
        rw [e1]
        exact .un _
    have fin : ∀ (E : Env) (σ1 : Sto) (a : Act) (w' : World), (ressW cx E (sget σ1) fn.results.toList fun vs => match vs with | [v] => Q v σ1 | _ => Q (.tup vs) σ1) → I B (get E) (sget σ1) a w' →
        a.defers = [] ∧ ∃ v, (results fn a.tmps).run cx.P w' = .ok v w' ∧ ∃ v' r σ1 ι1, Ending.returned v = .returned v' ∧ Q r σ1 ∧ SR w' X ι1 (sget σ1) ∧ VR w' (XL X (sget σ1) ι1) ι1 v' r ∧ Adv (Lv (sget σ) ι) w (Lv (sget σ1) ι1) w' ∧ ∀ k ∈ σ.map (·.1), ι1 k = ι k ∧ ι k ≠ .free := by
      intro E σ1 a w' h ⟨ι1, hR⟩
      obtain ⟨rs, us, hq, hrun, hvr⟩ := ressW_sound hT hR.sim _ h
      refine ⟨hR.sim.defers, _, results_eq hrun, _, oneOf rs, σ1, ι1, rfl, oneOf_match (Q := fun v => Q v σ1) hq, hR.sim.sr, one_VR hvr, hR.adv, hR.pin⟩
    refine codeW_sound (B := B) hT hm (n := fn.ntmps) (by show fn.ntmps ≤ vs.size + (fn.ntmps - vs.size); omega) c hB (envOf args 0) σ _ _ w _ hI h fun e E σ1 a w' hq hI => ?_
    cases e with
    | norm => exact fin E σ1 a w' hq hI
    | exit i => exact hq.elim
    | ret => exact fin E σ1 a w' hq hI
theorem funcA_sound (hT : TOk cx) (hm : cx.P.follows .mixedOrders = true) {f : Nat} {fn : Func} (hf : cx.P.funcs[f]? = some fn) (hB : funcB fn = true) (hE : Ent cx.P f) {args : List AV} {σ σ' : Sto} {r : AV} (hσ : (σ.all fun p => !isFree (sget σ p.1)) = true)
    (h : funcA cx fn args σ r σ') : ACall cx.P f args σ r σ' := by
  refine ⟨hE, fun w X ι vs hs hv => ?_⟩
  have hp : ∀ k ∈ σ.map (·.1), ι k ≠ .free := fun k hk e => by
    obtain ⟨p, hp, rfl⟩ := List.mem_map.1 hk
    have := List.all_eq_true.1 hσ p hp
    rw [(hs.free p.1).2 e] at this
    cases this
  refine Calls.mono (funcW_sound hT hm hf hB h hs hv hp) fun e w' ⟨v, r1, σ1, ι1, e1, hq, h1, h2, h3, h4⟩ => ?_
  obtain ⟨r2, σ2, ι2, hle, g1, g2, g3, g4⟩ := outK_sound hq h1 h2 h3 h4
  obtain ⟨ι3, q1, q2, q3, q4⟩ := hle.to w' X ι2 (fun _ => v) g1 (fun t => by
    show VR w' _ ι2 v (bif Nat.beq 0 t then r2 else .un)
    cases Nat.beq 0 t
    · exact .un _
    · exact g2)
  have q2 : VR w' (XL X (sget σ') ι3) ι3 v r := q2 0
  refine ⟨v, ι3, e1, fun k hk => ?_, q1, q2, g3.trans (Adv.less q3 w')⟩
  have : k ∈ σ.map (·.1) := by
    by_cases hm : k ∈ σ.map (·.1)
    · exact hm
    · exact absurd ((hs.free k).1 (sget_none hm)) hk
  exact (q4 k this).trans (g4 k this)
theorem funcP_sound (hT : TOk cx) (hm : cx.P.follows .mixedOrders = true) {f : Nat} {fn : Func} (hf : cx.P.funcs[f]? = some fn) (hB : funcB fn = true) (hE : Ent cx.P f) {args : List AV} {r : AV} (h : funcP cx fn args r) : PCall cx.P f args r := by
  refine ⟨hE, fun w X vs hX hv => ?_⟩
  have hno : ∀ b, ¬ Lv (sget []) ι0 b := by rintro b ⟨k, blk, o, s, h1, _⟩; cases h1
  have hs : SR w X ι0 (sget []) := ⟨fun k b h => (by cases h), fun k k' b b' c o s o' s' h => (by cases h), fun b hb => ⟨hX b hb, hno b⟩, fun k => ⟨fun _ => rfl, fun _ => rfl⟩⟩
  have hXL : ∀ b, XL X (sget []) ι0 b → X b := fun b h => h.elim id fun h => absurd h (hno b)
  refine Calls.mono (funcW_sound hT hm hf hB h hs (hv.anti hXL) (fun k hk => by cases hk)) fun e w' ⟨v, r1, σ1, ι1, e1, hq, h1, h2, h3, _⟩ => ?_
  have hadv : Adv no w no w' := ⟨h3.os, h3.tape, h3.output, h3.size, fun b hb _ => ⟨(h3.block b hb (hno b)).1, fun h => h⟩, h3.kind, h3.drawn⟩
  refine ⟨v, e1, ?_, hadv⟩
  unfold vwR at hq
  split at hq
  · rename_i xs
    obtain ⟨us, rfl, hl, hg⟩ := h2.tup_inv
    obtain ⟨l', ks, hle, _, g2⟩ := vwAs_sound h1 (us := us.toList) (l := xs) ⟨by simpa using hl, fun j v x a b => hg j v x (by simpa using a) b⟩ hq
    obtain ⟨g3, g4⟩ := g2 ks (fun _ h => h) ι0
    exact hle.to _ _ _ _ ((VR.tup _ _ (by simpa using g3) fun j u x hu hx => g4 j u x (by simpa using hu) hx).anti fun b hb => .inl hb)
  · obtain ⟨y, ks, hle, _, g2⟩ := vwA_sound h1 h2 hq
    exact hle.to _ _ _ _ ((g2 ks (fun _ h => h) ι0).anti fun b hb => .inl hb)
theorem Ent.of {P : Program} {f : Nat} {fn : Func} {c : Code} (hf : P.funcs[f]? = some fn) (hb : fn.body = some c) (hn : fn.name ≠ "runtime.NumGoroutine") : Ent P f := fun args w => by
  simp [callFunc, hf, hb, hn]
end
end Go.Ab
namespace Go.Ab
theorem Le.refl {x : AV} : Le x x := ⟨fun _ _ _ _ h => h⟩
theorem Le.of {x y : AV} (h : x = y) : Le x y := h ▸ Le.refl
theorem Le.trans {x y z : AV} (h : Le x y) (h' : Le y z) : Le x z := ⟨fun w X ι v hv => h'.to w X ι v (h.to w X ι v hv)⟩
theorem Le.lit {b c : Bool} (h : b = c) : Le (.lit b) (.bool c) := ⟨fun _ _ _ v hv => by subst h; rw [hv.lit_inv]; exact .pure _ _ (.bool b)⟩
theorem Le.bool {b c : Bool} (h : b = c) : Le (.bool b) (.bool c) := .of (by rw [h])
theorem Le.blit {b c : Bool} (h : b = c) : Le (.bool b) (.lit c) := ⟨fun _ _ _ v hv => by subst h; rw [hv.bool_inv]; exact .pure _ _ (.lit b)⟩
theorem Le.int {k : IntKind} {b c : Int} (h : b = c) : Le (.int k b) (.int k c) := .of (by rw [h])
theorem Le.nils {s : Nat} : Le .nils (.row s []) := ⟨fun _ _ _ v hv => by rw [hv.nils_inv]; exact .pure _ _ (.row0 none 0 s)⟩
theorem Le.emp {s : Nat} : Le .emp (.row s []) := ⟨fun _ _ _ v hv => by obtain ⟨a, e⟩ := hv.emp_inv; rw [e]; exact .pure _ _ (.row0 a 0 s)⟩
theorem Le.pure {x y : AV} (h : LeP x y) (hx : ∀ w X ι v, VR w X ι v x → PR w X v x) : Le x y := ⟨fun w X ι v hv => .pure _ _ (h w X v (hx w X ι v hv))⟩
theorem Le.agg {xs ys : List AV} (hl : xs.length = ys.length) (h : ∀ (j : Nat) (x y : AV), xs[j]? = some x → ys[j]? = some y → Le x y) : Le (.agg xs) (.agg ys) := ⟨fun w X ι v hv => by
  obtain ⟨us, rfl, hu, hg⟩ := hv.agg_inv
  refine .agg _ _ (hu.trans hl) fun j u y h1 h2 => ?_
  have hj : j < xs.length := by rw [hl]; exact (List.getElem?_eq_some_iff.1 h2).1
  exact (h j xs[j] y (by simp [hj]) h2).to _ _ _ _ (hg j u _ h1 (by simp [hj]))⟩
theorem Le.tup {xs ys : List AV} (hl : xs.length = ys.length) (h : ∀ (j : Nat) (x y : AV), xs[j]? = some x → ys[j]? = some y → Le x y) : Le (.tup xs) (.tup ys) := ⟨fun w X ι v hv => by
  obtain ⟨us, rfl, hu, hg⟩ := hv.tup_inv
  refine .tup _ _ (hu.trans hl) fun j u y h1 h2 => ?_
  have hj : j < xs.length := by rw [hl]; exact (List.getElem?_eq_some_iff.1 h2).1
  exact (h j xs[j] y (by simp [hj]) h2).to _ _ _ _ (hg j u _ h1 (by simp [hj]))⟩
theorem Le.agg2 {x y x' y' : AV} (h : Le x x') (h' : Le y y') : Le (.agg [x, y]) (.agg [x', y']) := Le.agg (by simp) fun j a b h1 h2 => by
  match j with
  | 0 => cases h1; cases h2; exact h
  | 1 => cases h1; cases h2; exact h'
  | j + 2 => simp at h1
theorem PCall.to {P : Program} {f : Nat} {args : List AV} {r r' : AV} (h : PCall P f args r) (hr : Le r r') : PCall P f args r' := ⟨h.1, fun w X vs hX hv => Calls.mono (h.2 w X vs hX hv) fun e w' ⟨v, e1, e2, e3⟩ => ⟨v, e1, hr.to _ _ _ _ e2, e3⟩⟩
theorem PCall.by {P : Program} {f : Nat} {args args' : List AV} {r : AV} (h : PCall P f args' r) (hl : args.length = args'.length) (ha : ∀ (j : Nat) (x y : AV), args[j]? = some x → args'[j]? = some y → Le x y) : PCall P f args r := ⟨h.1, fun w X vs hX hv => h.2 w X vs hX ⟨hv.1.trans hl, fun j u y h1 h2 => by
  have hj : j < args.length := by rw [hl]; exact (List.getElem?_eq_some_iff.1 h2).1
  exact (ha j args[j] y (by simp [hj]) h2).to _ _ _ _ (hv.2 j u _ h1 (by simp [hj]))⟩⟩
end Go.Ab
namespace Go.Ab
def frz (σ : Nat → SV) (k : Nat) (m : List (Nat × Nat)) (v : AV) : AV := match v with
  | .own s k' i n q => bif Nat.beq k' k then (match σ k with
    | .live (.arr s' es) => bif Nat.beq s s' then (match q with
      | .room _ => .row s ((es.drop i).take n)
      | _ => .row s (es.drop i)) else .un
    | _ => .un) else rn2 m (.own s k' i n q)
  | v => rn2 m v
def frzC (σ : Nat → SV) (k : Nat) (v : AV) : Prop := match v with
  | .own _ k' i n q => bif Nat.beq k' k then (match σ k with
    | .live (.arr _ es) => (match q with
      | .room _ => i + n ≤ es.length
      | _ => i + n = es.length)
    | _ => True) else True
  | _ => True
def frzCs (σ : Nat → SV) (k : Nat) : List AV → Prop
  | [] => True
  | v :: r => frzC σ k v ∧ frzCs σ k r
def frzOk (k : Nat) (p : Env × Sto) : Prop := frzCs (sget p.2) k (p.1.map (·.2)) ∧ frzCs (sget p.2) k (p.2.flatMap fun x => match x.2 with | .live (.box cs) => cs | _ => [])
theorem frzCs_mem {σ : Nat → SV} {k : Nat} : ∀ {l : List AV}, frzCs σ k l → ∀ v ∈ l, frzC σ k v
  | v :: r, h, x, hx => (List.mem_cons.1 hx).elim (fun e => e ▸ h.1) (frzCs_mem h.2 x)
def idm (k : Nat) (σ : Sto) : List (Nat × Nat) := (σ.filter fun p => !Nat.beq p.1 k).map fun p => (p.1, p.1)
def frzV (f : AV → AV) : SV → SV
  | .live (.box cs) => .live (.box (cs.map f))
  | v => v
def frzSt (k : Nat) (p : Env × Sto) : Env × Sto := (p.1.map fun x => (x.1, frz (sget p.2) k (idm k p.2) x.2), (idm k p.2).map fun x => (x.1, frzV (frz (sget p.2) k (idm k p.2)) (sget p.2 x.1)))
theorem frzV_live {f : AV → AV} {v : SV} {b : Blk} (h : frzV f v = .live b) : ∃ b0, v = .live b0 ∧ ((∃ cs, b0 = .box cs ∧ b = .box (cs.map f)) ∨ (∃ s es, b0 = .arr s es ∧ b = .arr s es)) := by
  unfold frzV at h
  split at h
  · rename_i cs
    cases h
    exact ⟨_, rfl, .inl ⟨cs, rfl, rfl⟩⟩
  · rename_i hne
    subst h
    cases b with
    | box cs => exact absurd rfl (hne cs)
    | arr s es => exact ⟨_, rfl, .inr ⟨s, es, rfl, rfl⟩⟩
theorem frzV_free {f : AV → AV} {v : SV} : frzV f v = .free ↔ v = .free := by
  unfold frzV
  split <;> simp
theorem sget_map {g : Nat → SV} : ∀ (m : List (Nat × Nat)) (k : Nat), sget (m.map fun x => (x.1, g x.1)) k = if k ∈ m.map (·.1) then g k else .free
  | [], k => by simp [sget]
  | (k', κ) :: m, k => by
    show (bif Nat.beq k' k then g k' else sget (m.map fun x => (x.1, g x.1)) k) = _
    by_cases e : k' = k
    · subst e; simp
    · have hb : Nat.beq k' k = false := by rw [Bool.eq_false_iff]; intro e'; exact e (Nat.eq_of_beq_eq_true e')
      rw [hb, cond_false, sget_map m k]
      have : (k ∈ ((k', κ) :: m).map (·.1)) = (k ∈ m.map (·.1)) := by
        simp only [List.map_cons, List.mem_cons, eq_iff_iff]
        exact ⟨fun h => h.elim (fun h => absurd h.symm e) id, .inr⟩
      simp only [this]
theorem get_map {f : AV → AV} (hf : f .un = .un) : ∀ (E : Env) (t : Nat), get (E.map fun x => (x.1, f x.2)) t = f (get E t)
  | [], _ => hf.symm
  | (t', v) :: E, t => by
    show (bif Nat.beq t' t then f v else get (E.map fun x => (x.1, f x.2)) t) = f (bif Nat.beq t' t then v else get E t)
    rw [get_map hf E t]
    cases Nat.beq t' t <;> rfl
theorem idm_ne {k : Nat} {σ : Sto} {p : Nat × Nat} (h : p ∈ idm k σ) : p.1 ≠ k := fun e => by
  obtain ⟨x, hx, rfl⟩ := List.mem_map.1 h
  have := (List.mem_filter.1 hx).2
  have e : x.1 = k := e
  rw [e, Nat.beq_refl] at this
  cases this
theorem get_mem : ∀ (E : Env) (t : Nat), get E t = .un ∨ get E t ∈ E.map (·.2)
  | [], _ => .inl rfl
  | (k, v) :: E, t => by
    show (bif Nat.beq k t then v else get E t) = .un ∨ (bif Nat.beq k t then v else get E t) ∈ _
    cases Nat.beq k t
    · exact (get_mem E t).imp id (List.mem_cons_of_mem _)
    · exact .inr (List.mem_cons_self ..)
theorem sget_in : ∀ {σ : Sto} {k : Nat} {b : Blk}, sget σ k = .live b → (k, SV.live b) ∈ σ
  | (k', v) :: σ, k, b, h => by
    have h : (bif Nat.beq k' k then v else sget σ k) = .live b := h
    cases hb : Nat.beq k' k with
    | true => rw [hb] at h; rw [Nat.eq_of_beq_eq_true hb] at *; cases h; exact List.mem_cons_self ..
    | false => rw [hb] at h; exact List.mem_cons_of_mem _ (sget_in h)
theorem idm_mem {k k1 κ : Nat} {σ : Sto} (h : (k1, κ) ∈ idm k σ) : κ = k1 := by
  obtain ⟨x, _, e⟩ := List.mem_map.1 h
  cases e; rfl
def idI (k : Nat) (σ : Sto) (ι : Nat → LS) : Nat → LS := fun k1 => if k1 ∈ (idm k σ).map (·.1) then ι k1 else .free
theorem StLe.frz {pins : List Nat} {p : Env × Sto} (k : Nat) (hok : mOk (sget p.2) pins (idm k p.2) = true) (hc : frzOk k p) : StLe pins p (frzSt k p) := ⟨fun w X ι vs hs hv => by
  obtain ⟨hn1, hn2, hnf, hpin⟩ := mOk_fact hok
  have hsg : ∀ k1, sget (frzSt k p).2 k1 = if k1 ∈ (idm k p.2).map (·.1) then frzV (Ab.frz (sget p.2) k (idm k p.2)) (sget p.2 k1) else .free := fun k1 => sget_map (g := fun k1 => frzV (Ab.frz (sget p.2) k (idm k p.2)) (sget p.2 k1)) _ k1
  have hlive : ∀ k1 b, sget (frzSt k p).2 k1 = .live b → k1 ∈ (idm k p.2).map (·.1) ∧ frzV (Ab.frz (sget p.2) k (idm k p.2)) (sget p.2 k1) = .live b := fun k1 b h => by
    rw [hsg] at h
    split at h
    · exact ⟨by assumption, h⟩
    · cases h
  have hsub : ∀ b, Lv (sget (frzSt k p).2) (idI k p.2 ι) b → Lv (kl [k] (sget p.2)) ι b := fun b ⟨k1, blk, o, s, h1, h2⟩ => by
    obtain ⟨g1, g2⟩ := hlive k1 blk h1
    obtain ⟨b0, e0, _⟩ := frzV_live g2
    obtain ⟨x, hx, ex⟩ := List.mem_map.1 g1
    unfold idI at h2
    rw [if_pos g1] at h2
    refine ⟨k1, b0, o, s, ?_, h2⟩
    unfold kl
    rw [if_neg (by simp; rw [← ex]; exact idm_ne hx)]
    exact e0
  have hsub' : ∀ b, Lv (sget (frzSt k p).2) (idI k p.2 ι) b → Lv (sget p.2) ι b := fun b hb => by
    obtain ⟨k1, blk, o, s, h1, h2⟩ := hsub b hb
    exact ⟨k1, blk, o, s, (kl_live h1).1, h2⟩
  have hX : ∀ b, XL X (sget (frzSt k p).2) (idI k p.2 ι) b → XL X (sget p.2) ι b := fun b hb => hb.elim .inl (fun h => .inr (hsub' b h))
  have hX2 : ∀ b, XL X (sget (frzSt k p).2) (idI k p.2 ι) b → XL X (kl [k] (sget p.2)) ι b := fun b hb => hb.elim .inl (fun h => .inr (hsub b h))
  have hlook : ∀ k1 κ, look (idm k p.2) k1 = some κ → ι k1 ≠ .free → idI k p.2 ι κ = ι k1 := fun k1 κ h _ => by
    have hm := look_mem h
    have := idm_mem hm
    subst this
    unfold idI
    rw [if_pos (List.mem_map.2 ⟨_, hm, rfl⟩)]
  have hfrz : ∀ cv x, frzC (sget p.2) k x → VR w (XL X (sget p.2) ι) ι cv x → VR w (XL X (sget (frzSt k p).2) (idI k p.2 ι)) (idI k p.2 ι) cv (Ab.frz (sget p.2) k (idm k p.2) x) := fun cv x hC ht => by
    have other : VR w (XL X (sget (frzSt k p).2) (idI k p.2 ι)) (idI k p.2 ι) cv (rn2 (idm k p.2) x) := rn2_VR hlook (ht.anti hX)
    cases x with
    | own s k' i n q =>
      unfold Ab.frz
      simp only
      cases hb : Nat.beq k' k with
      | false => exact other
      | true =>
        have ek := Nat.eq_of_beq_eq_true hb
        subst ek
        simp only [cond_true]
        cases hk : sget p.2 k' with
        | free => exact .un _
        | dead => exact .un _
        | live blk =>
          cases blk with
          | box cs => exact .un _
          | arr s' es =>
            simp only
            cases hss : Nat.beq s s' with
            | false => exact .un _
            | true =>
              simp only [cond_true]
              have fin : ∀ y, vw (sget p.2) (.own s k' i n q) (fun y' ks => y' = y ∧ ks = [k']) → VR w (XL X (sget (frzSt k' p).2) (idI k' p.2 ι)) (idI k' p.2 ι) cv y := fun y h => by
                obtain ⟨y', ks, ⟨rfl, rfl⟩, _, _, h4⟩ := vw_sound hs ht h
                exact (VR.pure _ _ (h4 [k'] (fun _ h => h))).anti hX2
              cases q with
              | room r =>
                simp only [frzC, Nat.beq_refl, cond_true, hk] at hC
                refine fin _ ?_
                simp only [vw, arrK_iff, bK_iff]
                exact ⟨s', es, hk, hss, hC, rfl, trivial⟩
              | full =>
                simp only [frzC, Nat.beq_refl, cond_true, hk] at hC
                refine fin _ ?_
                simp only [vw, arrK_iff, bK_iff]
                exact ⟨s', es, hk, hss, hC, rfl, trivial⟩
              | opn =>
                simp only [frzC, Nat.beq_refl, cond_true, hk] at hC
                refine fin _ ?_
                simp only [vw, arrK_iff, bK_iff]
                exact ⟨s', es, hk, hss, hC, rfl, trivial⟩
    | _ => exact other
  have hget : ∀ t, frzC (sget p.2) k (get p.1 t) := fun t => by
    rcases get_mem p.1 t with h | h
    · rw [h]; trivial
    · exact frzCs_mem hc.1 _ h
  have hid : ∀ k1, k1 ∈ (idm k p.2).map (·.1) → idI k p.2 ι k1 = ι k1 := fun k1 h => by unfold idI; rw [if_pos h]
  refine ⟨idI k p.2 ι, ⟨fun k1 b h => ?_, fun k1 k2 b1 b2 c o s o' s' h1 h2 h3 h4 => ?_, fun b hb => ⟨(hs.out b hb).1, fun h => (hs.out b hb).2 (hsub' b h)⟩, fun k1 => ?_⟩, fun t => ?_, hsub', fun k' hk => ?_⟩
  · obtain ⟨g1, g2⟩ := hlive k1 b h
    rw [hid k1 g1]
    obtain ⟨b0, e0, ⟨cs, rfl, rfl⟩ | ⟨s, es, rfl, rfl⟩⟩ := frzV_live g2
    · have hb := hs.blk k1 _ e0
      cases hι : ι k1 with
      | «at» b o s =>
        rw [hι] at hb
        obtain ⟨h0, us, ty, q1, q2, q3⟩ := hb
        refine ⟨h0, us, ty, q1, by rw [q2]; simp, fun j v y hj hy => ?_⟩
        rw [List.getElem?_map] at hy
        obtain ⟨y0, hy0, rfl⟩ := Option.map_eq_some_iff.1 hy
        obtain ⟨r1, r2⟩ := q3 j v y0 hj hy0
        exact ⟨r1, hfrz v y0 (frzCs_mem hc.2 y0 (List.mem_flatMap.2 ⟨(k1, .live (.box cs)), sget_in e0, List.mem_of_getElem? hy0⟩)) r2⟩
      | free => rw [hι] at hb; exact hb.elim
      | gone => rw [hι] at hb; exact hb.elim
    · have hb := hs.blk k1 _ e0
      cases hι : ι k1 with
      | «at» b o s' =>
        rw [hι] at hb
        obtain ⟨h0, us, ty, q1, q2, q3⟩ := hb
        refine ⟨h0, us, ty, q1, q2, fun i j e x he hx => ?_⟩
        obtain ⟨v, r1, r2, r3⟩ := q3 i j e x he hx
        exact ⟨v, r1, r2, r3.anti hX⟩
      | free => rw [hι] at hb; exact hb.elim
      | gone => rw [hι] at hb; exact hb
  · obtain ⟨g1, g2⟩ := hlive k1 b1 h1
    obtain ⟨g3, g4⟩ := hlive k2 b2 h2
    obtain ⟨c1, e1, _⟩ := frzV_live g2
    obtain ⟨c2, e2, _⟩ := frzV_live g4
    rw [hid k1 g1] at h3
    rw [hid k2 g3] at h4
    exact hs.inj k1 k2 c1 c2 c o s o' s' e1 e2 h3 h4
  · rw [hsg]
    unfold idI
    split
    · rw [frzV_free]; exact hs.free k1
    · simp
  · have e : get (frzSt k p).1 t = Ab.frz (sget p.2) k (idm k p.2) (get p.1 t) := get_map (f := Ab.frz (sget p.2) k (idm k p.2)) rfl p.1 t
    rw [e]
    exact hfrz _ _ (hget t) (hv t)
  · exact hid k' (List.mem_map.2 ⟨_, hpin k' hk, rfl⟩)⟩
end Go.Ab
namespace Go.Ab
inductive LeB : Blk → Blk → Prop where
  | refl (b : Blk) : LeB b b
  | box (cs cs' : List AV) (hl : cs.length = cs'.length) (h : ∀ (j : Nat) (x y : AV), cs[j]? = some x → cs'[j]? = some y → Le x y) : LeB (.box cs) (.box cs')
  | arr (s : Nat) (es es' : List (List AV)) (hl : es.length = es'.length) (h : ∀ (i : Nat) (e e' : List AV), es[i]? = some e → es'[i]? = some e' → e.length = e'.length ∧ ∀ (j : Nat) (x y : AV), e[j]? = some x → e'[j]? = some y → LeP x y) : LeB (.arr s es) (.arr s es')
inductive LeE : Env → Env → Prop where
  | nil : LeE [] []
  | cons (k : Nat) (v v' : AV) (E E' : Env) (h : Le v v') (h' : LeE E E') : LeE ((k, v) :: E) ((k, v') :: E')
inductive LeS : Sto → Sto → Prop where
  | refl (σ : Sto) : LeS σ σ
  | cons (k : Nat) (b b' : Blk) (σ σ' : Sto) (h : LeB b b') (h' : LeS σ σ') : LeS ((k, .live b) :: σ) ((k, .live b') :: σ')
theorem LeB.box2 {x y x' y' : AV} (h : Le x x') (h' : Le y y') : LeB (.box [x, y]) (.box [x', y']) := .box _ _ rfl fun j a b h1 h2 => by
  match j with
  | 0 => cases h1; cases h2; exact h
  | 1 => cases h1; cases h2; exact h'
  | j + 2 => simp at h1
theorem LeE.get {E E' : Env} (h : LeE E E') (t : Nat) : Le (get E t) (get E' t) := by
  induction h with
  | nil => exact .refl
  | cons k v v' E E' h _ ih =>
    show Le (bif Nat.beq k t then v else Ab.get E t) (bif Nat.beq k t then v' else Ab.get E' t)
    cases Nat.beq k t
    · exact ih
    · exact h
theorem LeE.refl : ∀ (E : Env), LeE E E
  | [] => .nil
  | (k, v) :: E => .cons k v v E E .refl (LeE.refl E)
theorem LeS.get {σ σ' : Sto} (h : LeS σ σ') (k : Nat) : (sget σ k = sget σ' k) ∨ ∃ b b', sget σ k = .live b ∧ sget σ' k = .live b' ∧ LeB b b' := by
  induction h with
  | refl => exact .inl rfl
  | cons k' b b' σ σ' h _ ih =>
    show ((bif Nat.beq k' k then SV.live b else sget σ k) = (bif Nat.beq k' k then SV.live b' else sget σ' k)) ∨ ∃ c c', (bif Nat.beq k' k then SV.live b else sget σ k) = .live c ∧ (bif Nat.beq k' k then SV.live b' else sget σ' k) = .live c' ∧ LeB c c'
    cases Nat.beq k' k
    · exact ih
    · exact .inr ⟨b, b', rfl, rfl, h⟩
theorem LeB.BR {w : World} {X : Nat → Prop} {ι : Nat → LS} {l : LS} {b b' : Blk} (h : LeB b b') (hb : BR w X ι l b) : BR w X ι l b' := by
  cases h with
  | refl => exact hb
  | box cs cs' hl h =>
    cases l with
    | «at» b o s =>
      obtain ⟨h0, vs, ty, h1, h2, h3⟩ := hb
      refine ⟨h0, vs, ty, h1, h2.trans hl, fun j v y hv hy => ?_⟩
      have hj : j < cs.length := by rw [hl]; exact (List.getElem?_eq_some_iff.1 hy).1
      obtain ⟨g1, g2⟩ := h3 j v cs[j] hv (by simp [hj])
      exact ⟨g1, (h j cs[j] y (by simp [hj]) hy).to _ _ _ _ g2⟩
    | free => exact hb.elim
    | gone => exact hb.elim
  | arr s es es' hl h =>
    cases l with
    | «at» b o s' =>
      obtain ⟨h0, vs, ty, h1, h2, h3⟩ := hb
      refine ⟨h0, vs, ty, h1, fun i e' he' => ?_, fun i j e' y he' hy => ?_⟩
      · have hi : i < es.length := by rw [hl]; exact (List.getElem?_eq_some_iff.1 he').1
        rw [← (h i es[i] e' (by simp [hi]) he').1]
        exact h2 i es[i] (by simp [hi])
      · have hi : i < es.length := by rw [hl]; exact (List.getElem?_eq_some_iff.1 he').1
        obtain ⟨g1, g2⟩ := h i es[i] e' (by simp [hi]) he'
        have hj : j < (es[i]).length := by rw [g1]; exact (List.getElem?_eq_some_iff.1 hy).1
        obtain ⟨v, q1, q2, q3⟩ := h3 i j es[i] (es[i])[j] (by simp [hi]) (by simp [hj])
        exact ⟨v, q1, q2, g2 j _ y (by simp [hj]) hy _ _ _ q3⟩
    | free => exact hb.elim
    | gone =>
      have hb : es = [] := hb
      subst hb
      show es' = []
      exact List.eq_nil_of_length_eq_zero hl.symm
theorem StLe.le {pins : List Nat} {E E' : Env} {σ σ' : Sto} (hE : LeE E E') (hS : LeS σ σ') : StLe pins (E, σ) (E', σ') := ⟨fun w X ι vs hs hv => by
  have hL : ∀ b, Lv (sget σ') ι b ↔ Lv (sget σ) ι b := fun b => by
    constructor
    · rintro ⟨k, blk, o, s, h1, h2⟩
      rcases hS.get k with h | ⟨c, c', g1, g2, _⟩
      · exact ⟨k, blk, o, s, h.trans h1, h2⟩
      · exact ⟨k, c, o, s, g1, h2⟩
    · rintro ⟨k, blk, o, s, h1, h2⟩
      rcases hS.get k with h | ⟨c, c', g1, g2, _⟩
      · exact ⟨k, blk, o, s, h.symm.trans h1, h2⟩
      · exact ⟨k, c', o, s, g2, h2⟩
  have hX : XL X (sget σ') ι = XL X (sget σ) ι := funext fun b => by unfold XL; rw [hL b]
  refine ⟨ι, ⟨fun k b hk => ?_, fun k k' b b' c o s o' s' h1 h2 h3 h4 => ?_, fun b hb => ⟨(hs.out b hb).1, fun h => (hs.out b hb).2 ((hL b).1 h)⟩, fun k => ?_⟩, fun t => ?_, fun b hb => (hL b).1 hb, fun _ _ => rfl⟩
  · show BR w (XL X (sget σ') ι) ι (ι k) b
    rw [hX]
    rcases hS.get k with h | ⟨c, c', g1, g2, g3⟩
    · exact hs.blk k b (h.trans hk)
    · rw [show sget σ' k = .live b from hk] at g2
      cases g2
      exact g3.BR (hs.blk k c g1)
  · have lv : ∀ k b, sget σ' k = .live b → ∃ c, sget σ k = .live c := fun k b hk => by
      rcases hS.get k with h | ⟨c, c', g1, _, _⟩
      · exact ⟨b, h.trans hk⟩
      · exact ⟨c, g1⟩
    obtain ⟨d, hd⟩ := lv k b h1
    obtain ⟨d', hd'⟩ := lv k' b' h2
    exact hs.inj k k' d d' c o s o' s' hd hd' h3 h4
  · show sget σ' k = .free ↔ ι k = .free
    rw [← hs.free k]
    show sget σ' k = .free ↔ sget σ k = .free
    rcases hS.get k with h | ⟨c, c', g1, g2, _⟩
    · rw [h]
    · rw [g1, g2]; simp
  · show VR w (XL X (sget σ') ι) ι (vs t) (get E' t)
    rw [hX]
    exact (hE.get t).to _ _ _ _ (hv t)⟩
end Go.Ab
namespace Go.Ab
inductive NilE (s k : Nat) : Env → Env → Prop where
  | nil : NilE s k [] []
  | same {t : Nat} {v : AV} {E E' : Env} (h : NilE s k E E') : NilE s k ((t, v) :: E) ((t, v) :: E')
  | chg {t : Nat} {E E' : Env} (h : NilE s k E E') : NilE s k ((t, .nils) :: E) ((t, .own s k 0 0 .opn) :: E')
  | to {t : Nat} {v v' : AV} {E E' : Env} (hv : Le v v') (h : NilE s k E E') : NilE s k ((t, v) :: E) ((t, v') :: E')
inductive NilS (s k : Nat) : Sto → Sto → Prop where
  | here {σ : Sto} : NilS s k σ ((k, .live (.arr s [])) :: σ)
  | there {k' : Nat} {v : SV} {σ σ' : Sto} (hk : Nat.beq k' k = false) (h : NilS s k σ σ') : NilS s k ((k', v) :: σ) ((k', v) :: σ')
theorem NilS.get {s k : Nat} {σ σ' : Sto} (h : NilS s k σ σ') (x : Nat) : sget σ' x = if x = k then .live (.arr s []) else sget σ x := by
  induction h with
  | here => rw [sget_cons]
  | there hk h ih =>
    rename_i k' v σ1 σ2
    rw [sget_cons, sget_cons]
    have hn : k' ≠ k := fun e => by subst e; rw [Nat.beq_refl] at hk; cases hk
    by_cases e : x = k'
    · subst e; simp [hn]
    · simp only [e, if_false]; exact ih
theorem StLe.nil {pins : List Nat} {s k : Nat} {E E' : Env} {σ σ' : Sto} (hk : sget σ k = .free) (hp : memN k pins = false) (hE : NilE s k E E') (hS : NilS s k σ σ') : StLe pins (E, σ) (E', σ') := ⟨fun w X ι vs hs hv => by
  have hιk : ι k = .free := (hs.free k).1 hk
  have hext : Ext ι (fun x => if x = k then .gone else ι x) := fun x hx => by
    show (if x = k then LS.gone else ι x) = ι x
    rw [if_neg fun e => hx (by rw [e]; exact hιk)]
  have hL : ∀ b, Lv (sget σ') (fun x => if x = k then .gone else ι x) b ↔ Lv (sget σ) ι b := fun b => by
    constructor
    · rintro ⟨x, blk, o, t, h1, h2⟩
      rw [hS.get] at h1
      have h2 : (if x = k then LS.gone else ι x) = .at b o t := h2
      by_cases e : x = k
      · rw [if_pos e] at h2; cases h2
      · rw [if_neg e] at h1 h2; exact ⟨x, blk, o, t, h1, h2⟩
    · rintro ⟨x, blk, o, t, h1, h2⟩
      have e : x ≠ k := fun e => by rw [e, hk] at h1; cases h1
      exact ⟨x, blk, o, t, by rw [hS.get, if_neg e]; exact h1, by show (if x = k then LS.gone else ι x) = _; rw [if_neg e]; exact h2⟩
  have hX : XL X (sget σ') (fun x => if x = k then .gone else ι x) = XL X (sget σ) ι := funext fun b => by unfold XL; rw [hL b]
  refine ⟨fun x => if x = k then .gone else ι x, ⟨fun x b hx => ?_, fun x x' b b' c o t o' t' h1 h2 h3 h4 => ?_, fun b hb => ⟨(hs.out b hb).1, fun h => (hs.out b hb).2 ((hL b).1 h)⟩, fun x => ?_⟩, fun t => ?_, fun b hb => (hL b).1 hb, fun x hx => ?_⟩
  · show BR w _ _ (if x = k then .gone else ι x) b
    rw [hX]
    rw [hS.get] at hx
    by_cases e : x = k
    · rw [if_pos e] at hx ⊢
      cases hx
      exact rfl
    · rw [if_neg e] at hx ⊢
      exact BR.step (Adv.refl (Lv (sget σ) ι) w) hext (hs.blk x b hx) fun _ _ _ _ => rfl
  · have key : ∀ x b c o t, sget σ' x = .live b → (if x = k then LS.gone else ι x) = .at c o t → sget σ x = .live b ∧ ι x = .at c o t := fun x b c o t h1 h2 => by
      rw [hS.get] at h1
      by_cases e : x = k
      · rw [if_pos e] at h2; cases h2
      · rw [if_neg e] at h1 h2; exact ⟨h1, h2⟩
    obtain ⟨a1, a2⟩ := key x b c o t h1 h3
    obtain ⟨b1, b2⟩ := key x' b' c o' t' h2 h4
    exact hs.inj x x' b b' c o t o' t' a1 b1 a2 b2
  · show sget σ' x = .free ↔ (if x = k then LS.gone else ι x) = .free
    rw [hS.get]
    by_cases e : x = k
    · rw [if_pos e, if_pos e]; simp
    · rw [if_neg e, if_neg e]; exact hs.free x
  · show VR w (XL X (sget σ') _) _ (vs t) (get E' t)
    rw [hX]
    have h0 : VR w (XL X (sget σ) ι) (fun x => if x = k then .gone else ι x) (vs t) (get E t) := VR.step (Adv.refl (Lv (sget σ) ι) w) hext (hv t)
    have h1 : get E' t = get E t ∨ (get E t = .nils ∧ get E' t = .own s k 0 0 .opn) ∨ Le (get E t) (get E' t) := by
      clear h0 hv hs
      induction hE with
      | nil => exact .inl rfl
      | same h ih =>
        rename_i t' v E1 E2
        show (bif Nat.beq t' t then v else get E2 t) = (bif Nat.beq t' t then v else get E1 t) ∨ ((bif Nat.beq t' t then v else get E1 t) = .nils ∧ (bif Nat.beq t' t then v else get E2 t) = _) ∨ Le (bif Nat.beq t' t then v else get E1 t) (bif Nat.beq t' t then v else get E2 t)
        cases Nat.beq t' t
        · exact ih
        · exact .inl rfl
      | chg h ih =>
        rename_i t' E1 E2
        show (bif Nat.beq t' t then AV.own s k 0 0 .opn else get E2 t) = (bif Nat.beq t' t then AV.nils else get E1 t) ∨ ((bif Nat.beq t' t then AV.nils else get E1 t) = .nils ∧ (bif Nat.beq t' t then AV.own s k 0 0 .opn else get E2 t) = _) ∨ Le (bif Nat.beq t' t then AV.nils else get E1 t) (bif Nat.beq t' t then AV.own s k 0 0 .opn else get E2 t)
        cases Nat.beq t' t
        · exact ih
        · exact .inr (.inl ⟨rfl, rfl⟩)
      | to hl h ih =>
        rename_i t' v v' E1 E2
        show (bif Nat.beq t' t then v' else get E2 t) = (bif Nat.beq t' t then v else get E1 t) ∨ ((bif Nat.beq t' t then v else get E1 t) = .nils ∧ (bif Nat.beq t' t then v' else get E2 t) = _) ∨ Le (bif Nat.beq t' t then v else get E1 t) (bif Nat.beq t' t then v' else get E2 t)
        cases Nat.beq t' t
        · exact ih
        · exact .inr (.inr hl)
    rcases h1 with h1 | ⟨h1, h2⟩ | h1
    · rw [h1]; exact h0
    · rw [h2]
      rw [h1] at h0
      rw [h0.nils_inv]
      exact .own0 s k 0 none .opn (by simp) (Nat.le_refl _)
    · exact h1.to _ _ _ _ h0
  · show (if x = k then LS.gone else ι x) = ι x
    rw [if_neg]
    intro e
    subst e
    rw [show memN x pins = true from memN_iff.2 hx] at hp
    cases hp⟩
theorem Le.opn {s k i n : Nat} {q : Q} : Le (.own s k i n q) (.own s k i n .opn) := ⟨fun w X ι v hv => by
  have up : ∀ n c, q.fits n c → Q.opn.fits n c := fun n c h => by
    cases q with
    | full => exact Nat.le_of_eq h.symm
    | opn => exact h
    | room r => exact Nat.le_trans (Nat.le_add_right _ _) h
  cases hv with
  | pure _ _ h => cases h
  | own _ _ _ _ c b o _ us ty h hq hb hc => exact .own s k i n c b o .opn us ty h (up _ _ hq) hb hc
  | own0 _ _ _ a _ h hq => exact .own0 s k i a .opn h (up _ _ hq)⟩
end Go.Ab
namespace Go.Ab
theorem LeP.refl {x : AV} : LeP x x := fun _ _ _ h => h
theorem LeP.lit {b c : Bool} (h : b = c) : LeP (.lit b) (.bool c) := fun _ _ _ hv => by subst h; cases hv; exact .bool b
theorem LeP.nils {s : Nat} : LeP .nils (.row s []) := fun _ _ _ hv => by cases hv; exact .row0 none 0 s
theorem LeP.row {s : Nat} {es es' : List (List AV)} (hl : es.length = es'.length) (h : ∀ (i : Nat) (e e' : List AV), es[i]? = some e → es'[i]? = some e' → e.length = e'.length ∧ ∀ (j : Nat) (x y : AV), e[j]? = some x → e'[j]? = some y → LeP x y) : LeP (.row s es) (.row s es') := fun w X v hv => by
  cases hv with
  | row0 a c s =>
    have : es' = [] := List.eq_nil_of_length_eq_zero hl.symm
    subst this
    exact .row0 a c s
  | row b o c s es f hX hb hc hs h1 h2 =>
    have get : ∀ (i : Nat) (e' : List AV), es'[i]? = some e' → ∃ e, es[i]? = some e ∧ e.length = e'.length ∧ ∀ (j : Nat) (x y : AV), e[j]? = some x → e'[j]? = some y → LeP x y := fun i e' he' => by
      have hi : i < es.length := by rw [hl]; exact (List.getElem?_eq_some_iff.1 he').1
      exact ⟨es[i], by simp [hi], h i es[i] e' (by simp [hi]) he'⟩
    have get2 : ∀ (i j : Nat) (e' : List AV) (y : AV), es'[i]? = some e' → e'[j]? = some y → ∃ e x, es[i]? = some e ∧ e[j]? = some x ∧ LeP x y := fun i j e' y he' hy => by
      obtain ⟨e, k1, k2, k3⟩ := get i e' he'
      have hj : j < e.length := by rw [k2]; exact (List.getElem?_eq_some_iff.1 hy).1
      exact ⟨e, e[j], k1, by simp [hj], k3 j _ y (by simp [hj]) hy⟩
    rw [hl]
    refine .row b o c s es' f hX hb (by rw [← hl]; exact hc) (fun i e' he' => ?_) (fun i j e' y he' hy => ?_) (fun i j e' y he' hy => ?_)
    · obtain ⟨e, k1, k2, _⟩ := get i e' he'
      rw [← k2]; exact hs i e k1
    · obtain ⟨e, x, k1, k2, _⟩ := get2 i j e' y he' hy
      exact h1 i j e x k1 k2
    · obtain ⟨e, x, k1, k2, k3⟩ := get2 i j e' y he' hy
      exact k3 w X _ (h2 i j e x k1 k2)
theorem Le.row {s : Nat} {es es' : List (List AV)} (hl : es.length = es'.length) (h : ∀ (i : Nat) (e e' : List AV), es[i]? = some e → es'[i]? = some e' → e.length = e'.length ∧ ∀ (j : Nat) (x y : AV), e[j]? = some x → e'[j]? = some y → LeP x y) : Le (.row s es) (.row s es') :=
  .pure (.row hl h) fun w X ι v hv => by cases hv with | pure _ _ h => exact h
theorem PCall.by1 {P : Program} {f : Nat} {x y : AV} {r : AV} (h : PCall P f [y] r) (hx : Le x y) : PCall P f [x] r := h.by rfl fun j a b h1 h2 => by
  match j with
  | 0 => cases h1; cases h2; exact hx
  | j + 1 => simp at h1
theorem LeP.row1 {s : Nat} {e e' : List AV} (hl : e.length = e'.length) (h : ∀ (j : Nat) (x y : AV), e[j]? = some x → e'[j]? = some y → LeP x y) : Le (.row s [e]) (.row s [e']) := .row rfl fun i a b h1 h2 => by
  match i with
  | 0 => cases h1; cases h2; exact ⟨hl, h⟩
  | i + 1 => simp at h1
end Go.Ab
