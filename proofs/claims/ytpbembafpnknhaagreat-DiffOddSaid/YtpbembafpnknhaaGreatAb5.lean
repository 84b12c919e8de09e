/- Proof texts of one seat, in one file: an evaluator of the program's form, shown sound, and the functions told by it. There are no conditions but those that each theorem names. -/
import Derived.Test.YtpbembafpnknhaaGreatAb0
import Derived.Test.YtpbembafpnknhaaGreatAb1
import Derived.Test.YtpbembafpnknhaaGreatAb2
import Derived.Test.YtpbembafpnknhaaGreatAb3
import Derived.Test.YtpbembafpnknhaaGreatAb4
set_option linter.unusedVariables false
set_option linter.unusedSimpArgs false
set_option linter.unusedSectionVars false
set_option linter.unnecessarySimpa false
namespace Go.Ab
open Sn
structure S62 where
  f0 : ByteArray
  f1 : Int
  f2 : Bool
  f3 : S47
def cmpB (a b : Bool) : Int := cmpInt (cond a 1 0) (cond b 1 0)
theorem isCmp_b : IsCmp cmpB where
  rng a b := isCmp_int.rng _ _
  anti a b := isCmp_int.anti _ _
  eq0 a b := by cases a <;> cases b <;> simp [cmpB, cmpInt]
  tr a b d := isCmp_int.tr _ _ _
def pc {β γ : Type} (c : β → β → Int) (d : γ → γ → Int) (a b : β × γ) : Int := orC (c a.1 b.1) (d a.2 b.2)
theorem isCmp_pc {β γ : Type} {c : β → β → Int} {d : γ → γ → Int} (hc : IsCmp c) (hd : IsCmp d) : IsCmp (pc c d) := hc.lex hd Prod.fst Prod.snd fun _ _ h1 h2 => Prod.ext h1 h2
def keyE (a : S62) : ByteArray × Int := (a.f0, a.f1)
def cmpE (a b : S62) : Int := orC (cmpS a.f0 b.f0) (cmpInt a.f1 b.f1)
def restE (a : S62) : Bool × ByteArray × Int × ByteArray × Bool × Int × List S29 × List S29 := (a.f2, a.f3.f0, a.f3.f1, a.f3.f2, a.f3.f3, a.f3.f4, a.f3.f5, a.f3.f6)
def cmpR : Bool × ByteArray × Int × ByteArray × Bool × Int × List S29 × List S29 → Bool × ByteArray × Int × ByteArray × Bool × Int × List S29 × List S29 → Int := pc cmpB (pc cmpS (pc cmpInt (pc cmpS (pc cmpB (pc cmpInt (pc (cmpList cmpSe) (cmpList cmpSe)))))))
theorem isCmp_R : IsCmp cmpR := isCmp_pc isCmp_b (isCmp_pc isCmp_s (isCmp_pc isCmp_int (isCmp_pc isCmp_s (isCmp_pc isCmp_b (isCmp_pc isCmp_int (isCmp_pc isCmp_se.list isCmp_se.list))))))
def cmp62 (a b : S62) : Int := orC (cmpE a b) (cmpR (restE a) (restE b))
theorem isCmp_62 : IsCmp cmp62 := (isCmp_pc isCmp_s isCmp_int).lex isCmp_R keyE restE fun a b h1 h2 => by
  obtain ⟨a0, a1, a2, ⟨b0, b1, b2, b3, b4, b5, b6⟩⟩ := a
  obtain ⟨c0, c1, c2, ⟨d0, d1, d2, d3, d4, d5, d6⟩⟩ := b
  simp only [keyE, restE, Prod.mk.injEq] at h1 h2
  simp_all
theorem cmpE_self (a : S62) : cmpE a a = 0 := by unfold cmpE; rw [isCmp_s.self, isCmp_int.self]; rfl
theorem cmp62_lt {a b : S62} (h : cmpE a b = -1) : cmp62 a b = -1 := by unfold cmp62; rw [h]; rfl
def only (id : ByteArray) : S47 := ⟨id, 0, ⟨#[]⟩, false, 0, [], []⟩
def hasI (m : List S47) (id : ByteArray) : Bool := decide (0 ≤ placeOf m id)
def getI (m : List S47) (id : ByteArray) : S47 := bif hasI m id then m.getD (placeOf m id).toNat z47 else z47
def hdPt (id : ByteArray) (y : S47) : S47 := ⟨id, y.f1, y.f2, false, y.f4, [], []⟩
def sameHd (x y : S47) : Bool := (x.f1 == y.f1) && ((x.f2.toList == y.f2.toList) && (x.f4 == y.f4))
noncomputable def ed1 (a b : List S47) (id : ByteArray) : List S62 := bif (hasI a id != hasI b id) || !sameHd (getI a id) (getI b id) then [⟨id, 1, hasI b id, bif hasI b id then hdPt id (getI b id) else only id⟩] else []
noncomputable def ed2 (x y : S47) (id : ByteArray) : List S62 := bif x.f3 != y.f3 then [⟨id, 2, true, ⟨id, 0, ⟨#[]⟩, y.f3, 0, [], []⟩⟩] else []
noncomputable def ed3 (x y : S47) (id : ByteArray) : List S62 := bif !eqq x.f5 y.f5 then [⟨id, 3, true, ⟨id, 0, ⟨#[]⟩, false, 0, y.f5, []⟩⟩] else []
noncomputable def ed4 (x y : S47) (id : ByteArray) : List S62 := bif !eqq x.f6 y.f6 then [⟨id, 4, true, ⟨id, 0, ⟨#[]⟩, false, 0, [], y.f6⟩⟩] else []
noncomputable def edR (a b : List S47) (id : ByteArray) : List S62 := bif hasI b id then ed2 (getI a id) (getI b id) id ++ (ed3 (getI a id) (getI b id) id ++ ed4 (getI a id) (getI b id) id) else []
noncomputable def edI (a b : List S47) (id : ByteArray) : List S62 := ed1 a b id ++ edR a b id
def edF (fa fb : List ByteArray) (id : ByteArray) : List S62 := bif hasS fa id != hasS fb id then [⟨id, 5, hasS fb id, only id⟩] else []
def namesOf (l : List (List ByteArray × List S47)) : List ByteArray := sortD cmpS (l.flatMap fun m => m.1 ++ m.2.map S47.f0)
noncomputable def specD (fa : List ByteArray) (a : List S47) (fb : List ByteArray) (b : List S47) : List S62 := (namesOf [(fa, a), (fb, b)]).flatMap fun id => edI a b id ++ edF fa fb id
def idsOf (l : List S47) : List ByteArray := l.foldl (fun l x => bif hasS l x.f0 then l else l ++ [x.f0]) []
noncomputable def progD (fa : List ByteArray) (a : List S47) (fb : List ByteArray) (b : List S47) : List S62 :=
  (idsOf (a ++ b)).flatMap (edI a b) ++ (fa.filter fun s => !hasS fb s).map (fun s => ⟨s, 5, false, only s⟩) ++ (fb.filter fun s => !hasS fa s).map (fun s => ⟨s, 5, true, only s⟩)
theorem hasI_iff {m : List S47} {id : ByteArray} : hasI m id = true ↔ ∃ x ∈ m, x.f0 = id := by
  unfold hasI
  rw [decide_eq_true_iff]
  constructor
  · intro h
    obtain ⟨i, hi, h1, _⟩ := placeOf_lt h
    exact ⟨_, getD_mem hi, h1⟩
  · rintro ⟨x, hx, e⟩
    refine Decidable.byContradiction fun h => ?_
    have := firstAt_ge (p := fun j => (m.getD j z47).f0.toList == id.toList) (n := m.length)
    obtain ⟨i, hi, h1⟩ := mem_getD (z := z47) hx
    exact h (this.2 ⟨i, hi, by rw [h1, e]; simp⟩)
theorem getI_mem {m : List S47} {id : ByteArray} (h : hasI m id = true) : getI m id ∈ m ∧ (getI m id).f0 = id := by
  unfold getI
  rw [h]
  unfold hasI at h
  obtain ⟨i, hi, h1, _, h2⟩ := placeOf_lt (of_decide_eq_true h)
  rw [h2]
  exact ⟨getD_mem hi, h1⟩
theorem getI_none {m : List S47} {id : ByteArray} (h : hasI m id = false) : getI m id = z47 := by unfold getI; rw [h]; rfl
theorem getI_of {m : List S47} (hn : (m.map S47.f0).Nodup) {x : S47} (hx : x ∈ m) : getI m x.f0 = x := by
  have h : hasI m x.f0 = true := hasI_iff.2 ⟨x, hx, rfl⟩
  obtain ⟨h1, h2⟩ := getI_mem h
  exact id_inj hn h1 hx h2
noncomputable def edX (p q : Bool) (x y : S47) (id : ByteArray) : List S62 := (bif (p != q) || !sameHd x y then [⟨id, 1, q, bif q then hdPt id y else only id⟩] else []) ++ bif q then ed2 x y id ++ (ed3 x y id ++ ed4 x y id) else []
theorem edI_X (a b : List S47) (id : ByteArray) : edI a b id = edX (hasI a id) (hasI b id) (getI a id) (getI b id) id := rfl
theorem ed1_mem {a b : List S47} {id : ByteArray} {e : S62} (h : e ∈ ed1 a b id) : e.f0 = id ∧ e.f1 = 1 ∧ (hasI a id = true ∨ hasI b id = true) := by
  unfold ed1 at h
  cases hc : (hasI a id != hasI b id) || !sameHd (getI a id) (getI b id) with
  | false => rw [hc] at h; cases h
  | true =>
    rw [hc] at h
    rw [List.mem_singleton.1 h]
    refine ⟨rfl, rfl, ?_⟩
    cases h1 : hasI a id with
    | true => exact .inl rfl
    | false =>
      cases h2 : hasI b id with
      | true => exact .inr rfl
      | false =>
        rw [getI_none h1, getI_none h2, h1, h2] at hc
        have : sameHd z47 z47 = true := by unfold sameHd; simp
        rw [this] at hc
        cases hc
theorem ed2_mem {x y : S47} {id : ByteArray} {e : S62} (h : e ∈ ed2 x y id) : e.f0 = id ∧ e.f1 = 2 := by
  unfold ed2 at h
  cases hc : x.f3 != y.f3 with
  | false => rw [hc] at h; cases h
  | true => rw [hc] at h; rw [List.mem_singleton.1 h]; exact ⟨rfl, rfl⟩
theorem ed3_mem {x y : S47} {id : ByteArray} {e : S62} (h : e ∈ ed3 x y id) : e.f0 = id ∧ e.f1 = 3 := by
  unfold ed3 at h
  cases hc : !eqq x.f5 y.f5 with
  | false => rw [hc] at h; cases h
  | true => rw [hc] at h; rw [List.mem_singleton.1 h]; exact ⟨rfl, rfl⟩
theorem ed4_mem {x y : S47} {id : ByteArray} {e : S62} (h : e ∈ ed4 x y id) : e.f0 = id ∧ e.f1 = 4 := by
  unfold ed4 at h
  cases hc : !eqq x.f6 y.f6 with
  | false => rw [hc] at h; cases h
  | true => rw [hc] at h; rw [List.mem_singleton.1 h]; exact ⟨rfl, rfl⟩
theorem edF_mem {fa fb : List ByteArray} {id : ByteArray} {e : S62} (h : e ∈ edF fa fb id) : e = ⟨id, 5, hasS fb id, only id⟩ ∧ (hasS fa id != hasS fb id) = true := by
  unfold edF at h
  cases hc : hasS fa id != hasS fb id with
  | false => rw [hc] at h; cases h
  | true => rw [hc] at h; exact ⟨List.mem_singleton.1 h, rfl⟩
theorem edR_mem {a b : List S47} {id : ByteArray} {e : S62} (h : e ∈ edR a b id) : e.f0 = id ∧ 2 ≤ e.f1 ∧ e.f1 ≤ 4 ∧ hasI b id = true := by
  unfold edR at h
  cases hb : hasI b id with
  | false => rw [hb] at h; cases h
  | true =>
    rw [hb] at h
    rcases List.mem_append.1 h with h | h
    · obtain ⟨h1, h2⟩ := ed2_mem h; exact ⟨h1, by omega, by omega, rfl⟩
    · rcases List.mem_append.1 h with h | h
      · obtain ⟨h1, h2⟩ := ed3_mem h; exact ⟨h1, by omega, by omega, rfl⟩
      · obtain ⟨h1, h2⟩ := ed4_mem h; exact ⟨h1, by omega, by omega, rfl⟩
theorem edI_mem {a b : List S47} {id : ByteArray} {e : S62} (h : e ∈ edI a b id) : e.f0 = id ∧ 1 ≤ e.f1 ∧ e.f1 ≤ 4 ∧ (hasI a id = true ∨ hasI b id = true) := by
  rcases List.mem_append.1 h with h | h
  · obtain ⟨h1, h2, h3⟩ := ed1_mem h; exact ⟨h1, by omega, by omega, h3⟩
  · obtain ⟨h1, h2, h3, h4⟩ := edR_mem h; exact ⟨h1, by omega, h3, .inr h4⟩
theorem pw_bif {α : Type} {R : α → α → Prop} {c : Bool} {x : α} : (bif c then [] else [x]).Pairwise R := by cases c <;> simp
theorem pw_bif' {α : Type} {R : α → α → Prop} {c : Bool} {x : α} : (bif c then [x] else []).Pairwise R := by cases c <;> simp
theorem edI_rises (a b : List S47) (id : ByteArray) : (edI a b id).Pairwise fun x y => x.f1 < y.f1 := by
  unfold edI
  refine List.pairwise_append.2 ⟨pw_bif', ?_, fun x hx y hy => ?_⟩
  · unfold edR
    cases hasI b id with
    | false => exact .nil
    | true =>
      refine List.pairwise_append.2 ⟨pw_bif', List.pairwise_append.2 ⟨pw_bif', pw_bif', fun x hx y hy => ?_⟩, fun x hx y hy => ?_⟩
      · have h1 := (ed3_mem hx).2; have h2 := (ed4_mem hy).2; omega
      · have h1 := (ed2_mem hx).2
        rcases List.mem_append.1 hy with h | h
        · have h2 := (ed3_mem h).2; omega
        · have h2 := (ed4_mem h).2; omega
  · have h1 := (ed1_mem hx).2.1; have h2 := (edR_mem hy).2.1; omega
theorem edIF_rises (fa fb : List ByteArray) (a b : List S47) (id : ByteArray) : (edI a b id ++ edF fa fb id).Pairwise fun x y => x.f1 < y.f1 := by
  refine List.pairwise_append.2 ⟨edI_rises a b id, pw_bif', fun x hx y hy => ?_⟩
  have h1 := (edI_mem hx).2.2.1
  have h2 : y.f1 = 5 := by rw [(edF_mem hy).1]
  omega
theorem edIF_f0 {fa fb : List ByteArray} {a b : List S47} {id : ByteArray} {e : S62} (h : e ∈ edI a b id ++ edF fa fb id) : e.f0 = id := by
  rcases List.mem_append.1 h with h | h
  · exact (edI_mem h).1
  · rw [(edF_mem h).1]
theorem cmpE_f1 {x y : S62} (h : x.f0 = y.f0) (h1 : x.f1 < y.f1) : cmpE x y = -1 := by
  unfold cmpE
  rw [h, isCmp_s.self]
  show cmpInt x.f1 y.f1 = -1
  unfold cmpInt; rw [if_pos h1]
theorem cmpE_f0 {x y : S62} (h : cmpS x.f0 y.f0 = -1) : cmpE x y = -1 := by unfold cmpE; rw [h]; rfl
theorem block_strict {L : List ByteArray} (hL : Strict cmpS L) {g : ByteArray → List S62} (h0 : ∀ id ∈ L, ∀ e ∈ g id, e.f0 = id) (h1 : ∀ id ∈ L, (g id).Pairwise fun x y => x.f1 < y.f1) : (L.flatMap g).Pairwise fun x y => cmpE x y = -1 := by
  rw [List.pairwise_flatMap]
  refine ⟨fun id hid => (h1 id hid).imp_of_mem fun {x y} hx hy h => cmpE_f1 ((h0 id hid x hx).trans (h0 id hid y hy).symm) h, hL.imp_of_mem fun {i j} hi hj h x hx y hy => cmpE_f0 ?_⟩
  rw [h0 i hi x hx, h0 j hj y hy]
  exact h
theorem names_strict (l : List (List ByteArray × List S47)) : Strict cmpS (namesOf l) := sortD_strict isCmp_s _
theorem specD_strict (fa : List ByteArray) (a : List S47) (fb : List ByteArray) (b : List S47) : (specD fa a fb b).Pairwise fun x y => cmpE x y = -1 :=
  block_strict (names_strict _) (fun id _ e he => edIF_f0 he) (fun id _ => edIF_rises fa fb a b id)
theorem strict62 {l : List S62} (h : l.Pairwise fun x y => cmpE x y = -1) : Strict cmp62 l := h.imp cmp62_lt
theorem mem_names {l : List (List ByteArray × List S47)} {s : ByteArray} : s ∈ namesOf l ↔ ∃ m ∈ l, s ∈ m.1 ∨ ∃ x ∈ m.2, x.f0 = s := by
  unfold namesOf
  rw [mem_sortD isCmp_s, List.mem_flatMap]
  simp [List.mem_append, List.mem_map]
theorem names2 {fa fb : List ByteArray} {a b : List S47} {s : ByteArray} : s ∈ namesOf [(fa, a), (fb, b)] ↔ (s ∈ fa ∨ hasI a s = true) ∨ (s ∈ fb ∨ hasI b s = true) := by
  rw [mem_names, hasI_iff, hasI_iff]
  simp
theorem idsOf_foldl (l : List S47) : ∀ acc : List ByteArray, acc.Nodup → (l.foldl (fun l x => bif hasS l x.f0 then l else l ++ [x.f0]) acc).Nodup ∧ ∀ s, s ∈ l.foldl (fun l x => bif hasS l x.f0 then l else l ++ [x.f0]) acc ↔ s ∈ acc ∨ ∃ x ∈ l, x.f0 = s := by
  induction l with
  | nil => intro acc h; exact ⟨h, fun s => by simp⟩
  | cons x l ih =>
    intro acc h
    rw [List.foldl_cons]
    cases hx : hasS acc x.f0 with
    | true =>
      obtain ⟨h1, h2⟩ := ih acc h
      refine ⟨h1, fun s => ?_⟩
      show s ∈ l.foldl _ acc ↔ _
      rw [h2]
      have hm := hasS_iff.1 hx
      constructor
      · rintro (h | ⟨y, hy, e⟩)
        · exact .inl h
        · exact .inr ⟨y, List.mem_cons_of_mem _ hy, e⟩
      · rintro (h | ⟨y, hy, e⟩)
        · exact .inl h
        · rcases List.mem_cons.1 hy with rfl | hy
          · exact .inl (e ▸ hm)
          · exact .inr ⟨y, hy, e⟩
    | false =>
      have hm : x.f0 ∉ acc := fun h => by rw [hasS_iff.2 h] at hx; cases hx
      obtain ⟨h1, h2⟩ := ih (acc ++ [x.f0]) (List.nodup_append.2 ⟨h, by simp, fun s hs t ht => by rw [List.mem_singleton.1 ht]; exact fun e => hm (e ▸ hs)⟩)
      refine ⟨h1, fun s => ?_⟩
      show s ∈ l.foldl _ (acc ++ [x.f0]) ↔ _
      rw [h2, List.mem_append, List.mem_singleton]
      constructor
      · rintro ((h | h) | ⟨y, hy, e⟩)
        · exact .inl h
        · exact .inr ⟨x, List.mem_cons_self .., h.symm⟩
        · exact .inr ⟨y, List.mem_cons_of_mem _ hy, e⟩
      · rintro (h | ⟨y, hy, e⟩)
        · exact .inl (.inl h)
        · rcases List.mem_cons.1 hy with rfl | hy
          · exact .inl (.inr e.symm)
          · exact .inr ⟨y, hy, e⟩
theorem idsOf_nodup (l : List S47) : (idsOf l).Nodup := (idsOf_foldl l [] .nil).1
theorem mem_idsOf {l : List S47} {s : ByteArray} : s ∈ idsOf l ↔ ∃ x ∈ l, x.f0 = s := by
  have := (idsOf_foldl l [] .nil).2 s
  simpa [idsOf] using this
theorem mem_specD {fa : List ByteArray} {a : List S47} {fb : List ByteArray} {b : List S47} {e : S62} : e ∈ specD fa a fb b ↔ ∃ id, e ∈ edI a b id ∨ e ∈ edF fa fb id := by
  unfold specD
  rw [List.mem_flatMap]
  constructor
  · rintro ⟨id, _, h⟩
    exact ⟨id, List.mem_append.1 h⟩
  · rintro ⟨id, h⟩
    refine ⟨id, ?_, List.mem_append.2 h⟩
    rw [names2]
    rcases h with h | h
    · rcases (edI_mem h).2.2.2 with h | h
      · exact .inl (.inr h)
      · exact .inr (.inr h)
    · have hn := (edF_mem h).2
      cases h1 : hasS fa id with
      | true => exact .inl (.inl (hasS_iff.1 h1))
      | false =>
        cases h2 : hasS fb id with
        | true => exact .inr (.inl (hasS_iff.1 h2))
        | false => rw [h1, h2] at hn; cases hn
theorem mem_progD {fa : List ByteArray} {a : List S47} {fb : List ByteArray} {b : List S47} {e : S62} : e ∈ progD fa a fb b ↔ ∃ id, e ∈ edI a b id ∨ e ∈ edF fa fb id := by
  unfold progD
  rw [List.mem_append, List.mem_append, List.mem_flatMap, List.mem_map, List.mem_map]
  constructor
  · rintro ((⟨id, _, h⟩ | ⟨s, hs, rfl⟩) | ⟨s, hs, rfl⟩)
    · exact ⟨id, .inl h⟩
    · obtain ⟨h1, h2⟩ := List.mem_filter.1 hs
      have h2 : hasS fb s = false := by simpa using h2
      refine ⟨s, .inr ?_⟩
      unfold edF
      rw [hasS_iff.2 h1, h2]
      exact List.mem_singleton.2 rfl
    · obtain ⟨h1, h2⟩ := List.mem_filter.1 hs
      have h2 : hasS fa s = false := by simpa using h2
      refine ⟨s, .inr ?_⟩
      unfold edF
      rw [hasS_iff.2 h1, h2]
      exact List.mem_singleton.2 rfl
  · rintro ⟨id, h | h⟩
    · refine .inl (.inl ⟨id, ?_, h⟩)
      rw [mem_idsOf]
      rcases (edI_mem h).2.2.2 with h | h
      · obtain ⟨x, hx, e⟩ := hasI_iff.1 h
        exact ⟨x, List.mem_append.2 (.inl hx), e⟩
      · obtain ⟨x, hx, e⟩ := hasI_iff.1 h
        exact ⟨x, List.mem_append.2 (.inr hx), e⟩
    · obtain ⟨rfl, hn⟩ := edF_mem h
      cases h1 : hasS fa id with
      | true =>
        cases h2 : hasS fb id with
        | true => rw [h1, h2] at hn; cases hn
        | false => exact .inl (.inr ⟨id, List.mem_filter.2 ⟨hasS_iff.1 h1, by rw [h2]; rfl⟩, rfl⟩)
      | false =>
        cases h2 : hasS fb id with
        | true => exact .inr ⟨id, List.mem_filter.2 ⟨hasS_iff.1 h2, by rw [h1]; rfl⟩, rfl⟩
        | false => rw [h1, h2] at hn; cases hn
theorem f1_nodup {l : List S62} (h : l.Pairwise fun x y => x.f1 < y.f1) : l.Nodup := h.imp fun {x y} h e => by rw [e] at h; omega
theorem progD_nodup {fa : List ByteArray} {a : List S47} {fb : List ByteArray} {b : List S47} (hfa : fa.Nodup) (hfb : fb.Nodup) : (progD fa a fb b).Nodup := by
  unfold progD
  have hmap : ∀ (l : List ByteArray) (p : ByteArray → Bool) (c : Bool), l.Nodup → ((l.filter p).map fun s => (⟨s, 5, c, only s⟩ : S62)).Nodup := fun l p c hl => by
    refine List.pairwise_map.2 ((hl.filter p).imp fun {x y} h e => h ?_)
    exact congrArg S62.f0 e
  have hI : ((idsOf (a ++ b)).flatMap (edI a b)).Nodup := nodup_flatMap' (fun id _ => f1_nodup (edI_rises a b id)) ((idsOf_nodup _).imp fun {i j} h x (hx : x ∈ edI a b i) (hy : x ∈ edI a b j) => h ((edI_mem hx).1.symm.trans (edI_mem hy).1))
  refine List.nodup_append.2 ⟨List.nodup_append.2 ⟨hI, hmap _ _ _ hfa, fun x hx y hy e => ?_⟩, hmap _ _ _ hfb, fun x hx y hy e => ?_⟩
  · subst e
    obtain ⟨id, _, h⟩ := List.mem_flatMap.1 hx
    obtain ⟨s, _, rfl⟩ := List.mem_map.1 hy
    have := (edI_mem h).2.2.1
    simp at this
  · subst e
    obtain ⟨t, ht, e⟩ := List.mem_map.1 hy
    rcases List.mem_append.1 hx with hx | hx
    · obtain ⟨id, _, h⟩ := List.mem_flatMap.1 hx
      have := (edI_mem h).2.2.1
      rw [← e] at this
      simp at this
    · obtain ⟨s, hs, rfl⟩ := List.mem_map.1 hx
      have := congrArg S62.f2 e
      cases this
theorem sort_prog {fa : List ByteArray} {a : List S47} {fb : List ByteArray} {b : List S47} (hfa : fa.Nodup) (hfb : fb.Nodup) : sortL cmp62 (progD fa a fb b) = specD fa a fb b := by
  have hs := strict62 (specD_strict fa a fb b)
  have hp : (progD fa a fb b).Perm (specD fa a fb b) := (List.perm_ext_iff_of_nodup (progD_nodup hfa hfb) (hs.nodup isCmp_62)).2 fun e => by rw [mem_progD, mem_specD]
  rw [sortL_of_perm isCmp_62 hp, sortL_of_rises isCmp_62 hs.rises]
theorem strict_cmp {l : List S62} (h : l.Pairwise fun x y => cmpE x y = -1) {x y : S62} (hx : x ∈ l) (hy : y ∈ l) : cmpE x y = cmp62 x y := by
  obtain ⟨i, hi, rfl⟩ := List.mem_iff_getElem.1 hx
  obtain ⟨j, hj, rfl⟩ := List.mem_iff_getElem.1 hy
  have key := List.pairwise_iff_getElem.1 h
  rcases Nat.lt_trichotomy i j with h1 | h1 | h1
  · have := key i j hi hj h1
    rw [this, cmp62_lt this]
  · subst h1
    rw [cmpE_self, isCmp_62.self]
  · have h2 := key j i hj hi h1
    have h3 := isCmp_62.anti l[i] l[j]
    rw [cmp62_lt h2] at h3
    have h4 := (isCmp_pc isCmp_s isCmp_int).anti (keyE l[i]) (keyE l[j])
    have h5 : cmpE l[i] l[j] = - cmpE l[j] l[i] := h4
    rw [h5, h2, h3]
theorem prog_cmp {fa : List ByteArray} {a : List S47} {fb : List ByteArray} {b : List S47} {x y : S62} (hx : x ∈ progD fa a fb b) (hy : y ∈ progD fa a fb b) : cmpE x y = cmp62 x y :=
  strict_cmp (specD_strict fa a fb b) (mem_specD.2 (mem_progD.1 hx)) (mem_specD.2 (mem_progD.1 hy))
end Go.Ab
namespace Go.Ab
open Go.Proofs Sn
set_option maxRecDepth 100000
set_option maxHeartbeats 4000000
noncomputable def cx3 : Cx := ⟨Tryz.prog, look tyT, fun g => memN g [79, 93, 128, 176, 177, 179, 143, 178, 180, 157, 205, 206, 78, 135, 174, 175, 185, 186, 127, 104, 149, 150, 96, 97, 98, 129, 207, 111, 211, 239, 155, 110, 210, 235, 238, 273]⟩
theorem pcall3 {f : Nat} (fn : Func) (hf : cx.P.funcs[f]? = some fn) (hok : okFn fn = true) {args : List AV} {r : AV} (h : funcP cx3 fn args r) : PCall cx.P f args r :=
  funcP_sound (cx := cx3) cx_ok cx_mixed hf (Ent.ok hf hok).2 (Ent.ok hf hok).1 h
theorem acall3 {f : Nat} (fn : Func) (hf : cx.P.funcs[f]? = some fn) (hok : okFn fn = true) {args : List AV} {σ σ' : Sto} {r : AV} (hσ : (σ.all fun p => !isFree (sget σ p.1)) = true) (h : funcA cx3 fn args σ r σ') : ACall cx.P f args σ r σ' :=
  funcA_sound (cx := cx3) cx_ok cx_mixed hf (Ent.ok hf hok).2 (Ent.ok hf hok).1 hσ h
def enc62 (e : S62) : List AV := [.str e.f0, .int .i64 e.f1, .bool e.f2, .str e.f3.f0, .int .i64 e.f3.f1, .str e.f3.f2, .bool e.f3.f3, .int .i64 e.f3.f4, .row 2 (e.f3.f5.map enc29), .row 2 (e.f3.f6.map enc29)]
theorem c94 (x y : S62) : PCall cx.P 94 [.agg (enc62 x), .agg (enc62 y)] (.int .i64 (cmpE x y)) := pcall3 Tryz.f94 (by kernel_rfl) (by kernel_rfl) <| by
  conv => whnf
  conv => whnf
  refine ⟨_, c116 _ _, ?_⟩
  conv => whnf
  conv => whnf
  refine ⟨_, c117 _ _, ?_⟩
  conv => whnf
  conv => whnf
  refine ⟨by simpa using by omega, ?_⟩
  conv => whnf
  conv => whnf
  refine ⟨_, c64_2 _ _, ?_⟩
  conv => whnf
  conv => whnf
  refine ⟨by kernel_rfl, ?_⟩
  conv => whnf
  conv => whnf
  exact .of rfl
theorem c138 (f : List ByteArray) (m : List S47) (id : ByteArray) (hm : m.length ≤ 1048576) : PCall cx.P 138 [encM f m, .str id] (.tup [.agg (enc47 (getI m id)), .bool (hasI m id)]) := pcall3 Tryz.f138 (by kernel_rfl) (by kernel_rfl) <| by
  have h151 := c151 f m id hm
  unfold encM at h151 ⊢
  conv => whnf
  conv => whnf
  refine ⟨_, h151, ?_⟩
  conv => whnf
  conv => whnf
  refine ⟨fun w1 => ?_, fun w1 => ?_⟩
  · replace w1 := of_decide_eq_true w1
    conv => whnf
    have hh : hasI m id = false := decide_eq_false (by omega)
    rw [getI_none hh, hh]
    exact .tup2 (.agg rfl fun j x y hx hy => by
      match j with
      | 0 => cases hx; cases hy; exact .refl
      | 1 => cases hx; cases hy; exact .refl
      | 2 => cases hx; cases hy; exact .refl
      | 3 => cases hx; cases hy; exact .lit rfl
      | 4 => cases hx; cases hy; exact .refl
      | 5 => cases hx; cases hy; exact .nils
      | 6 => cases hx; cases hy; exact .nils
      | j + 7 => simp at hx) (.lit rfl)
  · replace w1 := of_decide_eq_false w1
    have hh : hasI m id = true := decide_eq_true (by omega)
    obtain ⟨i, hi, _, _, hp⟩ := placeOf_lt (show 0 ≤ placeOf m id by omega)
    have hx : m[i]? = some (getI m id) := by unfold getI; rw [hh, hp, Int.toNat_natCast, getD_of hi]; exact List.getElem?_eq_getElem hi
    have hE : (m.map enc47).length = m.length := List.length_map _
    rw [hp]
    conv => whnf
    refine ⟨⟨Int.natCast_nonneg _, by omega⟩, ?_⟩
    conv => whnf
    conv => whnf
    refine ⟨_, map_at hx, ?_⟩
    conv => whnf
    conv => whnf
    rw [hh]
    exact .tup2 .refl (.lit rfl)
theorem c139 (x y : S47) : PCall cx.P 139 [.agg (enc47 x), .agg (enc47 y)] (.bool (sameHd x y)) := pcall3 Tryz.f139 (by kernel_rfl) (by kernel_rfl) <| by
  conv => whnf
  refine ⟨fun w1 => ?_, fun w1 => ?_⟩
  · have e1 : x.f1 = y.f1 := eq_of_beq w1
    conv => whnf
    refine ⟨fun w2 => ?_, fun w2 => ?_⟩
    · have e2 : x.f2 = y.f2 := (sEq_iff _ _).1 w2
      conv => whnf
      exact .of (by unfold sameHd; rw [e1, e2]; simp)
    · have e2 : ¬ x.f2 = y.f2 := fun e => by have h2 := (sEq_iff _ _).2 e; exact absurd (h2.symm.trans w2) (by decide)
      conv => whnf
      exact .lit (by unfold sameHd; rw [e1, show (x.f2.toList == y.f2.toList) = false from by rw [beq_eq_false_iff_ne]; exact fun e => e2 (bs_inj e)]; simp)
  · have e1 : ¬ x.f1 = y.f1 := ne_of_beq w1
    conv => whnf
    exact .lit (by unfold sameHd; rw [show (x.f1 == y.f1) = false from w1]; rfl)
theorem wrapN {n : Nat} (h : n ≤ 1048576) : IntKind.i64.wrap ((n : Int) - IntKind.i64.wrap (0 - ((0 : Nat) : Int))) = n := by
  rw [show IntKind.i64.wrap (0 - ((0 : Nat) : Int)) = 0 from by decide, Int.sub_zero, IntWalk.i64_in _ (by omega)]
def z7 : List AV := [.str ⟨#[]⟩, .int .i64 0, .str ⟨#[]⟩, .lit false, .int .i64 0, .nils, .nils]
theorem c186 (n : Nat) (hn : n ≤ 1048576) : ACall cx.P 186 [.nils, .int .i64 n] [] (.own 7 160 0 0 .opn) [(160, .live (.arr 7 []))] := acall3 Tryz.f186 (by kernel_rfl) (by kernel_rfl) rfl <| by
  conv => whnf
  refine ⟨fun w1 => ?_, fun w1 => ?_⟩
  · have := of_decide_eq_true w1
    omega
  · conv => whnf
    rw [wrapN hn]
    refine ⟨fun w2 => ?_, fun w2 => ?_⟩
    · replace w2 := of_decide_eq_true w2
      conv => whnf
      conv => whnf
      refine ⟨by omega, ?_⟩
      conv => whnf
      conv => whnf
      refine ⟨by simpa using by omega, ?_⟩
      conv => whnf
      conv => whnf
      refine ⟨⟨Int.natCast_nonneg _, by omega⟩, ?_⟩
      conv => whnf
      conv => whnf
      exact .trans (.le (.cons _ _ _ _ _ .opn <| .refl _) (.refl _)) (.cut (.cut (fun i e h => by simp at h) .nil))
    · conv => whnf
      exact .nil rfl rfl (.chg .nil) .here
theorem c137 (A B : List S47) (hA : A.length ≤ 1024) (hB : B.length ≤ 1024) : PCall cx.P 137 [.row 1 [[.row 7 (A.map enc47)], [.row 7 (B.map enc47)]]] (.row 7 ((A ++ B).map enc47)) := pcall3 Tryz.f137 (by kernel_rfl) (by kernel_rfl) <| by
  have eA : (A.map enc47).length = A.length := List.length_map _
  have eB : (B.map enc47).length = B.length := List.length_map _
  conv => whnf
  have k1 : IntKind.i64.wrap (0 + ((A.map enc47).length : Int)) = (A.length : Int) := by rw [IntWalk.i64_in _ (by omega)]; omega
  have k2 : IntKind.i64.wrap ((A.length : Int) + ((B.map enc47).length : Int)) = ((A.length + B.length : Nat) : Int) := by rw [IntWalk.i64_in _ (by omega)]; omega
  have h186 := c186 (A.length + B.length) (by omega)
  refine .inl ⟨[0, 3, 9, 10, 11], 3, ?_⟩
  conv => whnf
  refine ⟨fun w1 => ?_, fun w1 => ?_⟩
  · clear w1
    conv => whnf
    refine ⟨⟨Int.natCast_nonneg _, by show ((0 : Int) < 2); decide⟩, ?_⟩
    conv => whnf
    conv => whnf
    refine ⟨_, rfl, ?_⟩
    conv => whnf
    conv => whnf
    rw [k1]
    refine ⟨fun w2 => ?_, fun w2 => ?_⟩
    · have := of_decide_eq_true w2
      omega
    · clear w2
      conv => whnf
      refine ⟨fun w3 => ?_, fun w3 => ?_⟩
      · clear w3
        conv => whnf
        refine ⟨by simp [IntWalk.i64_in], ?_⟩
        conv => whnf
        conv => whnf
        refine ⟨_, rfl, ?_⟩
        conv => whnf
        conv => whnf
        rw [k2]
        refine ⟨fun w4 => ?_, fun w4 => ?_⟩
        · have := of_decide_eq_true w4
          omega
        · clear w4
          conv => whnf
          refine ⟨fun w5 => ?_, fun w5 => ?_⟩
          · simp [IntWalk.i64_in] at w5
          · conv => whnf
            conv => whnf
            refine ⟨_, _, h186, ?_⟩
            conv => whnf
            conv => whnf
            refine .inl ⟨[6, 25, 26, 27], 3, ?_⟩
            conv => whnf
            refine ⟨fun w6 => ?_, fun w6 => ?_⟩
            · clear w6
              conv => whnf
              refine ⟨⟨Int.natCast_nonneg _, by show ((0 : Int) < 2); decide⟩, ?_⟩
              conv => whnf
              conv => whnf
              refine ⟨_, rfl, ?_⟩
              conv => whnf
              conv => whnf
              refine ⟨⟨rfl, by show (0 + (A.map enc47).length) * 104 ≤ 2 ^ 47; omega⟩, ?_⟩
              conv => whnf
              conv => whnf
              refine ⟨fun w7 => ?_, fun w7 => ?_⟩
              · clear w7
                conv => whnf
                refine ⟨by simp [IntWalk.i64_in], ?_⟩
                conv => whnf
                conv => whnf
                refine ⟨_, rfl, ?_⟩
                conv => whnf
                conv => whnf
                refine ⟨⟨by show 0 + (0 + (A.map enc47).length) = (A.map enc47).length; omega, by show (0 + (A.map enc47).length + (B.map enc47).length) * 104 ≤ 2 ^ 47; omega⟩, ?_⟩
                conv => whnf
                conv => whnf
                refine ⟨fun w8 => ?_, fun w8 => ?_⟩
                · simp [IntWalk.i64_in] at w8
                · conv => whnf
                  conv => whnf
                  refine ⟨by simpa using by omega, ?_⟩
                  conv => whnf
                  conv => whnf
                  exact .of (by rw [List.map_append]; rfl)
              · simp [IntWalk.i64_in] at w7
            · cases w6
      · cases w3
  · cases w1
end Go.Ab
namespace Go.Ab
open Go.Proofs Sn
set_option maxRecDepth 100000
set_option linter.unusedSimpArgs false
set_option linter.unnecessarySimpa false
set_option maxHeartbeats 4000000
theorem z47_sz : Sz47 z47 := ⟨⟨by decide, fun s h => by cases h⟩, by decide, fun s h => by cases h⟩
theorem SzM.getI {f : List ByteArray} {m : List S47} (h : SzM f m) (id : ByteArray) : Sz47 (getI m id) := by
  cases hh : hasI m id with
  | true => exact h.hx _ (getI_mem hh).1
  | false => rw [getI_none hh]; exact z47_sz
theorem bff : (false != false) = false := rfl
theorem btt : (true != true) = false := rfl
theorem bft : (false != true) = true := rfl
theorem btf : (true != false) = true := rfl
theorem c91x (F G M N : List (List AV)) (id : ByteArray) (x y : S47) (p q : Bool) (hx : Sz47 x) (hy : Sz47 y) (ha : PCall cx.P 138 [.agg [.row 1 F, .row 7 M], .str id] (.tup [.agg (enc47 x), .lit p])) (hb : PCall cx.P 138 [.agg [.row 1 G, .row 7 N], .str id] (.tup [.agg (enc47 y), .lit q])) : PCall cx.P 91 [.agg [.row 1 F, .row 7 M], .agg [.row 1 G, .row 7 N], .str id] (.row 10 ((edX p q x y id).map enc62)) := pcall3 Tryz.f91 (by kernel_rfl) (by kernel_rfl) <| by
  have h139 := c139 x y
  have h5 := c140 x.f5 y.f5 hx.1.1 hy.1.1 hx.1.2 hy.1.2
  have h6 := c140 x.f6 y.f6 hx.2.1 hy.2.1 hx.2.2 hy.2.2
  cases p with
  | false =>
    cases q with
    | false =>
      conv => whnf
      conv => whnf
      refine ⟨_, ha, ?_⟩
      conv => whnf
      conv => whnf
      refine ⟨_, hb, ?_⟩
      conv => whnf
      conv => whnf
      refine ⟨fun w1 => ?_, fun w1 => ?_⟩
      · cases w1
      · conv => whnf
        refine ⟨_, h139, ?_⟩
        conv => whnf
        conv => whnf
        refine ⟨fun w2 => ?_, fun w2 => ?_⟩
        · conv => whnf
          refine ⟨by simpa using by omega, ?_⟩
          conv => whnf
          conv => whnf
          refine ⟨by simpa using by omega, ?_⟩
          conv => whnf
          conv => whnf
          refine ⟨by omega, ?_⟩
          conv => whnf
          conv => whnf
          simp only [edX, ed2, ed3, ed4, bff, btt, bft, btf, Bool.true_or, Bool.false_or, Bool.or_false, Bool.or_true, cond_true, cond_false, List.nil_append, List.cons_append, List.append_nil, List.map_cons, List.map_nil, *]
          exact .rows (by repeat (first | exact .nil | refine .cons (by repeat (first | exact .nil | refine .cons (by first | exact .refl | exact .lit rfl | exact .nils) ?_)) ?_))
        · conv => whnf
          simp only [edX, ed2, ed3, ed4, bff, btt, bft, btf, Bool.true_or, Bool.false_or, Bool.or_false, Bool.or_true, cond_true, cond_false, List.nil_append, List.cons_append, List.append_nil, List.map_cons, List.map_nil, *]
          exact .nils
    | true =>
      conv => whnf
      conv => whnf
      refine ⟨_, ha, ?_⟩
      conv => whnf
      conv => whnf
      refine ⟨_, hb, ?_⟩
      conv => whnf
      conv => whnf
      refine ⟨fun w1 => ?_, fun w1 => ?_⟩
      · conv => whnf
        refine ⟨by simpa using by omega, ?_⟩
        conv => whnf
        conv => whnf
        refine ⟨by simpa using by omega, ?_⟩
        conv => whnf
        conv => whnf
        refine ⟨fun w2 => ?_, fun w2 => ?_⟩
        · conv => whnf
          refine ⟨by simpa using by omega, ?_⟩
          conv => whnf
          conv => whnf
          refine ⟨by simpa using by omega, ?_⟩
          conv => whnf
          conv => whnf
          refine ⟨_, h5, ?_⟩
          conv => whnf
          conv => whnf
          refine ⟨fun w3 => ?_, fun w3 => ?_⟩
          · conv => whnf
            refine ⟨by simpa using by omega, ?_⟩
            conv => whnf
            conv => whnf
            refine ⟨by simpa using by omega, ?_⟩
            conv => whnf
            conv => whnf
            refine ⟨_, h6, ?_⟩
            conv => whnf
            conv => whnf
            refine ⟨fun w4 => ?_, fun w4 => ?_⟩
            · conv => whnf
              refine ⟨by simpa using by omega, ?_⟩
              conv => whnf
              conv => whnf
              refine ⟨by simpa using by omega, ?_⟩
              conv => whnf
              conv => whnf
              refine ⟨by simpa using by omega, ?_⟩
              conv => whnf
              conv => whnf
              simp only [edX, ed2, ed3, ed4, bff, btt, bft, btf, Bool.true_or, Bool.false_or, Bool.or_false, Bool.or_true, cond_true, cond_false, List.nil_append, List.cons_append, List.append_nil, List.map_cons, List.map_nil, *]
              exact .rows (by repeat (first | exact .nil | refine .cons (by repeat (first | exact .nil | refine .cons (by first | exact .refl | exact .lit rfl | exact .nils) ?_)) ?_))
            · conv => whnf
              refine ⟨by simpa using by omega, ?_⟩
              conv => whnf
              conv => whnf
              simp only [edX, ed2, ed3, ed4, bff, btt, bft, btf, Bool.true_or, Bool.false_or, Bool.or_false, Bool.or_true, cond_true, cond_false, List.nil_append, List.cons_append, List.append_nil, List.map_cons, List.map_nil, *]
              exact .rows (by repeat (first | exact .nil | refine .cons (by repeat (first | exact .nil | refine .cons (by first | exact .refl | exact .lit rfl | exact .nils) ?_)) ?_))
          · conv => whnf
            refine ⟨_, h6, ?_⟩
            conv => whnf
            conv => whnf
            refine ⟨fun w4 => ?_, fun w4 => ?_⟩
            · conv => whnf
              refine ⟨by simpa using by omega, ?_⟩
              conv => whnf
              conv => whnf
              refine ⟨by simpa using by omega, ?_⟩
              conv => whnf
              conv => whnf
              refine ⟨by simpa using by omega, ?_⟩
              conv => whnf
              conv => whnf
              simp only [edX, ed2, ed3, ed4, bff, btt, bft, btf, Bool.true_or, Bool.false_or, Bool.or_false, Bool.or_true, cond_true, cond_false, List.nil_append, List.cons_append, List.append_nil, List.map_cons, List.map_nil, *]
              exact .rows (by repeat (first | exact .nil | refine .cons (by repeat (first | exact .nil | refine .cons (by first | exact .refl | exact .lit rfl | exact .nils) ?_)) ?_))
            · conv => whnf
              refine ⟨by simpa using by omega, ?_⟩
              conv => whnf
              conv => whnf
              simp only [edX, ed2, ed3, ed4, bff, btt, bft, btf, Bool.true_or, Bool.false_or, Bool.or_false, Bool.or_true, cond_true, cond_false, List.nil_append, List.cons_append, List.append_nil, List.map_cons, List.map_nil, *]
              exact .rows (by repeat (first | exact .nil | refine .cons (by repeat (first | exact .nil | refine .cons (by first | exact .refl | exact .lit rfl | exact .nils) ?_)) ?_))
        · conv => whnf
          refine ⟨_, h5, ?_⟩
          conv => whnf
          conv => whnf
          refine ⟨fun w3 => ?_, fun w3 => ?_⟩
          · conv => whnf
            refine ⟨by simpa using by omega, ?_⟩
            conv => whnf
            conv => whnf
            refine ⟨by simpa using by omega, ?_⟩
            conv => whnf
            conv => whnf
            refine ⟨_, h6, ?_⟩
            conv => whnf
            conv => whnf
            refine ⟨fun w4 => ?_, fun w4 => ?_⟩
            · conv => whnf
              refine ⟨by simpa using by omega, ?_⟩
              conv => whnf
              conv => whnf
              refine ⟨by simpa using by omega, ?_⟩
              conv => whnf
              conv => whnf
              refine ⟨by simpa using by omega, ?_⟩
              conv => whnf
              conv => whnf
              simp only [edX, ed2, ed3, ed4, bff, btt, bft, btf, Bool.true_or, Bool.false_or, Bool.or_false, Bool.or_true, cond_true, cond_false, List.nil_append, List.cons_append, List.append_nil, List.map_cons, List.map_nil, *]
              exact .rows (by repeat (first | exact .nil | refine .cons (by repeat (first | exact .nil | refine .cons (by first | exact .refl | exact .lit rfl | exact .nils) ?_)) ?_))
            · conv => whnf
              refine ⟨by simpa using by omega, ?_⟩
              conv => whnf
              conv => whnf
              simp only [edX, ed2, ed3, ed4, bff, btt, bft, btf, Bool.true_or, Bool.false_or, Bool.or_false, Bool.or_true, cond_true, cond_false, List.nil_append, List.cons_append, List.append_nil, List.map_cons, List.map_nil, *]
              exact .rows (by repeat (first | exact .nil | refine .cons (by repeat (first | exact .nil | refine .cons (by first | exact .refl | exact .lit rfl | exact .nils) ?_)) ?_))
          · conv => whnf
            refine ⟨_, h6, ?_⟩
            conv => whnf
            conv => whnf
            refine ⟨fun w4 => ?_, fun w4 => ?_⟩
            · conv => whnf
              refine ⟨by simpa using by omega, ?_⟩
              conv => whnf
              conv => whnf
              refine ⟨by simpa using by omega, ?_⟩
              conv => whnf
              conv => whnf
              refine ⟨by simpa using by omega, ?_⟩
              conv => whnf
              conv => whnf
              simp only [edX, ed2, ed3, ed4, bff, btt, bft, btf, Bool.true_or, Bool.false_or, Bool.or_false, Bool.or_true, cond_true, cond_false, List.nil_append, List.cons_append, List.append_nil, List.map_cons, List.map_nil, *]
              exact .rows (by repeat (first | exact .nil | refine .cons (by repeat (first | exact .nil | refine .cons (by first | exact .refl | exact .lit rfl | exact .nils) ?_)) ?_))
            · conv => whnf
              refine ⟨by omega, ?_⟩
              conv => whnf
              conv => whnf
              simp only [edX, ed2, ed3, ed4, bff, btt, bft, btf, Bool.true_or, Bool.false_or, Bool.or_false, Bool.or_true, cond_true, cond_false, List.nil_append, List.cons_append, List.append_nil, List.map_cons, List.map_nil, *]
              exact .rows (by repeat (first | exact .nil | refine .cons (by repeat (first | exact .nil | refine .cons (by first | exact .refl | exact .lit rfl | exact .nils) ?_)) ?_))
      · cases w1
  | true =>
    cases q with
    | false =>
      conv => whnf
      conv => whnf
      refine ⟨_, ha, ?_⟩
      conv => whnf
      conv => whnf
      refine ⟨_, hb, ?_⟩
      conv => whnf
      conv => whnf
      refine ⟨fun w1 => ?_, fun w1 => ?_⟩
      · conv => whnf
        refine ⟨by simpa using by omega, ?_⟩
        conv => whnf
        conv => whnf
        refine ⟨by simpa using by omega, ?_⟩
        conv => whnf
        conv => whnf
        refine ⟨by omega, ?_⟩
        conv => whnf
        conv => whnf
        simp only [edX, ed2, ed3, ed4, bff, btt, bft, btf, Bool.true_or, Bool.false_or, Bool.or_false, Bool.or_true, cond_true, cond_false, List.nil_append, List.cons_append, List.append_nil, List.map_cons, List.map_nil, *]
        exact .rows (by repeat (first | exact .nil | refine .cons (by repeat (first | exact .nil | refine .cons (by first | exact .refl | exact .lit rfl | exact .nils) ?_)) ?_))
      · cases w1
    | true =>
      conv => whnf
      conv => whnf
      refine ⟨_, ha, ?_⟩
      conv => whnf
      conv => whnf
      refine ⟨_, hb, ?_⟩
      conv => whnf
      conv => whnf
      refine ⟨fun w1 => ?_, fun w1 => ?_⟩
      · cases w1
      · conv => whnf
        refine ⟨_, h139, ?_⟩
        conv => whnf
        conv => whnf
        refine ⟨fun w2 => ?_, fun w2 => ?_⟩
        · conv => whnf
          refine ⟨by simpa using by omega, ?_⟩
          conv => whnf
          conv => whnf
          refine ⟨by simpa using by omega, ?_⟩
          conv => whnf
          conv => whnf
          refine ⟨fun w3 => ?_, fun w3 => ?_⟩
          · conv => whnf
            refine ⟨by simpa using by omega, ?_⟩
            conv => whnf
            conv => whnf
            refine ⟨by simpa using by omega, ?_⟩
            conv => whnf
            conv => whnf
            refine ⟨_, h5, ?_⟩
            conv => whnf
            conv => whnf
            refine ⟨fun w4 => ?_, fun w4 => ?_⟩
            · conv => whnf
              refine ⟨by simpa using by omega, ?_⟩
              conv => whnf
              conv => whnf
              refine ⟨by simpa using by omega, ?_⟩
              conv => whnf
              conv => whnf
              refine ⟨_, h6, ?_⟩
              conv => whnf
              conv => whnf
              refine ⟨fun w5 => ?_, fun w5 => ?_⟩
              · conv => whnf
                refine ⟨by simpa using by omega, ?_⟩
                conv => whnf
                conv => whnf
                refine ⟨by simpa using by omega, ?_⟩
                conv => whnf
                conv => whnf
                refine ⟨by simpa using by omega, ?_⟩
                conv => whnf
                conv => whnf
                simp only [edX, ed2, ed3, ed4, bff, btt, bft, btf, Bool.true_or, Bool.false_or, Bool.or_false, Bool.or_true, cond_true, cond_false, List.nil_append, List.cons_append, List.append_nil, List.map_cons, List.map_nil, *]
                exact .rows (by repeat (first | exact .nil | refine .cons (by repeat (first | exact .nil | refine .cons (by first | exact .refl | exact .lit rfl | exact .nils) ?_)) ?_))
              · conv => whnf
                refine ⟨by simpa using by omega, ?_⟩
                conv => whnf
                conv => whnf
                simp only [edX, ed2, ed3, ed4, bff, btt, bft, btf, Bool.true_or, Bool.false_or, Bool.or_false, Bool.or_true, cond_true, cond_false, List.nil_append, List.cons_append, List.append_nil, List.map_cons, List.map_nil, *]
                exact .rows (by repeat (first | exact .nil | refine .cons (by repeat (first | exact .nil | refine .cons (by first | exact .refl | exact .lit rfl | exact .nils) ?_)) ?_))
            · conv => whnf
              refine ⟨_, h6, ?_⟩
              conv => whnf
              conv => whnf
              refine ⟨fun w5 => ?_, fun w5 => ?_⟩
              · conv => whnf
                refine ⟨by simpa using by omega, ?_⟩
                conv => whnf
                conv => whnf
                refine ⟨by simpa using by omega, ?_⟩
                conv => whnf
                conv => whnf
                refine ⟨by simpa using by omega, ?_⟩
                conv => whnf
                conv => whnf
                simp only [edX, ed2, ed3, ed4, bff, btt, bft, btf, Bool.true_or, Bool.false_or, Bool.or_false, Bool.or_true, cond_true, cond_false, List.nil_append, List.cons_append, List.append_nil, List.map_cons, List.map_nil, *]
                exact .rows (by repeat (first | exact .nil | refine .cons (by repeat (first | exact .nil | refine .cons (by first | exact .refl | exact .lit rfl | exact .nils) ?_)) ?_))
              · conv => whnf
                refine ⟨by simpa using by omega, ?_⟩
                conv => whnf
                conv => whnf
                simp only [edX, ed2, ed3, ed4, bff, btt, bft, btf, Bool.true_or, Bool.false_or, Bool.or_false, Bool.or_true, cond_true, cond_false, List.nil_append, List.cons_append, List.append_nil, List.map_cons, List.map_nil, *]
                exact .rows (by repeat (first | exact .nil | refine .cons (by repeat (first | exact .nil | refine .cons (by first | exact .refl | exact .lit rfl | exact .nils) ?_)) ?_))
          · conv => whnf
            refine ⟨_, h5, ?_⟩
            conv => whnf
            conv => whnf
            refine ⟨fun w4 => ?_, fun w4 => ?_⟩
            · conv => whnf
              refine ⟨by simpa using by omega, ?_⟩
              conv => whnf
              conv => whnf
              refine ⟨by simpa using by omega, ?_⟩
              conv => whnf
              conv => whnf
              refine ⟨_, h6, ?_⟩
              conv => whnf
              conv => whnf
              refine ⟨fun w5 => ?_, fun w5 => ?_⟩
              · conv => whnf
                refine ⟨by simpa using by omega, ?_⟩
                conv => whnf
                conv => whnf
                refine ⟨by simpa using by omega, ?_⟩
                conv => whnf
                conv => whnf
                refine ⟨by simpa using by omega, ?_⟩
                conv => whnf
                conv => whnf
                simp only [edX, ed2, ed3, ed4, bff, btt, bft, btf, Bool.true_or, Bool.false_or, Bool.or_false, Bool.or_true, cond_true, cond_false, List.nil_append, List.cons_append, List.append_nil, List.map_cons, List.map_nil, *]
                exact .rows (by repeat (first | exact .nil | refine .cons (by repeat (first | exact .nil | refine .cons (by first | exact .refl | exact .lit rfl | exact .nils) ?_)) ?_))
              · conv => whnf
                refine ⟨by simpa using by omega, ?_⟩
                conv => whnf
                conv => whnf
                simp only [edX, ed2, ed3, ed4, bff, btt, bft, btf, Bool.true_or, Bool.false_or, Bool.or_false, Bool.or_true, cond_true, cond_false, List.nil_append, List.cons_append, List.append_nil, List.map_cons, List.map_nil, *]
                exact .rows (by repeat (first | exact .nil | refine .cons (by repeat (first | exact .nil | refine .cons (by first | exact .refl | exact .lit rfl | exact .nils) ?_)) ?_))
            · conv => whnf
              refine ⟨_, h6, ?_⟩
              conv => whnf
              conv => whnf
              refine ⟨fun w5 => ?_, fun w5 => ?_⟩
              · conv => whnf
                refine ⟨by simpa using by omega, ?_⟩
                conv => whnf
                conv => whnf
                refine ⟨by simpa using by omega, ?_⟩
                conv => whnf
                conv => whnf
                refine ⟨by simpa using by omega, ?_⟩
                conv => whnf
                conv => whnf
                simp only [edX, ed2, ed3, ed4, bff, btt, bft, btf, Bool.true_or, Bool.false_or, Bool.or_false, Bool.or_true, cond_true, cond_false, List.nil_append, List.cons_append, List.append_nil, List.map_cons, List.map_nil, *]
                exact .rows (by repeat (first | exact .nil | refine .cons (by repeat (first | exact .nil | refine .cons (by first | exact .refl | exact .lit rfl | exact .nils) ?_)) ?_))
              · conv => whnf
                refine ⟨by omega, ?_⟩
                conv => whnf
                conv => whnf
                simp only [edX, ed2, ed3, ed4, bff, btt, bft, btf, Bool.true_or, Bool.false_or, Bool.or_false, Bool.or_true, cond_true, cond_false, List.nil_append, List.cons_append, List.append_nil, List.map_cons, List.map_nil, *]
                exact .rows (by repeat (first | exact .nil | refine .cons (by repeat (first | exact .nil | refine .cons (by first | exact .refl | exact .lit rfl | exact .nils) ?_)) ?_))
        · conv => whnf
          refine ⟨fun w3 => ?_, fun w3 => ?_⟩
          · conv => whnf
            refine ⟨by simpa using by omega, ?_⟩
            conv => whnf
            conv => whnf
            refine ⟨by simpa using by omega, ?_⟩
            conv => whnf
            conv => whnf
            refine ⟨_, h5, ?_⟩
            conv => whnf
            conv => whnf
            refine ⟨fun w4 => ?_, fun w4 => ?_⟩
            · conv => whnf
              refine ⟨by simpa using by omega, ?_⟩
              conv => whnf
              conv => whnf
              refine ⟨by simpa using by omega, ?_⟩
              conv => whnf
              conv => whnf
              refine ⟨_, h6, ?_⟩
              conv => whnf
              conv => whnf
              refine ⟨fun w5 => ?_, fun w5 => ?_⟩
              · conv => whnf
                refine ⟨by simpa using by omega, ?_⟩
                conv => whnf
                conv => whnf
                refine ⟨by simpa using by omega, ?_⟩
                conv => whnf
                conv => whnf
                refine ⟨by simpa using by omega, ?_⟩
                conv => whnf
                conv => whnf
                simp only [edX, ed2, ed3, ed4, bff, btt, bft, btf, Bool.true_or, Bool.false_or, Bool.or_false, Bool.or_true, cond_true, cond_false, List.nil_append, List.cons_append, List.append_nil, List.map_cons, List.map_nil, *]
                exact .rows (by repeat (first | exact .nil | refine .cons (by repeat (first | exact .nil | refine .cons (by first | exact .refl | exact .lit rfl | exact .nils) ?_)) ?_))
              · conv => whnf
                refine ⟨by simpa using by omega, ?_⟩
                conv => whnf
                conv => whnf
                simp only [edX, ed2, ed3, ed4, bff, btt, bft, btf, Bool.true_or, Bool.false_or, Bool.or_false, Bool.or_true, cond_true, cond_false, List.nil_append, List.cons_append, List.append_nil, List.map_cons, List.map_nil, *]
                exact .rows (by repeat (first | exact .nil | refine .cons (by repeat (first | exact .nil | refine .cons (by first | exact .refl | exact .lit rfl | exact .nils) ?_)) ?_))
            · conv => whnf
              refine ⟨_, h6, ?_⟩
              conv => whnf
              conv => whnf
              refine ⟨fun w5 => ?_, fun w5 => ?_⟩
              · conv => whnf
                refine ⟨by simpa using by omega, ?_⟩
                conv => whnf
                conv => whnf
                refine ⟨by simpa using by omega, ?_⟩
                conv => whnf
                conv => whnf
                refine ⟨by simpa using by omega, ?_⟩
                conv => whnf
                conv => whnf
                simp only [edX, ed2, ed3, ed4, bff, btt, bft, btf, Bool.true_or, Bool.false_or, Bool.or_false, Bool.or_true, cond_true, cond_false, List.nil_append, List.cons_append, List.append_nil, List.map_cons, List.map_nil, *]
                exact .rows (by repeat (first | exact .nil | refine .cons (by repeat (first | exact .nil | refine .cons (by first | exact .refl | exact .lit rfl | exact .nils) ?_)) ?_))
              · conv => whnf
                refine ⟨by omega, ?_⟩
                conv => whnf
                conv => whnf
                simp only [edX, ed2, ed3, ed4, bff, btt, bft, btf, Bool.true_or, Bool.false_or, Bool.or_false, Bool.or_true, cond_true, cond_false, List.nil_append, List.cons_append, List.append_nil, List.map_cons, List.map_nil, *]
                exact .rows (by repeat (first | exact .nil | refine .cons (by repeat (first | exact .nil | refine .cons (by first | exact .refl | exact .lit rfl | exact .nils) ?_)) ?_))
          · conv => whnf
            refine ⟨_, h5, ?_⟩
            conv => whnf
            conv => whnf
            refine ⟨fun w4 => ?_, fun w4 => ?_⟩
            · conv => whnf
              refine ⟨by simpa using by omega, ?_⟩
              conv => whnf
              conv => whnf
              refine ⟨by simpa using by omega, ?_⟩
              conv => whnf
              conv => whnf
              refine ⟨_, h6, ?_⟩
              conv => whnf
              conv => whnf
              refine ⟨fun w5 => ?_, fun w5 => ?_⟩
              · conv => whnf
                refine ⟨by simpa using by omega, ?_⟩
                conv => whnf
                conv => whnf
                refine ⟨by simpa using by omega, ?_⟩
                conv => whnf
                conv => whnf
                refine ⟨by simpa using by omega, ?_⟩
                conv => whnf
                conv => whnf
                simp only [edX, ed2, ed3, ed4, bff, btt, bft, btf, Bool.true_or, Bool.false_or, Bool.or_false, Bool.or_true, cond_true, cond_false, List.nil_append, List.cons_append, List.append_nil, List.map_cons, List.map_nil, *]
                exact .rows (by repeat (first | exact .nil | refine .cons (by repeat (first | exact .nil | refine .cons (by first | exact .refl | exact .lit rfl | exact .nils) ?_)) ?_))
              · conv => whnf
                refine ⟨by omega, ?_⟩
                conv => whnf
                conv => whnf
                simp only [edX, ed2, ed3, ed4, bff, btt, bft, btf, Bool.true_or, Bool.false_or, Bool.or_false, Bool.or_true, cond_true, cond_false, List.nil_append, List.cons_append, List.append_nil, List.map_cons, List.map_nil, *]
                exact .rows (by repeat (first | exact .nil | refine .cons (by repeat (first | exact .nil | refine .cons (by first | exact .refl | exact .lit rfl | exact .nils) ?_)) ?_))
            · conv => whnf
              refine ⟨_, h6, ?_⟩
              conv => whnf
              conv => whnf
              refine ⟨fun w5 => ?_, fun w5 => ?_⟩
              · conv => whnf
                refine ⟨by simpa using by omega, ?_⟩
                conv => whnf
                conv => whnf
                refine ⟨by simpa using by omega, ?_⟩
                conv => whnf
                conv => whnf
                refine ⟨by omega, ?_⟩
                conv => whnf
                conv => whnf
                simp only [edX, ed2, ed3, ed4, bff, btt, bft, btf, Bool.true_or, Bool.false_or, Bool.or_false, Bool.or_true, cond_true, cond_false, List.nil_append, List.cons_append, List.append_nil, List.map_cons, List.map_nil, *]
                exact .rows (by repeat (first | exact .nil | refine .cons (by repeat (first | exact .nil | refine .cons (by first | exact .refl | exact .lit rfl | exact .nils) ?_)) ?_))
              · conv => whnf
                simp only [edX, ed2, ed3, ed4, bff, btt, bft, btf, Bool.true_or, Bool.false_or, Bool.or_false, Bool.or_true, cond_true, cond_false, List.nil_append, List.cons_append, List.append_nil, List.map_cons, List.map_nil, *]
                exact .nils
theorem c91 (fa fb : List ByteArray) (a b : List S47) (ha : SzM fa a) (hb : SzM fb b) (id : ByteArray) : PCall cx.P 91 [encM fa a, encM fb b, .str id] (.row 10 ((edI a b id).map enc62)) :=
  c91x _ _ _ _ id _ _ _ _ (ha.getI id) (hb.getI id) ((c138 fa a id ha.hm).to (.tup2 .refl (.blit rfl))) ((c138 fb b id hb.hm).to (.tup2 .refl (.blit rfl)))
end Go.Ab
namespace Go.Ab
open Go.Proofs Sn
set_option maxRecDepth 100000
set_option linter.unusedSimpArgs false
set_option linter.unnecessarySimpa false
set_option maxHeartbeats 4000000
theorem idsOf_snoc {l : List S47} {x : S47} : idsOf (l ++ [x]) = bif hasS (idsOf l) x.f0 then idsOf l else idsOf l ++ [x.f0] := by
  unfold idsOf
  rw [List.foldl_append]
  rfl
theorem idsOf_len (l : List S47) : ∀ acc : List ByteArray, (l.foldl (fun l x => bif hasS l x.f0 then l else l ++ [x.f0]) acc).length ≤ acc.length + l.length := by
  induction l with
  | nil => intro acc; exact Nat.le_refl _
  | cons x l ih =>
    intro acc
    rw [List.foldl_cons]
    refine Nat.le_trans (ih _) ?_
    cases hasS acc x.f0 <;> simp <;> omega
theorem c90 (fa fb : List ByteArray) (a b : List S47) (ha : a.length ≤ 1024) (hb : b.length ≤ 1024) : PCall cx.P 90 [encM fa a, encM fb b] (.row 1 ((idsOf (a ++ b)).map encT)) := pcall3 Tryz.f90 (by kernel_rfl) (by kernel_rfl) <| by
  have h137 := c137 a b ha hb
  unfold encM
  conv => whnf
  refine ⟨by simpa using by omega, ?_⟩
  conv => whnf
  conv => whnf
  refine ⟨_, h137, ?_⟩
  conv => whnf
  conv => whnf
  have hC0 : (a ++ b).length = a.length + b.length := List.length_append
  generalize a ++ b = C at hC0 ⊢
  have hCE : (C.map enc47).length = C.length := List.length_map _
  refine .inr (.inl ⟨[5, 13, 14, 15], Nat, fun j => ([(5, .own 1 336 0 ((idsOf (C.take j)).map encT).length .opn), (13, .row 7 (C.map enc47)), (14, .int .i64 C.length), (15, .int .i64 j)], [(336, .live (.arr 1 ((idsOf (C.take j)).map encT)))]), fun j => j ≤ C.length, fun j => C.length - j, ?_, fun j hj => ?_⟩)
  · conv => whnf
    refine ⟨0, ?_, Nat.zero_le _⟩
    rw [← hCE]
    exact .nil rfl rfl (.chg <| .same <| .same <| .same .nil) .here
  · have hj : j ≤ C.length := hj
    have hil : (idsOf (C.take j)).length ≤ j := by
      have := idsOf_len (C.take j) []
      rw [List.length_take] at this
      unfold idsOf
      simp at this
      omega
    have hie : ((idsOf (C.take j)).map encT).length = (idsOf (C.take j)).length := List.length_map _
    conv => whnf
    refine ⟨fun w1 => ?_, fun w1 => ?_⟩
    · replace w1 := lti w1
      obtain ⟨x, hx⟩ := at_ex w1
      have h92 := c92 (idsOf (C.take j)) x.f0 (by omega)
      conv => whnf
      refine ⟨⟨Int.natCast_nonneg _, by omega⟩, ?_⟩
      conv => whnf
      conv => whnf
      refine ⟨_, map_at hx, ?_⟩
      conv => whnf
      conv => whnf
      conv => whnf
      refine ⟨by omega, ?_⟩
      conv => whnf
      conv => whnf
      refine ⟨_, h92, ?_⟩
      conv => whnf
      conv => whnf
      refine ⟨fun w2 => ?_, fun w2 => ?_⟩
      · conv => whnf
        refine ⟨by simpa using by omega, ?_⟩
        conv => whnf
        conv => whnf
        refine ⟨by simpa using by omega, ?_⟩
        conv => whnf
        conv => whnf
        refine ⟨j + 1, ?_, w1, by show C.length - (j + 1) < C.length - j; omega⟩
        dsimp only
        rw [snoc_take hx, idsOf_snoc, show hasS (idsOf (C.take j)) x.f0 = false by simpa using w2, up1 w1 (by omega)]
        simp only [cond_false, List.map_append, List.length_append]
        exact .of rfl
      · conv => whnf
        refine ⟨j + 1, ?_, w1, by show C.length - (j + 1) < C.length - j; omega⟩
        dsimp only
        rw [snoc_take hx, idsOf_snoc, show hasS (idsOf (C.take j)) x.f0 = true by simpa using w2, up1 w1 (by omega)]
        exact .of rfl
    · replace w1 := nlti w1
      conv => whnf
      conv => whnf
      refine ⟨by omega, ?_⟩
      conv => whnf
      conv => whnf
      exact .of (by rw [List.drop_zero, List.take_of_length_le (by omega)])
theorem c185 (l : List S29) (hl : l.length ≤ 1048576) : ACall cx.P 185 [.row 2 (l.map enc29)] [] (.own 2 96 0 (l.map enc29).length .opn) [(96, .live (.arr 2 (l.map enc29)))] := acall3 Tryz.f185 (by kernel_rfl) (by kernel_rfl) rfl <| by
  conv => whnf
  refine ⟨fun w1 => ?_, fun w1 => ?_⟩
  · conv => whnf
    rw [w1]
    exact .nil rfl rfl (.chg .nil) .here
  · conv => whnf
    refine ⟨by simpa using by omega, ?_⟩
    conv => whnf
    conv => whnf
    exact .of rfl
theorem c135 (l : List S47) (hl : l.length ≤ 1048576) : ACall cx.P 135 [.row 7 (l.map enc47)] [] (.own 7 96 0 (l.map enc47).length .opn) [(96, .live (.arr 7 (l.map enc47)))] := acall3 Tryz.f135 (by kernel_rfl) (by kernel_rfl) rfl <| by
  conv => whnf
  refine ⟨fun w1 => ?_, fun w1 => ?_⟩
  · conv => whnf
    rw [w1]
    exact .nil rfl rfl (.chg .nil) .here
  · conv => whnf
    refine ⟨by simpa using by omega, ?_⟩
    conv => whnf
    conv => whnf
    exact .of rfl
theorem set_self {α : Type} {l : List α} {i : Nat} {a : α} (h : l[i]? = some a) : l.set i a = l := by
  obtain ⟨h1, h2⟩ := List.getElem?_eq_some_iff.1 h
  subst h2
  exact List.set_getElem_self h1
theorem c136 (l : List S29) (hl : l.length ≤ 1048576) (hz : ∀ x ∈ l, Sz29 x) : PCall cx.P 136 [.row 2 (l.map enc29)] (.row 2 (l.map enc29)) := pcall3 Tryz.f136 (by kernel_rfl) (by kernel_rfl) <| by
  have hE : (l.map enc29).length = l.length := List.length_map _
  conv => whnf
  refine ⟨_, _, c185 l hl, ?_⟩
  conv => whnf
  conv => whnf
  conv => whnf
  refine .inr (.inl ⟨[0, 7, 8, 9], Nat, fun j => ([(0, .own 2 16 0 (l.map enc29).length .opn), (7, .own 2 16 0 (l.map enc29).length .opn), (8, .int .i64 l.length), (9, .int .i64 j)], [(16, .live (.arr 2 (l.map enc29)))]), fun j => j ≤ l.length, fun j => l.length - j, ?_, fun j hj => ?_⟩)
  · conv => whnf
    exact ⟨0, by rw [← hE]; exact .of rfl, Nat.zero_le _⟩
  · have hj : j ≤ l.length := hj
    conv => whnf
    refine ⟨fun w1 => ?_, fun w1 => ?_⟩
    · replace w1 := lti w1
      obtain ⟨x, hx⟩ := at_ex w1
      have hzx := hz x (List.mem_of_getElem? hx)
      conv => whnf
      refine ⟨⟨Int.natCast_nonneg _, by omega⟩, ?_⟩
      conv => whnf
      conv => whnf
      refine ⟨_, map_at0 hx, ?_⟩
      conv => whnf
      conv => whnf
      refine ⟨_, _, c174 _ hzx.1, ?_⟩
      conv => whnf
      conv => whnf
      refine ⟨_, _, c175 _ hzx.2, ?_⟩
      conv => whnf
      conv => whnf
      conv => whnf
      refine ⟨⟨Int.natCast_nonneg _, by omega⟩, ?_⟩
      conv => whnf
      conv => whnf
      refine ⟨by omega, ?_⟩
      conv => whnf
      conv => whnf
      refine ⟨by omega, ?_⟩
      conv => whnf
      conv => whnf
      refine ⟨_, map_at0 hx, ?_⟩
      conv => whnf
      conv => whnf
      refine ⟨by kernel_rfl, ?_⟩
      conv => whnf
      conv => whnf
      refine ⟨j + 1, ?_, w1, by show l.length - (j + 1) < l.length - j; omega⟩
      dsimp only
      rw [up1 w1 (by omega)]
      have hset : (l.map enc29).set (0 + j) (enc29 x) = l.map enc29 := set_self (map_at0 hx)
      refine .of (Prod.ext rfl ?_)
      show [((16 : Nat), SV.live (.arr 2 ((l.map enc29).set (0 + j) (enc29 x))))] = _
      rw [hset]
    · replace w1 := nlti w1
      conv => whnf
      conv => whnf
      refine ⟨by omega, ?_⟩
      conv => whnf
      conv => whnf
      exact .of rfl
theorem c89 (f : List ByteArray) (m : List S47) (h : SzM f m) : PCall cx.P 89 [encM f m] (encM f m) := pcall3 Tryz.f89 (by kernel_rfl) (by kernel_rfl) <| by
  unfold encM
  conv => whnf
  conv => whnf
  refine ⟨_, _, c78 _ h.hf, ?_⟩
  conv => whnf
  conv => whnf
  refine ⟨_, _, c135 _ h.hm, ?_⟩
  conv => whnf
  conv => whnf
  refine ⟨by kernel_rfl, ?_⟩
  conv => whnf
  conv => whnf
  have hE : (m.map enc47).length = m.length := List.length_map _
  have hm := h.hm
  refine .inr (.inl ⟨[1, 2, 14, 15, 16], Nat, fun j => ([(1, .bptr 80 0), (2, .bptr 144 0), (14, .own 7 82 0 (m.map enc47).length .opn), (15, .int .i64 m.length), (16, .int .i64 j)],
    [(144, .live (.box [.nils, .nils])), (82, .live (.arr 7 (m.map enc47))), (81, .live (.arr 1 (f.map encT))), (80, .live (.box [.own 1 81 0 (f.map encT).length .opn, .own 7 82 0 (m.map enc47).length .opn]))]), fun j => j ≤ m.length, fun j => m.length - j, ?_, fun j hj => ?_⟩)
  · conv => whnf
    exact ⟨0, by rw [← hE]; exact .of rfl, Nat.zero_le _⟩
  · have hj : j ≤ m.length := hj
    conv => whnf
    refine ⟨fun w1 => ?_, fun w1 => ?_⟩
    · replace w1 := lti w1
      obtain ⟨x, hx⟩ := at_ex w1
      have hzx := h.hx x (List.mem_of_getElem? hx)
      have h5 := c136 x.f5 hzx.1.1 hzx.1.2
      have h6 := c136 x.f6 hzx.2.1 hzx.2.2
      conv => whnf
      refine ⟨⟨Int.natCast_nonneg _, by omega⟩, ?_⟩
      conv => whnf
      conv => whnf
      refine ⟨_, map_at0 hx, ?_⟩
      conv => whnf
      conv => whnf
      refine ⟨_, h5, ?_⟩
      conv => whnf
      conv => whnf
      refine ⟨_, h6, ?_⟩
      conv => whnf
      conv => whnf
      conv => whnf
      refine ⟨⟨Int.natCast_nonneg _, by omega⟩, ?_⟩
      conv => whnf
      conv => whnf
      refine ⟨_, map_at0 hx, ?_⟩
      conv => whnf
      conv => whnf
      refine ⟨⟨Int.natCast_nonneg _, by omega⟩, ?_⟩
      conv => whnf
      conv => whnf
      have hset : (m.map enc47).set (0 + j) (enc47 x) = m.map enc47 := set_self (map_at0 hx)
      refine ⟨_, (show ((m.map enc47).set (0 + j) (enc47 x))[0 + j]? = some (enc47 x) by rw [hset]; exact map_at0 hx), ?_⟩
      conv => whnf
      conv => whnf
      conv => whnf
      refine ⟨by kernel_rfl, ?_⟩
      conv => whnf
      conv => whnf
      refine ⟨j + 1, ?_, w1, by show m.length - (j + 1) < m.length - j; omega⟩
      dsimp only
      rw [up1 w1 (by omega)]
      refine .of (Prod.ext rfl ?_)
      show [((144 : Nat), SV.live (.box [.nils, .nils])), (82, .live (.arr 7 (((m.map enc47).set (0 + j) (enc47 x)).set (0 + j) (enc47 x)))), (81, .live (.arr 1 (f.map encT))), (80, .live (.box [.own 1 81 0 (f.map encT).length .opn, .own 7 82 0 (m.map enc47).length .opn]))] = _
      rw [hset, hset]
    · replace w1 := nlti w1
      conv => whnf
      conv => whnf
      refine ⟨by omega, ?_⟩
      conv => whnf
      conv => whnf
      refine ⟨by omega, ?_⟩
      conv => whnf
      conv => whnf
      exact .of rfl
end Go.Ab
namespace Go.Ab
open Go.Proofs Sn
set_option maxRecDepth 100000
set_option linter.unnecessarySimpa false
set_option maxHeartbeats 4000000
theorem c93 (l : List S62) (hl : l.length ≤ 1048576) (h : ∀ x ∈ l, ∀ y ∈ l, cmpE x y = cmp62 x y) : ACall cx.P 93 [.own 10 32 0 (l.map enc62).length .opn, .fn 94 [] []] [(32, .live (.arr 10 (l.map enc62)))] (.tup []) [(32, .live (.arr 10 ((sortL cmp62 l).map enc62)))] :=
  sortK (P := Tryz.prog) Tryz.sortEd Tryz.isAgg62 Tryz.sizeOf62 isCmp_62 (Ent.p Tryz.f93 (by kernel_rfl) (by kernel_rfl)) (Ent.p Tryz.f94 (by kernel_rfl) (by kernel_rfl)) (caps := []) (caps' := []) (by omega) (fun x hx y hy => by rw [← h x hx y hy]; exact c94 x y) rfl (upd1 _ _ _) (fun w X ι blk o h1 h2 => nocap w X ι blk o _ _ _ h1 h2)
noncomputable def dfR (fa : List ByteArray) (a : List S47) (fb : List ByteArray) (b : List S47) : List S62 × Int := bif bP (IsN fa a) && bP (IsN fb b) then (specD fa a fb b, 0) else ([], 7)
theorem edX_len (p q : Bool) (x y : S47) (id : ByteArray) : (edX p q x y id).length ≤ 4 := by
  have h : ∀ (c : Bool) (e : S62), (bif c then [e] else []).length ≤ 1 := fun c e => by cases c <;> simp
  unfold edX ed2 ed3 ed4
  rw [List.length_append]
  cases q with
  | false =>
    have := h ((p != false) || !sameHd x y) ⟨id, 1, false, only id⟩
    show (bif (p != false) || !sameHd x y then [(⟨id, 1, false, only id⟩ : S62)] else []).length + 0 ≤ 4
    omega
  | true =>
    show (bif (p != true) || !sameHd x y then [(⟨id, 1, true, hdPt id y⟩ : S62)] else []).length + (_ ++ (_ ++ _) : List S62).length ≤ 4
    rw [List.length_append, List.length_append]
    have h1 := h ((p != true) || !sameHd x y) ⟨id, 1, true, hdPt id y⟩
    have h2 := h (x.f3 != y.f3) ⟨id, 2, true, ⟨id, 0, ⟨#[]⟩, y.f3, 0, [], []⟩⟩
    have h3 := h (!eqq x.f5 y.f5) ⟨id, 3, true, ⟨id, 0, ⟨#[]⟩, false, 0, y.f5, []⟩⟩
    have h4 := h (!eqq x.f6 y.f6) ⟨id, 4, true, ⟨id, 0, ⟨#[]⟩, false, 0, [], y.f6⟩⟩
    omega
theorem edI_len (a b : List S47) (id : ByteArray) : (edI a b id).length ≤ 4 := edX_len _ _ _ _ _
theorem flat_len (a b : List S47) (I : List ByteArray) : (I.flatMap (edI a b)).length ≤ 4 * I.length := by
  induction I with
  | nil => simp
  | cons i I ih => rw [List.flatMap_cons, List.length_append, List.length_cons]; have := edI_len a b i; omega
theorem c47 (fa fb : List ByteArray) (a b : List S47) (ha : SzM fa a) (hb : SzM fb b) : PCall cx.P 47 [encM fa a, encM fb b] (.tup [.row 10 ((dfR fa a fb b).1.map enc62), .int .i64 (dfR fa a fb b).2]) := pcall3 Tryz.f47 (by kernel_rfl) (by kernel_rfl) <| by
  have h30 := c30 fa a ha
  have h30' := c30 fb b hb
  unfold encM at h30 h30' ⊢
  conv => whnf
  refine ⟨_, h30, ?_⟩
  conv => whnf
  conv => whnf
  refine ⟨fun w1 => ?_, fun w1 => ?_⟩
  · conv => whnf
    exact .trans (.tup2 .nils .refl) (.of (by rw [show dfR fa a fb b = ([], 7) from by unfold dfR; rw [show bP (IsN fa a) = false by simpa using w1]; rfl]; rfl))
  · conv => whnf
    refine ⟨_, h30', ?_⟩
    conv => whnf
    conv => whnf
    refine ⟨fun w2 => ?_, fun w2 => ?_⟩
    · conv => whnf
      exact .trans (.tup2 .nils .refl) (.of (by rw [show dfR fa a fb b = ([], 7) from by unfold dfR; rw [show bP (IsN fb b) = false by simpa using w2, Bool.and_false]; rfl]; rfl))
    · obtain ⟨ra, Fa, rfl, hoa, hna⟩ := bP_iff.1 (show bP (IsN fa a) = true by simpa using w1)
      obtain ⟨rb, Fb, rfl, hob, hnb⟩ := bP_iff.1 (show bP (IsN fb b) = true by simpa using w2)
      have hla : (ra :: Fa).length ≤ 16 := Nat.succ_le_succ hoa.n16
      have hlb : (rb :: Fb).length ≤ 16 := Nat.succ_le_succ hob.n16
      have hfa := hoa.files6
      have hfb := hob.files6
      have h89 := c89 fb _ hb
      have h90 := c90 fa fb (ra :: Fa) (rb :: Fb) (by omega) (by omega)
      unfold encM at h89 h90
      obtain ⟨A, hA⟩ : ∃ A, A = ra :: Fa := ⟨_, rfl⟩
      obtain ⟨B, hB⟩ : ∃ B, B = rb :: Fb := ⟨_, rfl⟩
      rw [← hA] at h90 ha hla ⊢
      rw [← hB] at h90 h89 hb hlb ⊢
      conv => whnf
      refine ⟨_, h89, ?_⟩
      conv => whnf
      conv => whnf
      refine ⟨_, h90, ?_⟩
      conv => whnf
      conv => whnf
      have hI0 : (idsOf (A ++ B)).length ≤ 32 := by
        have h : (idsOf (A ++ B)).length ≤ ([] : List ByteArray).length + (A ++ B).length := idsOf_len (A ++ B) []
        rw [List.length_append, List.length_nil] at h
        omega
      have hIe : ((idsOf (A ++ B)).map encT).length = (idsOf (A ++ B)).length := List.length_map _
      have hprog : progD fa A fb B = (idsOf (A ++ B)).flatMap (edI A B) ++ (fa.filter fun s => !hasS fb s).map (fun s => ⟨s, 5, false, only s⟩) ++ (fb.filter fun s => !hasS fa s).map (fun s => ⟨s, 5, true, only s⟩) := rfl
      have hspec : dfR fa A fb B = (specD fa A fb B, 0) := by unfold dfR; rw [show bP (IsN fa A) = true by rw [hA]; simpa using w1, show bP (IsN fb B) = true by rw [hB]; simpa using w2]; rfl
      have hsort := sort_prog (a := A) (b := B) hoa.fnodup hob.fnodup
      generalize hI : idsOf (A ++ B) = I at hI0 hIe hprog ⊢
      have hL1 : ∀ j, ((I.take j).flatMap (edI A B)).length ≤ 128 := fun j => by
        have := flat_len A B (I.take j)
        rw [List.length_take] at this
        omega
      refine .inr (.inl ⟨[2, 3, 6, 25, 26, 27], Nat, fun j => ([(2, .bptr 144 0), (3, .bptr 208 0), (6, .own 10 400 0 (((I.take j).flatMap (edI A B)).map enc62).length .opn), (25, .row 1 (I.map encT)), (26, .int .i64 I.length), (27, .int .i64 j)],
        [(400, .live (.arr 10 (((I.take j).flatMap (edI A B)).map enc62))), (208, .live (.box [.row 1 (fb.map encT), .row 7 (B.map enc47)])), (144, .live (.box [.row 1 (fa.map encT), .row 7 (A.map enc47)]))]), fun j => j ≤ I.length, fun j => I.length - j, ?_, fun j hj => ?_⟩)
      · conv => whnf
        refine ⟨0, ?_, Nat.zero_le _⟩
        rw [← hIe]
        exact .nil rfl rfl (.same <| .same <| .chg <| .same <| .same <| .same .nil) .here
      · have hj : j ≤ I.length := hj
        have hLe : (((I.take j).flatMap (edI A B)).map enc62).length = ((I.take j).flatMap (edI A B)).length := List.length_map _
        have hLb := hL1 j
        conv => whnf
        refine ⟨fun w3 => ?_, fun w3 => ?_⟩
        · replace w3 := lti w3
          obtain ⟨id, hid⟩ := at_ex w3
          have h91 := c91 fa fb A B ha hb id
          have hed := edI_len A B id
          unfold encM at h91
          conv => whnf
          refine ⟨⟨Int.natCast_nonneg _, by omega⟩, ?_⟩
          conv => whnf
          conv => whnf
          refine ⟨_, map_at hid, ?_⟩
          conv => whnf
          conv => whnf
          refine ⟨_, h91, ?_⟩
          conv => whnf
          conv => whnf
          refine ⟨⟨Nat.zero_add _, by rw [List.length_map, List.length_map]; show (_ + _) * 136 ≤ 2 ^ 47; omega⟩, ?_⟩
          conv => whnf
          conv => whnf
          refine ⟨j + 1, ?_, w3, by show I.length - (j + 1) < I.length - j; omega⟩
          dsimp only
          have hnx : (I.take (j + 1)).flatMap (edI A B) = (I.take j).flatMap (edI A B) ++ edI A B id := by
            rw [snoc_take hid, List.flatMap_append]
            congr 1
            exact List.append_nil _
          rw [hnx, up1 w3 (by omega), List.map_append, List.length_append]
          exact .of rfl
        · replace w3 := nlti w3
          conv => whnf
          have hIj : I.take j = I := List.take_of_length_le (by omega)
          obtain ⟨P, hP⟩ : ∃ P, P = I.flatMap (edI A B) := ⟨_, rfl⟩
          have hPj : (I.take j).flatMap (edI A B) = P := by rw [hIj, hP]
          rw [← hP] at hprog
          rw [hPj] at hLe hLb
          have hfe : (fa.map encT).length = fa.length := List.length_map _
          have hfe' : (fb.map encT).length = fb.length := List.length_map _
          obtain ⟨Z, hZ⟩ : ∃ Z : Nat → List S62, Z = fun j => P ++ ((fa.take j).filter fun s => !hasS fb s).map (fun s => ⟨s, 5, false, only s⟩) := ⟨_, rfl⟩
          have hZl : ∀ j, (Z j).length ≤ 134 := fun j => by
            rw [hZ]
            have h := List.length_filter_le (fun s => !hasS fb s) (fa.take j)
            rw [List.length_take] at h
            show (P ++ _).length ≤ 134
            rw [List.length_append, List.length_map]
            omega
          refine .inr (.inl ⟨[2, 3, 6, 39, 40, 41], Nat, fun j => ([(2, .bptr 144 0), (3, .bptr 208 0), (6, .own 10 400 0 ((Z j).map enc62).length .opn), (39, .row 1 (fa.map encT)), (40, .int .i64 fa.length), (41, .int .i64 j)],
            [(400, .live (.arr 10 ((Z j).map enc62))), (208, .live (.box [.row 1 (fb.map encT), .row 7 (B.map enc47)])), (144, .live (.box [.row 1 (fa.map encT), .row 7 (A.map enc47)]))]), fun j => j ≤ fa.length, fun j => fa.length - j, ?_, fun j hj => ?_⟩)
          · conv => whnf
            refine ⟨0, ?_, Nat.zero_le _⟩
            dsimp only
            rw [hPj, show Z 0 = P from by rw [hZ]; exact List.append_nil _, ← hfe]
            exact .of rfl
          · have hj : j ≤ fa.length := hj
            have hZe : ((Z j).map enc62).length = (Z j).length := List.length_map _
            have hZb := hZl j
            conv => whnf
            refine ⟨fun w4 => ?_, fun w4 => ?_⟩
            · replace w4 := lti w4
              obtain ⟨u, hu⟩ := at_ex w4
              have h92 := c92 fb u (by omega)
              conv => whnf
              refine ⟨⟨Int.natCast_nonneg _, by omega⟩, ?_⟩
              conv => whnf
              conv => whnf
              refine ⟨_, map_at hu, ?_⟩
              conv => whnf
              conv => whnf
              refine ⟨_, h92, ?_⟩
              conv => whnf
              conv => whnf
              conv => whnf
              refine ⟨fun w5 => ?_, fun w5 => ?_⟩
              · conv => whnf
                refine ⟨by simpa using by omega, ?_⟩
                conv => whnf
                conv => whnf
                refine ⟨by simpa using by omega, ?_⟩
                conv => whnf
                conv => whnf
                refine ⟨j + 1, ?_, w4, by show fa.length - (j + 1) < fa.length - j; omega⟩
                dsimp only
                have hnx : Z (j + 1) = Z j ++ [⟨u, 5, false, only u⟩] := by
                  rw [hZ]
                  show P ++ _ = P ++ _ ++ _
                  rw [snoc_take hu, List.filter_append, show [u].filter (fun s => !hasS fb s) = [u] from by rw [List.filter_cons, if_pos (by simpa using w5)]; rfl, List.map_append, List.append_assoc]
                  rfl
                rw [hnx, up1 w4 (by omega), List.map_append, List.length_append]
                exact .le (.refl _) (.cons _ _ _ _ _ (.rows (.app (.refl _) (.cons (by repeat (first | exact .nil | refine .cons (by first | exact .refl | exact .lit rfl | exact .nils) ?_)) .nil))) (.refl _))
              · conv => whnf
                refine ⟨j + 1, ?_, w4, by show fa.length - (j + 1) < fa.length - j; omega⟩
                dsimp only
                have hnx : Z (j + 1) = Z j := by
                  rw [hZ]
                  show P ++ _ = P ++ _
                  rw [snoc_take hu, List.filter_append, show [u].filter (fun s => !hasS fb s) = [] from by rw [List.filter_cons, if_neg (by simpa using w5)]; rfl, List.append_nil]
                rw [hnx, up1 w4 (by omega)]
                exact .of rfl
            · replace w4 := nlti w4
              conv => whnf
              have hPj : Z j = P ++ (fa.filter fun s => !hasS fb s).map (fun s => ⟨s, 5, false, only s⟩) := by rw [hZ]; show P ++ _ = _; rw [List.take_of_length_le (by omega)]
              obtain ⟨Y, hY⟩ : ∃ Y : Nat → List S62, Y = fun k => Z j ++ ((fb.take k).filter fun s => !hasS fa s).map (fun s => ⟨s, 5, true, only s⟩) := ⟨_, rfl⟩
              have hYl : ∀ k, (Y k).length ≤ 140 := fun k => by
                rw [hY]
                have h := List.length_filter_le (fun s => !hasS fa s) (fb.take k)
                rw [List.length_take] at h
                show (Z j ++ _).length ≤ 140
                rw [List.length_append, List.length_map]
                omega
              refine .inr (.inl ⟨[2, 6, 59, 60, 61], Nat, fun k => ([(2, .bptr 144 0), (6, .own 10 400 0 ((Y k).map enc62).length .opn), (59, .row 1 (fb.map encT)), (60, .int .i64 fb.length), (61, .int .i64 k)],
                [(400, .live (.arr 10 ((Y k).map enc62))), (144, .live (.box [.row 1 (fa.map encT), .row 7 (A.map enc47)]))]), fun k => k ≤ fb.length, fun k => fb.length - k, ?_, fun k hk => ?_⟩)
              · conv => whnf
                refine ⟨0, ?_, Nat.zero_le _⟩
                dsimp only
                rw [show Y 0 = Z j from by rw [hY]; exact List.append_nil _, ← hfe']
                exact .of rfl
              · have hk : k ≤ fb.length := hk
                have hYe : ((Y k).map enc62).length = (Y k).length := List.length_map _
                have hYb := hYl k
                conv => whnf
                refine ⟨fun w5 => ?_, fun w5 => ?_⟩
                · replace w5 := lti w5
                  obtain ⟨u, hu⟩ := at_ex w5
                  have h92 := c92 fa u (by omega)
                  conv => whnf
                  refine ⟨⟨Int.natCast_nonneg _, by omega⟩, ?_⟩
                  conv => whnf
                  conv => whnf
                  refine ⟨_, map_at hu, ?_⟩
                  conv => whnf
                  conv => whnf
                  refine ⟨_, h92, ?_⟩
                  conv => whnf
                  conv => whnf
                  refine ⟨fun w6 => ?_, fun w6 => ?_⟩
                  · conv => whnf
                    refine ⟨by simpa using by omega, ?_⟩
                    conv => whnf
                    conv => whnf
                    refine ⟨by simpa using by omega, ?_⟩
                    conv => whnf
                    conv => whnf
                    refine ⟨k + 1, ?_, w5, by show fb.length - (k + 1) < fb.length - k; omega⟩
                    dsimp only
                    have hnx : Y (k + 1) = Y k ++ [⟨u, 5, true, only u⟩] := by
                      rw [hY]
                      show Z j ++ _ = Z j ++ _ ++ _
                      rw [snoc_take hu, List.filter_append, show [u].filter (fun s => !hasS fa s) = [u] from by rw [List.filter_cons, if_pos (by simpa using w6)]; rfl, List.map_append, List.append_assoc]
                      rfl
                    rw [hnx, up1 w5 (by omega), List.map_append, List.length_append]
                    exact .le (.refl _) (.cons _ _ _ _ _ (.rows (.app (.refl _) (.cons (by repeat (first | exact .nil | refine .cons (by first | exact .refl | exact .lit rfl | exact .nils) ?_)) .nil))) (.refl _))
                  · conv => whnf
                    refine ⟨k + 1, ?_, w5, by show fb.length - (k + 1) < fb.length - k; omega⟩
                    dsimp only
                    have hnx : Y (k + 1) = Y k := by
                      rw [hY]
                      show Z j ++ _ = Z j ++ _
                      rw [snoc_take hu, List.filter_append, show [u].filter (fun s => !hasS fa s) = [] from by rw [List.filter_cons, if_neg (by simpa using w6)]; rfl, List.append_nil]
                    rw [hnx, up1 w5 (by omega)]
                    exact .of rfl
                · replace w5 := nlti w5
                  have hYP : Y k = progD fa A fb B := by
                    rw [hprog, ← hPj, hY]
                    show Z j ++ _ = _
                    rw [List.take_of_length_le (by omega)]
                  have h93 := c93 (progD fa A fb B) (by rw [← hYP]; omega) (fun x hx y hy => prog_cmp hx hy)
                  rw [← hYP] at h93
                  conv => whnf
                  refine ⟨_, _, h93, ?_⟩
                  conv => whnf
                  conv => whnf
                  refine ⟨by rw [Nat.zero_add, List.length_map, List.length_map, sortL_length], ?_⟩
                  conv => whnf
                  conv => whnf
                  exact .of (by rw [hspec, List.drop_zero, hYP, hsort])
end Go.Ab
namespace Go.Ab
open Go.Proofs Sn
set_option maxRecDepth 100000
set_option linter.unnecessarySimpa false
set_option maxHeartbeats 4000000
def encP (m : List ByteArray × List S47) : List AV := [.row 1 (m.1.map encT), .row 7 (m.2.map enc47)]
theorem rises_last {T : List ByteArray} {x y : ByteArray} (h : Rises cmpS (T ++ [y] ++ [x])) : x ∈ T ++ [y] ↔ x = y := by
  constructor
  · intro hx
    rcases List.mem_append.1 hx with hx | hx
    · obtain ⟨h1, _, h3⟩ := List.pairwise_append.1 h
      have h4 := (List.pairwise_append.1 h1).2.2 x hx y (List.mem_singleton.2 rfl)
      have h5 := h3 y (List.mem_append.2 (.inr (List.mem_singleton.2 rfl))) x (List.mem_singleton.2 rfl)
      have h6 := isCmp_s.anti x y
      rcases isCmp_s.rng x y with e | e | e
      · rw [e] at h6
        exact absurd (by omega) h5
      · exact (isCmp_s.eq0 x y).1 e
      · exact absurd e h4
    · exact List.mem_singleton.1 hx
  · intro e
    rw [e]
    exact List.mem_append.2 (.inr (List.mem_singleton.2 rfl))
theorem sortD_old {T : List ByteArray} {x : ByteArray} (hx : x ∈ T) : sortD cmpS (T ++ [x]) = sortD cmpS T := sortD_of_mem isCmp_s fun a => by
  rw [List.mem_append, List.mem_singleton]
  exact ⟨fun h => h.elim id fun e => e ▸ hx, .inl⟩
theorem sortD_new {T : List ByteArray} {x : ByteArray} (hr : Rises cmpS (T ++ [x])) (hx : x ∉ T) : sortD cmpS (T ++ [x]) = sortD cmpS T ++ [x] := by
  refine strict_eq isCmp_s (sortD_strict isCmp_s _) (List.pairwise_append.2 ⟨sortD_strict isCmp_s _, List.pairwise_singleton .., fun a ha b hb => ?_⟩) fun a => by rw [mem_sortD isCmp_s, List.mem_append, List.mem_append, mem_sortD isCmp_s]
  rw [List.mem_singleton.1 hb]
  have ha := (mem_sortD isCmp_s).1 ha
  have h := (List.pairwise_append.1 hr).2.2 a ha x (List.mem_singleton.2 rfl)
  rcases isCmp_s.rng a x with e | e | e
  · exact e
  · exact absurd ((isCmp_s.eq0 a x).1 e ▸ ha) hx
  · exact absurd e h
theorem rises_take {l : List ByteArray} (h : Rises cmpS l) (n : Nat) : Rises cmpS (l.take n) := List.Pairwise.sublist (List.take_sublist n l) h
theorem c95 (L : List (List ByteArray × List S47)) (hL : L.length ≤ 8) (hm : ∀ m ∈ L, m.1.length ≤ 1024 ∧ m.2.length ≤ 1024) : PCall cx.P 95 [.row 2 (L.map encP)] (.row 1 ((namesOf L).map encT)) := pcall3 Tryz.f95 (by kernel_rfl) (by kernel_rfl) <| by
  have hE : (L.map encP).length = L.length := List.length_map _
  obtain ⟨G, hG⟩ : ∃ G : (List ByteArray × List S47) → List ByteArray, G = fun m => m.1 ++ m.2.map S47.f0 := ⟨_, rfl⟩
  have hGl : ∀ m ∈ L, (G m).length ≤ 2048 := fun m h => by
    rw [hG]
    show (m.1 ++ m.2.map S47.f0).length ≤ 2048
    rw [List.length_append, List.length_map]
    have := hm m h
    omega
  have hFl : ∀ l : List (List ByteArray × List S47), (∀ m ∈ l, m ∈ L) → (l.flatMap G).length ≤ 2048 * l.length := fun l => by
    induction l with
    | nil => intro _; simp
    | cons m l ih =>
      intro h
      rw [List.flatMap_cons, List.length_append, List.length_cons]
      have h1 := hGl m (h m (List.mem_cons_self ..))
      have h2 := ih fun x hx => h x (List.mem_cons_of_mem _ hx)
      omega
  have hTl : ∀ j, ((L.take j).flatMap G).length ≤ 16384 := fun j => by
    have h := hFl (L.take j) fun m h => List.mem_of_mem_take h
    rw [List.length_take] at h
    omega
  conv => whnf
  refine .inr (.inl ⟨[0, 3, 4], Nat, fun j => ([(0, .row 2 (L.map encP)), (3, .own 1 208 0 (((L.take j).flatMap G).map encT).length .opn), (4, .int .i64 j)], [(208, .live (.arr 1 (((L.take j).flatMap G).map encT)))]), fun j => j ≤ L.length, fun j => L.length - j, ?_, fun j hj => ?_⟩)
  · conv => whnf
    exact ⟨0, .nil rfl rfl (.same <| .chg <| .same .nil) .here, Nat.zero_le _⟩
  · have hj : j ≤ L.length := hj
    have hTe : (((L.take j).flatMap G).map encT).length = ((L.take j).flatMap G).length := List.length_map _
    have hTb := hTl j
    conv => whnf
    refine ⟨fun w1 => ?_, fun w1 => ?_⟩
    · replace w1 := ltm w1
      obtain ⟨m, hmj⟩ := at_ex w1
      have hml := hm m (List.mem_of_getElem? hmj)
      have hme : (m.1.map encT).length = m.1.length := List.length_map _
      have hme2 : (m.2.map enc47).length = m.2.length := List.length_map _
      conv => whnf
      refine ⟨⟨Int.natCast_nonneg _, by omega⟩, ?_⟩
      conv => whnf
      conv => whnf
      refine ⟨_, map_at hmj, ?_⟩
      conv => whnf
      conv => whnf
      obtain ⟨Z, hZ⟩ : ∃ Z : Nat → List ByteArray, Z = fun k => (L.take j).flatMap G ++ m.1 ++ (m.2.take k).map S47.f0 := ⟨_, rfl⟩
      have hZb : ∀ k, (Z k).length ≤ 18432 := fun k => by
        rw [hZ]
        show ((L.take j).flatMap G ++ m.1 ++ (m.2.take k).map S47.f0).length ≤ _
        rw [List.length_append, List.length_append, List.length_map, List.length_take]
        omega
      refine ⟨⟨Nat.zero_add _, by show (_ + _) * 16 ≤ 2 ^ 47; omega⟩, ?_⟩
      conv => whnf
      conv => whnf
      refine .inr (.inl ⟨[0, 3, 4, 5], Nat, fun k => ([(0, .row 2 (L.map encP)), (3, .own 1 208 0 ((Z k).map encT).length .opn), (4, .int .i64 j), (5, .int .i64 k)], [(208, .live (.arr 1 ((Z k).map encT)))]), fun k => k ≤ m.2.length, fun k => m.2.length - k, ?_, fun k hk => ?_⟩)
      · conv => whnf
        refine ⟨0, ?_, Nat.zero_le _⟩
        dsimp only
        rw [show Z 0 = (L.take j).flatMap G ++ m.1 from by rw [hZ]; exact List.append_nil _, List.map_append, List.length_append]
        exact .of rfl
      · have hk : k ≤ m.2.length := hk
        have hZe : ((Z k).map encT).length = (Z k).length := List.length_map _
        have hZb := hZb k
        conv => whnf
        refine ⟨⟨Int.natCast_nonneg _, by omega⟩, ?_⟩
        conv => whnf
        conv => whnf
        refine ⟨_, map_at hmj, ?_⟩
        conv => whnf
        conv => whnf
        refine ⟨fun w2 => ?_, fun w2 => ?_⟩
        · replace w2 := ltm w2
          obtain ⟨u, hu⟩ := at_ex w2
          conv => whnf
          refine ⟨⟨Int.natCast_nonneg _, by omega⟩, ?_⟩
          conv => whnf
          conv => whnf
          refine ⟨_, map_at hmj, ?_⟩
          conv => whnf
          conv => whnf
          refine ⟨⟨Int.natCast_nonneg _, by omega⟩, ?_⟩
          conv => whnf
          conv => whnf
          refine ⟨_, map_at hu, ?_⟩
          conv => whnf
          conv => whnf
          refine ⟨by simpa using by omega, ?_⟩
          conv => whnf
          conv => whnf
          refine ⟨by simpa using by omega, ?_⟩
          conv => whnf
          conv => whnf
          conv => whnf
          refine ⟨k + 1, ?_, w2, by show m.2.length - (k + 1) < m.2.length - k; omega⟩
          dsimp only
          have hnx : Z (k + 1) = Z k ++ [u.f0] := by
            rw [hZ]
            show _ ++ (m.2.take (k + 1)).map S47.f0 = _ ++ (m.2.take k).map S47.f0 ++ _
            rw [snoc_take hu, List.map_append, List.append_assoc _ _ [u.f0]]
            rfl
          rw [hnx, up1 w2 (by omega), List.map_append, List.length_append]
          exact .of rfl
        · replace w2 := nltm w2
          conv => whnf
          conv => whnf
          refine ⟨j + 1, ?_, w1, by show L.length - (j + 1) < L.length - j; omega⟩
          dsimp only
          have hnx : (L.take (j + 1)).flatMap G = Z k := by
            rw [hZ]
            show _ = (L.take j).flatMap G ++ m.1 ++ (m.2.take k).map S47.f0
            rw [snoc_take hmj, List.flatMap_append, List.append_assoc, List.take_of_length_le (by omega : m.2.length ≤ k)]
            congr 1
            rw [hG]
            exact List.append_nil _
          rw [hnx, up1 w1 (by omega)]
          exact .of rfl
    · replace w1 := nltm w1
      have hT : (L.take j).flatMap G = L.flatMap G := by rw [List.take_of_length_le (by omega)]
      obtain ⟨S, hS⟩ : ∃ S, S = sortL cmpS ((L.take j).flatMap G) := ⟨_, rfl⟩
      have hSr : Rises cmpS S := by rw [hS]; exact sortL_rises isCmp_s _
      have hSl : S.length ≤ 16384 := by rw [hS, sortL_length]; exact hTb
      have hSe : (S.map encT).length = S.length := List.length_map _
      have hSn : sortD cmpS S = namesOf L := by
        unfold namesOf
        refine sortD_of_mem isCmp_s fun a => ?_
        rw [hS, (sortL_perm _).mem_iff, hT, hG]
      have h81 := c81 ((L.take j).flatMap G) (by omega)
      rw [← hS] at h81
      conv => whnf
      refine ⟨by omega, ?_⟩
      conv => whnf
      conv => whnf
      refine ⟨_, h81, ?_⟩
      conv => whnf
      conv => whnf
      refine .inr (.inl ⟨[3, 6, 7], Nat, fun k => ([(3, .row 1 (S.map encT)), (6, .own 1 400 0 ((sortD cmpS (S.take k)).map encT).length .opn), (7, .int .i64 k)], [(400, .live (.arr 1 ((sortD cmpS (S.take k)).map encT)))]), fun k => k ≤ S.length, fun k => S.length - k, ?_, fun k hk => ?_⟩)
      · conv => whnf
        exact ⟨0, .nil rfl rfl (.same <| .chg <| .same .nil) .here, Nat.zero_le _⟩
      · have hk : k ≤ S.length := hk
        have hDe : ((sortD cmpS (S.take k)).map encT).length = (sortD cmpS (S.take k)).length := List.length_map _
        have hDb : (sortD cmpS (S.take k)).length ≤ k := Nat.le_trans (sortD_length _) (by rw [List.length_take]; omega)
        conv => whnf
        refine ⟨fun w2 => ?_, fun w2 => ?_⟩
        · replace w2 := ltm w2
          obtain ⟨u, hu⟩ := at_ex w2
          rcases k with _ | k
          · have hnx : sortD cmpS (S.take (0 + 1)) = sortD cmpS (S.take 0) ++ [u] := by rw [snoc_take hu]; rfl
            conv => whnf
            conv => whnf
            refine ⟨fun w3 => ?_, fun w3 => ?_⟩
            · replace w3 := of_decide_eq_true w3
              conv => whnf
              refine ⟨by kernel_rfl, ?_⟩
              conv => whnf
              conv => whnf
              refine ⟨⟨Int.natCast_nonneg _, by omega⟩, ?_⟩
              conv => whnf
              conv => whnf
              refine ⟨_, map_at hu, ?_⟩
              conv => whnf
              conv => whnf
              refine ⟨by simpa using by omega, ?_⟩
              conv => whnf
              conv => whnf
              refine ⟨by simp_all, ?_⟩
              conv => whnf
              conv => whnf
              refine ⟨0 + 1, ?_, by omega, by show S.length - (0 + 1) < S.length - 0; omega⟩
              dsimp only
              rw [hnx, List.map_append, List.length_append]
              exact .of rfl
            · cases w3
          · obtain ⟨v, hv⟩ := at_ex (show k < S.length by omega)
            have hT1 : S.take (k + 1) = S.take k ++ [v] := snoc_take hv
            have hT2 : S.take (k + 1 + 1) = S.take k ++ [v] ++ [u] := by rw [snoc_take hu, hT1]
            have hr2 := rises_take hSr (k + 1 + 1)
            rw [hT2] at hr2
            have hlast := rises_last hr2
            have hpv : IntKind.i64.wrap (((k + 1 : Nat) : Int) - 1) = (k : Int) := by rw [IntWalk.i64_in _ (by omega)]; omega
            conv => whnf
            conv => whnf
            refine ⟨fun w3 => ?_, fun w3 => ?_⟩
            · cases w3
            · replace w3 := of_decide_eq_false w3
              conv => whnf
              refine ⟨⟨Int.natCast_nonneg _, by omega⟩, ?_⟩
              conv => whnf
              conv => whnf
              refine ⟨_, map_at hu, ?_⟩
              conv => whnf
              conv => whnf
              refine ⟨by omega, ?_⟩
              conv => whnf
              conv => whnf
              obtain ⟨v4, hv4⟩ := at_ex (show (IntKind.i64.wrap (↑(k + 1) - 1)).toNat < (S).length by omega)
              refine ⟨_, map_at hv4, ?_⟩
              conv => whnf
              conv => whnf
              refine ⟨by kernel_rfl, ?_⟩
              conv => whnf
              conv => whnf
              refine ⟨fun w5 => ?_, fun w5 => ?_⟩
              · replace w5 := seN w5
                conv => whnf
                refine ⟨⟨Int.natCast_nonneg _, by omega⟩, ?_⟩
                conv => whnf
                conv => whnf
                refine ⟨_, map_at hu, ?_⟩
                conv => whnf
                conv => whnf
                refine ⟨by simpa using by omega, ?_⟩
                conv => whnf
                conv => whnf
                refine ⟨by simpa using by omega, ?_⟩
                conv => whnf
                conv => whnf
                refine ⟨k + 1 + 1, ?_, by omega, by show S.length - (k + 1 + 1) < S.length - (k + 1); omega⟩
                dsimp only
                have hvv : v4 = v := by rw [hpv, Int.toNat_natCast, hv] at hv4; exact (Option.some.inj hv4).symm
                have hnx : sortD cmpS (S.take (k + 1 + 1)) = sortD cmpS (S.take (k + 1)) ++ [u] := by
                  rw [hT2, hT1]
                  exact sortD_new hr2 fun h => w5 ((hlast.1 h).trans hvv.symm)
                rw [hnx, up1 w2 (by omega), List.map_append, List.length_append]
                exact .of rfl
              · replace w5 := seY w5
                conv => whnf
                refine ⟨k + 1 + 1, ?_, by omega, by show S.length - (k + 1 + 1) < S.length - (k + 1); omega⟩
                dsimp only
                have hvv : v4 = v := by rw [hpv, Int.toNat_natCast, hv] at hv4; exact (Option.some.inj hv4).symm
                have hnx : sortD cmpS (S.take (k + 1 + 1)) = sortD cmpS (S.take (k + 1)) := by
                  rw [hT2, hT1]
                  exact sortD_old (hlast.2 (Eq.trans (by simpa using w5) hvv))
                rw [hnx, up1 w2 (by omega)]
                exact .of rfl
        · replace w2 := nltm w2
          conv => whnf
          refine ⟨by omega, ?_⟩
          conv => whnf
          conv => whnf
          exact .of (by rw [List.drop_zero, List.take_of_length_le (by omega), hSn])
end Go.Ab
namespace Go.Ab
open Go.Proofs Sn
set_option maxRecDepth 100000
set_option linter.unnecessarySimpa false
set_option maxHeartbeats 4000000
def partOf (x : S47) (f : Int) : S47 := if f = 1 then hdPt x.f0 x else if f = 2 then ⟨x.f0, 0, ⟨#[]⟩, x.f3, 0, [], []⟩ else if f = 3 then ⟨x.f0, 0, ⟨#[]⟩, false, 0, x.f5, []⟩ else if f = 4 then ⟨x.f0, 0, ⟨#[]⟩, false, 0, [], x.f6⟩ else only x.f0
theorem Le.it {a0 a1 a2 a4 x3 x5 x6 y3 y5 y6 : AV} (h3 : Le x3 y3) (h5 : Le x5 y5) (h6 : Le x6 y6) : Le (.agg [a0, a1, a2, x3, a4, x5, x6]) (.agg [a0, a1, a2, y3, a4, y5, y6]) := .agg rfl fun j x y hx hy => by
  match j with
  | 0 => cases hx; cases hy; exact .refl
  | 1 => cases hx; cases hy; exact .refl
  | 2 => cases hx; cases hy; exact .refl
  | 3 => cases hx; cases hy; exact h3
  | 4 => cases hx; cases hy; exact .refl
  | 5 => cases hx; cases hy; exact h5
  | 6 => cases hx; cases hy; exact h6
  | j + 7 => simp at hx
theorem c57 (x : S47) (f : Int) : PCall cx.P 57 [.agg (enc47 x), .int .i64 f] (.agg (enc47 (partOf x f))) := pcall3 Tryz.f57 (by kernel_rfl) (by kernel_rfl) <| by
  unfold partOf
  conv => whnf
  conv => whnf
  refine ⟨fun w1 => ?_, fun w1 => ?_⟩
  · replace w1 := of_decide_eq_true w1
    conv => whnf
    refine ⟨by kernel_rfl, ?_⟩
    conv => whnf
    conv => whnf
    rw [if_pos w1]; exact .it (.lit rfl) .nils .nils
  · replace w1 := of_decide_eq_false w1
    conv => whnf
    refine ⟨fun w2 => ?_, fun w2 => ?_⟩
    · replace w2 := of_decide_eq_true w2
      conv => whnf
      rw [if_neg w1, if_pos w2]; exact .it .refl .nils .nils
    · replace w2 := of_decide_eq_false w2
      conv => whnf
      refine ⟨fun w3 => ?_, fun w3 => ?_⟩
      · replace w3 := of_decide_eq_true w3
        conv => whnf
        rw [if_neg w1, if_neg w2, if_pos w3]; exact .it (.lit rfl) .refl .nils
      · replace w3 := of_decide_eq_false w3
        conv => whnf
        refine ⟨fun w4 => ?_, fun w4 => ?_⟩
        · replace w4 := of_decide_eq_true w4
          conv => whnf
          rw [if_neg w1, if_neg w2, if_neg w3, if_pos w4]; exact .it (.lit rfl) .nils .refl
        · replace w4 := of_decide_eq_false w4
          conv => whnf
          rw [if_neg w1, if_neg w2, if_neg w3, if_neg w4]; exact .it (.lit rfl) .nils .nils
theorem c56 (f : List ByteArray) (m : List S47) (id : ByteArray) (hm : m.length ≤ 1048576) : PCall cx.P 56 [encM f m, .str id] (.tup [.agg (enc47 (getI m id)), .bool (hasI m id)]) := pcall3 Tryz.f56 (by kernel_rfl) (by kernel_rfl) <| by
  have h151 := c45p f m id (by omega)
  unfold encM at h151 ⊢
  conv => whnf
  refine ⟨_, h151, ?_⟩
  conv => whnf
  conv => whnf
  refine ⟨fun w1 => ?_, fun w1 => ?_⟩
  · replace w1 := of_decide_eq_true w1
    conv => whnf
    have hh : hasI m id = false := decide_eq_false (by omega)
    rw [getI_none hh, hh]
    exact .tup2 (.it (.lit rfl) .nils .nils) (.lit rfl)
  · replace w1 := of_decide_eq_false w1
    have hh : hasI m id = true := decide_eq_true (by omega)
    obtain ⟨i, hi, _, _, hp⟩ := placeOf_lt (show 0 ≤ placeOf m id by omega)
    have hx : m[i]? = some (getI m id) := by unfold getI; rw [hh, hp, Int.toNat_natCast, getD_of hi]; exact List.getElem?_eq_getElem hi
    have hE : (m.map enc47).length = m.length := List.length_map _
    rw [hp]
    conv => whnf
    refine ⟨⟨Int.natCast_nonneg _, by omega⟩, ?_⟩
    conv => whnf
    conv => whnf
    refine ⟨_, map_at hx, ?_⟩
    conv => whnf
    conv => whnf
    rw [hh]
    exact .tup2 .refl (.lit rfl)
noncomputable def edP (x y : S47) (id : ByteArray) (f : Int) : List S62 := bif !eqq (partOf x f) (partOf y f) then [⟨id, f, true, partOf y f⟩] else []
theorem eq_bb {a b : Bool} (h : a = true ↔ b = true) : a = b := Bool.eq_iff_iff.2 h
theorem part_1 {x y : S47} (hi : x.f0 = y.f0) : eqq (partOf x 1) (partOf y 1) = sameHd x y := eq_bb (by
  rw [eqq_iff]
  unfold partOf sameHd hdPt
  rw [if_pos rfl, if_pos rfl, S47.mk.injEq, Bool.and_eq_true, Bool.and_eq_true, beq_iff_eq, beq_iff_eq, beq_iff_eq]
  constructor
  · rintro ⟨_, h1, h2, _, h4, _, _⟩
    exact ⟨h1, by rw [h2], h4⟩
  · rintro ⟨h1, h2, h4⟩
    exact ⟨hi, h1, bs_inj h2, rfl, h4, rfl, rfl⟩)
theorem part_2 {x y : S47} (hi : x.f0 = y.f0) : (!eqq (partOf x 2) (partOf y 2)) = (x.f3 != y.f3) := by
  rw [bne, show eqq (partOf x 2) (partOf y 2) = (x.f3 == y.f3) from eq_bb (by
    rw [eqq_iff, beq_iff_eq]
    show (⟨x.f0, 0, ⟨#[]⟩, x.f3, 0, [], []⟩ : S47) = ⟨y.f0, 0, ⟨#[]⟩, y.f3, 0, [], []⟩ ↔ _
    rw [S47.mk.injEq, hi]
    simp)]
theorem part_3 {x y : S47} (hi : x.f0 = y.f0) : eqq (partOf x 3) (partOf y 3) = eqq x.f5 y.f5 := eq_bb (by
  rw [eqq_iff, eqq_iff]
  show (⟨x.f0, 0, ⟨#[]⟩, false, 0, x.f5, []⟩ : S47) = ⟨y.f0, 0, ⟨#[]⟩, false, 0, y.f5, []⟩ ↔ _
  rw [S47.mk.injEq, hi]
  simp)
theorem part_4 {x y : S47} (hi : x.f0 = y.f0) : eqq (partOf x 4) (partOf y 4) = eqq x.f6 y.f6 := eq_bb (by
  rw [eqq_iff, eqq_iff]
  show (⟨x.f0, 0, ⟨#[]⟩, false, 0, [], x.f6⟩ : S47) = ⟨y.f0, 0, ⟨#[]⟩, false, 0, [], y.f6⟩ ↔ _
  rw [S47.mk.injEq, hi]
  simp)
theorem edP_all {x y : S47} {id : ByteArray} (hx : x.f0 = id) (hy : y.f0 = id) : edP x y id 2 ++ (edP x y id 3 ++ edP x y id 4) = ed2 x y id ++ (ed3 x y id ++ ed4 x y id) := by
  have h := hx.trans hy.symm
  unfold edP ed2 ed3 ed4
  rw [part_2 h, part_3 h, part_4 h]
  rw [show partOf y 2 = ⟨id, 0, ⟨#[]⟩, y.f3, 0, [], []⟩ from by rw [← hy]; rfl, show partOf y 3 = ⟨id, 0, ⟨#[]⟩, false, 0, y.f5, []⟩ from by rw [← hy]; rfl, show partOf y 4 = ⟨id, 0, ⟨#[]⟩, false, 0, [], y.f6⟩ from by rw [← hy]; rfl]
end Go.Ab
namespace Go.Ab
open Go.Proofs Sn
set_option maxRecDepth 100000
set_option linter.unnecessarySimpa false
set_option maxHeartbeats 4000000
theorem funcP_same {fn fn' : Func} {args : List AV} {r : AV} (hb : fn'.body = fn.body) (hr : fn'.results = fn.results) (h : funcP cx fn args r) : funcP cx fn' args r := by
  unfold funcP funcW at *
  rw [hb, hr]
  exact h
theorem c46 (f : List ByteArray) (m : List S47) (h : BgM f m) : PCall cx.P 46 [encM f m] (.bool (decide (400 ≤ totM f m))) := pcall Tryz.f46 (by kernel_rfl) (by kernel_rfl) (funcP_same (by kernel_rfl) (by kernel_rfl) (p29 f m h))
def Sz62 (e : S62) : Prop := Sz47 e.f3
theorem eq62 {x y : S62} (h0 : x.f0 = y.f0) (h1 : x.f1 = y.f1) (h2 : x.f2 = y.f2) : eqq x.f3 y.f3 = eqq x y := by
  rw [Bool.eq_iff_iff, eqq_iff, eqq_iff]
  refine ⟨fun h => ?_, fun h => by rw [h]⟩
  cases x; cases y; simp_all
theorem c49 (a b : List S62) (ha : a.length ≤ 1048576) (hb : b.length ≤ 1048576) (hsa : ∀ s ∈ a, Sz47 s.f3) (hsb : ∀ s ∈ b, Sz47 s.f3) : PCall cx.P 49 [.row 10 (a.map enc62), .row 10 (b.map enc62)] (.bool (eqq a b)) := pcall Tryz.f49 (by kernel_rfl) (by kernel_rfl) <| by
  have hA : (a.map enc62).length = a.length := List.length_map _
  have hB : (b.map enc62).length = b.length := List.length_map _
  conv => whnf
  refine ⟨fun w1 => ?_, fun w1 => ?_⟩
  · replace w1 := ne_of_bne w1
    conv => whnf
    exact .lit (eqq_n fun h => by subst h; omega).symm
  · replace w1 := eq_of_bne w1
    conv => whnf
    refine .inr (.inl ⟨[0, 1, 5], Nat, fun i => ([(0, .row 10 (a.map enc62)), (1, .row 10 (b.map enc62)), (5, .int .i64 i)], []), fun i => i ≤ a.length ∧ ∀ k, k < i → a[k]? = b[k]?, fun i => a.length - i, ?_, fun i hi => ?_⟩)
    · conv => whnf
      exact ⟨0, .of rfl, Nat.zero_le _, rows_0⟩
    · obtain ⟨hi1, hi2⟩ := hi
      conv => whnf
      refine ⟨fun w2 => ?_, fun w2 => ?_⟩
      · replace w2 := ltm w2
        obtain ⟨x, hx⟩ := at_ex w2
        obtain ⟨y, hy⟩ := at_ex (show i < b.length by omega)
        have h58 := c58 x.f3 y.f3 (hsa _ (List.mem_of_getElem? hx)) (hsb _ (List.mem_of_getElem? hy))
        conv => whnf
        refine ⟨⟨Int.natCast_nonneg _, by omega⟩, ?_⟩
        conv => whnf
        conv => whnf
        refine ⟨_, map_at hx, ?_⟩
        conv => whnf
        conv => whnf
        refine ⟨⟨Int.natCast_nonneg _, by omega⟩, ?_⟩
        conv => whnf
        conv => whnf
        refine ⟨_, map_at hy, ?_⟩
        conv => whnf
        conv => whnf
        refine ⟨fun w3 => ?_, fun w3 => ?_⟩
        · replace w3 := seN w3
          conv => whnf
          refine ⟨by kernel_rfl, ?_⟩
          conv => whnf
          conv => whnf
          exact .lit (eqq_n (rows_ne hx hy fun e => w3 (congrArg S62.f0 e))).symm
        · replace w3 := seY w3
          conv => whnf
          refine ⟨⟨Int.natCast_nonneg _, by omega⟩, ?_⟩
          conv => whnf
          conv => whnf
          refine ⟨_, map_at hx, ?_⟩
          conv => whnf
          conv => whnf
          refine ⟨⟨Int.natCast_nonneg _, by omega⟩, ?_⟩
          conv => whnf
          conv => whnf
          refine ⟨_, map_at hy, ?_⟩
          conv => whnf
          conv => whnf
          refine ⟨fun w4 => ?_, fun w4 => ?_⟩
          · replace w4 := ne_of_bne w4
            conv => whnf
            refine ⟨by kernel_rfl, ?_⟩
            conv => whnf
            conv => whnf
            exact .lit (eqq_n (rows_ne hx hy fun e => w4 (congrArg S62.f1 e))).symm
          · replace w4 := eq_of_bne w4
            conv => whnf
            refine ⟨⟨Int.natCast_nonneg _, by omega⟩, ?_⟩
            conv => whnf
            conv => whnf
            refine ⟨_, map_at hx, ?_⟩
            conv => whnf
            conv => whnf
            refine ⟨⟨Int.natCast_nonneg _, by omega⟩, ?_⟩
            conv => whnf
            conv => whnf
            refine ⟨_, map_at hy, ?_⟩
            conv => whnf
            conv => whnf
            refine ⟨fun w5 => ?_, fun w5 => ?_⟩
            · conv => whnf
              refine ⟨by kernel_rfl, ?_⟩
              conv => whnf
              conv => whnf
              exact .lit (eqq_n (rows_ne hx hy fun e => by subst e; simp at w5)).symm
            · conv => whnf
              refine ⟨⟨Int.natCast_nonneg _, by omega⟩, ?_⟩
              conv => whnf
              conv => whnf
              refine ⟨_, map_at hx, ?_⟩
              conv => whnf
              conv => whnf
              refine ⟨⟨Int.natCast_nonneg _, by omega⟩, ?_⟩
              conv => whnf
              conv => whnf
              refine ⟨_, map_at hy, ?_⟩
              conv => whnf
              conv => whnf
              refine ⟨_, h58, ?_⟩
              conv => whnf
              conv => whnf
              refine ⟨by kernel_rfl, ?_⟩
              conv => whnf
              conv => whnf
              refine ⟨fun w6 => ?_, fun w6 => ?_⟩
              · conv => whnf
                exact .lit (eqq_n (rows_ne hx hy fun e => by subst e; rw [eqq_y rfl] at w6; cases w6)).symm
              · conv => whnf
                have he : x = y := eqq_iff.1 (by rw [← eq62 w3 w4 (by simpa using w5)]; simpa using w6)
                exact ⟨i + 1, .of (by rw [up1 w2 (by omega)]), ⟨w2, rows_nx hx hy he hi2⟩, by show a.length - (i + 1) < a.length - i; omega⟩
      · replace w2 := nltm w2
        conv => whnf
        exact .lit (eqq_y (rows_eq (by omega) hi2 w2)).symm
end Go.Ab
namespace Go.Ab
open Go.Proofs Sn
set_option maxRecDepth 100000
set_option linter.unnecessarySimpa false
set_option maxHeartbeats 4000000
def idIt (q : Bool) (x : S47) (id : ByteArray) : S47 := bif q then ⟨id, x.f1, x.f2, x.f3, x.f4, x.f5, x.f6⟩ else x
noncomputable def edU (q : Bool) (x y : S47) (id : ByteArray) : Nat → List S62
  | 0 => []
  | k + 1 => edU q x y id k ++ bif q then edP x y id (2 + (k : Int)) else []
theorem edU_len (q : Bool) (x y : S47) (id : ByteArray) (k : Nat) : (edU q x y id k).length ≤ k := by
  induction k with
  | zero => exact Nat.le_refl _
  | succ k ih =>
    show (edU q x y id k ++ _).length ≤ _
    rw [List.length_append]
    have : (bif q then edP x y id (2 + (k : Int)) else []).length ≤ 1 := by
      cases q with
      | false => simp
      | true => unfold edP; cases eqq (partOf x (2 + (k : Int))) (partOf y (2 + (k : Int))) <;> simp
    omega
theorem edU_3 {q : Bool} {x y : S47} {id : ByteArray} (hx : q = true → x.f0 = id) (hy : q = true → y.f0 = id) : edU q x y id 3 = bif q then ed2 x y id ++ (ed3 x y id ++ ed4 x y id) else [] := by
  cases q with
  | false => rfl
  | true =>
    rw [cond_true, ← edP_all (hx rfl) (hy rfl)]
    show ([] ++ edP x y id (2 + ((0 : Nat) : Int)) ++ edP x y id (2 + ((1 : Nat) : Int))) ++ edP x y id (2 + ((2 : Nat) : Int)) = _
    rw [List.nil_append, List.append_assoc]
    rfl
theorem edU_0 (x y : S47) (id : ByteArray) (k : Nat) : edU false x y id k = [] := by
  induction k with
  | zero => rfl
  | succ k ih => show edU false x y id k ++ [] = []; rw [ih]; rfl
theorem Sz47.part {x : S47} (h : Sz47 x) (f : Int) : Sz47 (partOf x f) := by
  have n : ([] : List S29).length ≤ 1048576 ∧ ∀ s ∈ ([] : List S29), Sz29 s := ⟨by decide, fun s h => by cases h⟩
  unfold partOf
  split
  · exact ⟨n, n⟩
  · split
    · exact ⟨n, n⟩
    · split
      · exact ⟨h.1, n⟩
      · split
        · exact ⟨n, h.2⟩
        · exact ⟨n, n⟩
theorem Sz47.idIt {q : Bool} {x : S47} {id : ByteArray} (h : Sz47 x) : Sz47 (idIt q x id) := by cases q <;> exact h
theorem edF_len (fa fb : List ByteArray) (id : ByteArray) : (edF fa fb id).length ≤ 1 := by
  unfold edF
  cases hasS fa id != hasS fb id <;> simp
theorem c48 (fa fb : List ByteArray) (a b : List S47) (ha : SzM fa a) (hb : SzM fb b) : PCall cx.P 48 [encM fa a, encM fb b] (.tup [.row 10 ((dfR fa a fb b).1.map enc62), .int .i64 (dfR fa a fb b).2]) := pcall3 Tryz.f48 (by kernel_rfl) (by kernel_rfl) <| by
  have h31 := c31 fa a ha
  have h31' := c31 fb b hb
  unfold encM at h31 h31' ⊢
  conv => whnf
  refine ⟨_, h31, ?_⟩
  conv => whnf
  conv => whnf
  refine ⟨fun w1 => ?_, fun w1 => ?_⟩
  · conv => whnf
    exact .trans (.tup2 .nils .refl) (.of (by rw [show dfR fa a fb b = ([], 7) from by unfold dfR; rw [show bP (IsN fa a) = false by simpa using w1]; rfl]; rfl))
  · conv => whnf
    refine ⟨_, h31', ?_⟩
    conv => whnf
    conv => whnf
    refine ⟨fun w2 => ?_, fun w2 => ?_⟩
    · conv => whnf
      exact .trans (.tup2 .nils .refl) (.of (by rw [show dfR fa a fb b = ([], 7) from by unfold dfR; rw [show bP (IsN fb b) = false by simpa using w2, Bool.and_false]; rfl]; rfl))
    · obtain ⟨ra, Fa, rfl, hoa, hna⟩ := bP_iff.1 (show bP (IsN fa a) = true by simpa using w1)
      obtain ⟨rb, Fb, rfl, hob, hnb⟩ := bP_iff.1 (show bP (IsN fb b) = true by simpa using w2)
      have hla : (ra :: Fa).length ≤ 16 := Nat.succ_le_succ hoa.n16
      have hlb : (rb :: Fb).length ≤ 16 := Nat.succ_le_succ hob.n16
      have hfa := hoa.files6
      have hfb := hob.files6
      obtain ⟨A, hA⟩ : ∃ A, A = ra :: Fa := ⟨_, rfl⟩
      obtain ⟨B, hB⟩ : ∃ B, B = rb :: Fb := ⟨_, rfl⟩
      rw [← hA] at ha hla ⊢
      rw [← hB] at hb hlb ⊢
      have hspec : dfR fa A fb B = (specD fa A fb B, 0) := by unfold dfR; rw [show bP (IsN fa A) = true by rw [hA]; simpa using w1, show bP (IsN fb B) = true by rw [hB]; simpa using w2]; rfl
      have h95 := c95 [(fa, A), (fb, B)] (show 2 ≤ 8 by decide) (fun m hm => by
        rcases List.mem_cons.1 hm with rfl | hm
        · exact ⟨(by omega : fa.length ≤ 1024), (by omega : A.length ≤ 1024)⟩
        · rw [List.mem_singleton.1 hm]; exact ⟨(by omega : fb.length ≤ 1024), (by omega : B.length ≤ 1024)⟩)
      have hNl : (namesOf [(fa, A), (fb, B)]).length ≤ 64 := by
        refine Nat.le_trans (sortD_length _) ?_
        simp only [List.flatMap_cons, List.flatMap_nil, List.append_nil, List.length_append, List.length_map]
        omega
      have hsp : specD fa A fb B = (namesOf [(fa, A), (fb, B)]).flatMap fun id => edI A B id ++ edF fa fb id := rfl
      conv => whnf
      refine ⟨by simpa using by omega, ?_⟩
      conv => whnf
      conv => whnf
      refine ⟨_, h95, ?_⟩
      conv => whnf
      conv => whnf
      generalize namesOf [(fa, A), (fb, B)] = N at hNl hsp ⊢
      obtain ⟨Z, hZ⟩ : ∃ Z : Nat → List S62, Z = fun j => (N.take j).flatMap fun id => edI A B id ++ edF fa fb id := ⟨_, rfl⟩
      have hZ0 : Z 0 = [] := by rw [hZ]; rfl
      have hZs : ∀ j id, N[j]? = some id → Z (j + 1) = Z j ++ (edI A B id ++ edF fa fb id) := fun j id h => by
        rw [hZ]
        show List.flatMap _ (N.take (j + 1)) = List.flatMap _ (N.take j) ++ _
        rw [snoc_take h, List.flatMap_append]
        congr 1
        exact List.append_nil _
      have hZl : ∀ j, j ≤ N.length → (Z j).length ≤ 5 * j := fun j => by
        induction j with
        | zero => intro _; rw [hZ0]; exact Nat.zero_le _
        | succ j ih =>
          intro h
          obtain ⟨id, hid⟩ := at_ex (show j < N.length by omega)
          rw [hZs j id hid, List.length_append, List.length_append]
          have := ih (by omega)
          have := edI_len A B id
          have := edF_len fa fb id
          omega
      have hNe : (N.map encT).length = N.length := List.length_map _
      refine .inr (.inl ⟨[2, 3, 6, 7, 8], Nat, fun j => ([(2, .bptr 144 0), (3, .bptr 208 0), (6, .own 10 400 0 ((Z j).map enc62).length .opn), (7, .row 1 (N.map encT)), (8, .int .i64 j)],
        [(400, .live (.arr 10 ((Z j).map enc62))), (208, .live (.box [.row 1 (fb.map encT), .row 7 (B.map enc47)])), (144, .live (.box [.row 1 (fa.map encT), .row 7 (A.map enc47)]))]), fun j => j ≤ N.length, fun j => N.length - j, ?_, fun j hj => ?_⟩)
      · conv => whnf
        refine ⟨0, ?_, Nat.zero_le _⟩
        dsimp only
        rw [hZ0]
        exact .nil rfl rfl (.same <| .same <| .chg <| .same <| .same .nil) .here
      · have hj : j ≤ N.length := hj
        have hZe : ((Z j).map enc62).length = (Z j).length := List.length_map _
        have hZb := hZl j hj
        conv => whnf
        refine ⟨fun w3 => ?_, fun w3 => ?_⟩
        · replace w3 := ltm w3
          obtain ⟨id, hid⟩ := at_ex w3
          have hstep := hZs j id hid
          rw [edI_X] at hstep
          obtain ⟨x, hx⟩ : ∃ x, x = getI A id := ⟨_, rfl⟩
          obtain ⟨y, hy⟩ : ∃ y, y = getI B id := ⟨_, rfl⟩
          obtain ⟨p, hp⟩ : ∃ p, p = hasI A id := ⟨_, rfl⟩
          obtain ⟨q, hq⟩ : ∃ q, q = hasI B id := ⟨_, rfl⟩
          have h56a := (c56 fa A id ha.hm).to (.tup2 .refl (.blit rfl))
          have h56b := (c56 fb B id hb.hm).to (.tup2 .refl (.blit rfl))
          have hzx := ha.getI id
          have hzy := hb.getI id
          have hxz : hasI A id = false → getI A id = z47 := getI_none
          have hxi : hasI A id = true → (getI A id).f0 = id := fun h => (getI_mem h).2
          have hyz : hasI B id = false → getI B id = z47 := getI_none
          have hyi : hasI B id = true → (getI B id).f0 = id := fun h => (getI_mem h).2
          rw [← hx, ← hp] at h56a
          rw [← hy, ← hq] at h56b
          rw [← hx, ← hy, ← hp, ← hq] at hstep
          rw [← hx] at hzx
          rw [← hy] at hzy
          rw [← hx, ← hp] at hxz hxi
          rw [← hy, ← hq] at hyz hyi
          have h73a := c73 fa id (by omega)
          have h73b := c73 fb id (by omega)
          unfold encM at h56a h56b
          clear hx hy hp hq
          conv => whnf
          refine ⟨⟨Int.natCast_nonneg _, by omega⟩, ?_⟩
          conv => whnf
          conv => whnf
          refine ⟨_, map_at hid, ?_⟩
          conv => whnf
          conv => whnf
          refine ⟨_, h56a, ?_⟩
          conv => whnf
          conv => whnf
          refine ⟨by kernel_rfl, ?_⟩
          conv => whnf
          conv => whnf
          refine ⟨⟨Int.natCast_nonneg _, by omega⟩, ?_⟩
          conv => whnf
          conv => whnf
          refine ⟨_, map_at hid, ?_⟩
          conv => whnf
          conv => whnf
          refine ⟨_, h56b, ?_⟩
          conv => whnf
          conv => whnf
          refine ⟨by kernel_rfl, ?_⟩
          conv => whnf
          obtain ⟨E1, hE1⟩ : ∃ E1 : List S62, E1 = bif (p != q) || !sameHd x y then [⟨id, 1, q, bif q then hdPt id y else only id⟩] else [] := ⟨_, rfl⟩
          have hst2 : Z (j + 1) = Z j ++ E1 ++ (bif q then ed2 x y id ++ (ed3 x y id ++ ed4 x y id) else []) ++ edF fa fb id := by
            rw [hstep, hE1]
            unfold edX
            simp only [List.append_assoc]
          cases p <;> cases q
          focus
            conv => whnf
            refine ⟨fun w4 => ?_, fun w4 => ?_⟩
            · cases w4
            conv => whnf
            refine ⟨by kernel_rfl, ?_⟩
            conv => whnf
            conv => whnf
            have hE : E1 = [] := by rw [hE1, hxz rfl, hyz rfl, show sameHd z47 z47 = true from by unfold sameHd; simp]; rfl
            obtain ⟨q0, hq0⟩ : ∃ q0 : Bool, q0 = false := ⟨_, rfl⟩
            rw [← hq0] at hst2
            replace hyi : q0 = true → y.f0 = id := fun h => by rw [hq0] at h; cases h
          rotate_left
          focus
            conv => whnf
            refine ⟨⟨Int.natCast_nonneg _, by omega⟩, ?_⟩
            conv => whnf
            conv => whnf
            refine ⟨_, map_at hid, ?_⟩
            conv => whnf
            conv => whnf
            conv => whnf
            refine ⟨fun w4 => ?_, fun w4 => ?_⟩
            rotate_left
            · cases w4
            conv => whnf
            refine ⟨by kernel_rfl, ?_⟩
            conv => whnf
            conv => whnf
            refine ⟨⟨Int.natCast_nonneg _, by omega⟩, ?_⟩
            conv => whnf
            conv => whnf
            refine ⟨_, map_at hid, ?_⟩
            conv => whnf
            conv => whnf
            refine ⟨⟨Int.natCast_nonneg _, by omega⟩, ?_⟩
            conv => whnf
            conv => whnf
            refine ⟨_, map_at hid, ?_⟩
            conv => whnf
            conv => whnf
            refine ⟨by kernel_rfl, ?_⟩
            conv => whnf
            conv => whnf
            refine ⟨_, c57 y 1, ?_⟩
            conv => whnf
            conv => whnf
            refine ⟨by simpa using by omega, ?_⟩
            conv => whnf
            conv => whnf
            refine ⟨by simpa using by omega, ?_⟩
            conv => whnf
            conv => whnf
            have hE : E1 = [⟨id, 1, true, partOf y 1⟩] := by rw [hE1]; rw [← hyi rfl]; rfl
            obtain ⟨q0, hq0⟩ : ∃ q0 : Bool, q0 = true := ⟨_, rfl⟩
            rw [← hq0] at hst2
            replace hyi : q0 = true → y.f0 = id := fun _ => hyi rfl
          rotate_left
          focus
            conv => whnf
            refine ⟨fun w4 => ?_, fun w4 => ?_⟩
            rotate_left
            · cases w4
            conv => whnf
            refine ⟨by kernel_rfl, ?_⟩
            conv => whnf
            conv => whnf
            refine ⟨⟨Int.natCast_nonneg _, by omega⟩, ?_⟩
            conv => whnf
            conv => whnf
            refine ⟨_, map_at hid, ?_⟩
            conv => whnf
            conv => whnf
            refine ⟨⟨Int.natCast_nonneg _, by omega⟩, ?_⟩
            conv => whnf
            conv => whnf
            refine ⟨_, map_at hid, ?_⟩
            conv => whnf
            conv => whnf
            refine ⟨by kernel_rfl, ?_⟩
            conv => whnf
            conv => whnf
            refine ⟨by simpa using by omega, ?_⟩
            conv => whnf
            conv => whnf
            refine ⟨by simpa using by omega, ?_⟩
            conv => whnf
            conv => whnf
            have hE : E1 = [⟨id, 1, false, only id⟩] := by rw [hE1]; rfl
            obtain ⟨q0, hq0⟩ : ∃ q0 : Bool, q0 = false := ⟨_, rfl⟩
            rw [← hq0] at hst2
            replace hyi : q0 = true → y.f0 = id := fun h => by rw [hq0] at h; cases h
          rotate_left
          focus
            conv => whnf
            refine ⟨⟨Int.natCast_nonneg _, by omega⟩, ?_⟩
            conv => whnf
            conv => whnf
            refine ⟨_, map_at hid, ?_⟩
            conv => whnf
            conv => whnf
            conv => whnf
            refine ⟨fun w4 => ?_, fun w4 => ?_⟩
            · cases w4
            conv => whnf
            refine ⟨_, c57 (idIt true x id) 1, ?_⟩
            conv => whnf
            conv => whnf
            refine ⟨_, c57 y 1, ?_⟩
            conv => whnf
            conv => whnf
            refine ⟨_, c58 _ _ (hzx.idIt.part 1) (hzy.part 1), ?_⟩
            conv => whnf
            conv => whnf
            refine ⟨by kernel_rfl, ?_⟩
            conv => whnf
            conv => whnf
            have hsh : eqq (partOf (idIt true x id) 1) (partOf y 1) = sameHd x y := part_1 (x := idIt true x id) (hyi rfl).symm
            refine ⟨fun w5 => ?_, fun w5 => ?_⟩
            conv => whnf
            refine ⟨⟨Int.natCast_nonneg _, by omega⟩, ?_⟩
            conv => whnf
            conv => whnf
            refine ⟨_, map_at hid, ?_⟩
            conv => whnf
            conv => whnf
            refine ⟨⟨Int.natCast_nonneg _, by omega⟩, ?_⟩
            conv => whnf
            conv => whnf
            refine ⟨_, map_at hid, ?_⟩
            conv => whnf
            conv => whnf
            refine ⟨by kernel_rfl, ?_⟩
            conv => whnf
            conv => whnf
            refine ⟨_, c57 y 1, ?_⟩
            conv => whnf
            conv => whnf
            refine ⟨by simpa using by omega, ?_⟩
            conv => whnf
            conv => whnf
            refine ⟨by simpa using by omega, ?_⟩
            conv => whnf
            conv => whnf
            have hE : E1 = [⟨id, 1, true, partOf y 1⟩] := by rw [hE1, ← hsh, show eqq (partOf (idIt true x id) 1) (partOf y 1) = false by simpa using w5]; rw [← hyi rfl]; rfl
            obtain ⟨q0, hq0⟩ : ∃ q0 : Bool, q0 = true := ⟨_, rfl⟩
            rw [← hq0] at hst2
            replace hyi : q0 = true → y.f0 = id := fun _ => hyi rfl
            rotate_left
            conv => whnf
            have hE : E1 = [] := by rw [hE1, ← hsh, show eqq (partOf (idIt true x id) 1) (partOf y 1) = true by simpa using w5]; rfl
            obtain ⟨q0, hq0⟩ : ∃ q0 : Bool, q0 = true := ⟨_, rfl⟩
            rw [← hq0] at hst2
            replace hyi : q0 = true → y.f0 = id := fun _ => hyi rfl
          all_goals
            clear hE1 hstep
            have hI1 : q0 = true → (idIt q0 x id).f0 = id := fun h => by rw [h]; rfl
            have hE1l : E1.length ≤ 1 := by rw [hE]; simp
            obtain ⟨Y, hY⟩ : ∃ Y : Nat → List S62, Y = fun k => Z j ++ E1 ++ edU q0 (idIt q0 x id) y id k := ⟨_, rfl⟩
            have hY0 : Y 0 = Z j ++ E1 := by rw [hY]; exact List.append_nil _
            have hYs : ∀ k, Y (k + 1) = Y k ++ bif q0 then edP (idIt q0 x id) y id (2 + (k : Int)) else [] := fun k => by rw [hY]; exact (List.append_assoc _ _ _).symm
            have hYl : ∀ k, (Y k).length ≤ 5 * j + 1 + k := fun k => by
              have := edU_len q0 (idIt q0 x id) y id k
              rw [hY]
              show (Z j ++ E1 ++ edU q0 (idIt q0 x id) y id k).length ≤ _
              rw [List.length_append, List.length_append]
              omega
            obtain ⟨V, hV⟩ : ∃ V : List S62, V = Z j ++ E1 ++ (bif q0 then ed2 x y id ++ (ed3 x y id ++ ed4 x y id) else []) := ⟨_, rfl⟩
            have hV3 : Y 3 = V := by
              rw [hV, hY]
              show _ ++ edU q0 (idIt q0 x id) y id 3 = _
              rw [edU_3 hI1 hyi]
              cases q0 <;> rfl
            have hV0 : q0 = false → Y 0 = V := fun h => by rw [hY0, hV, h]; exact (List.append_nil _).symm
            have hVl : V.length ≤ 5 * j + 4 := by rw [← hV3]; have := hYl 3; omega
            have hVe : (V.map enc62).length = V.length := List.length_map _
            have hst3 : Z (j + 1) = V ++ edF fa fb id := by rw [hst2, hV]
            refine .inr (.inr ⟨[2, 3, 6, 7, 8, 9, 11, 12, 14], Nat, fun k => ([(2, .bptr 144 0), (3, .bptr 208 0), (6, .own 10 400 0 ((Y k).map enc62).length .opn), (7, .row 1 (N.map encT)), (8, .int .i64 j), (9, .bptr 592 0), (11, .bptr 720 0), (12, .bool q0), (14, .int .i64 (2 + (k : Int)))],
              [(720, .live (.box (enc47 y))), (592, .live (.box (enc47 (idIt q0 x id)))), (400, .live (.arr 10 ((Y k).map enc62))), (208, .live (.box [.row 1 (fb.map encT), .row 7 (B.map enc47)])), (144, .live (.box [.row 1 (fa.map encT), .row 7 (A.map enc47)]))]), fun k => k ≤ 3 ∧ (q0 = false → k = 0), fun k => 3 - k,
              [2, 3, 6, 7, 8], Unit, fun _ => ([(2, .bptr 144 0), (3, .bptr 208 0), (6, .own 10 400 0 (V.map enc62).length .opn), (7, .row 1 (N.map encT)), (8, .int .i64 j)],
              [(400, .live (.arr 10 (V.map enc62))), (208, .live (.box [.row 1 (fb.map encT), .row 7 (B.map enc47)])), (144, .live (.box [.row 1 (fa.map encT), .row 7 (A.map enc47)]))]), fun e _ => e = 2, ?_, fun k hk => ?_, fun e u he => ?_⟩)
            · conv => whnf
              refine ⟨0, ?_, Nat.zero_le _, fun _ => rfl⟩
              dsimp only
              rw [hY0, hE]
              subst hq0
              first
                | (rw [List.append_nil]; exact .le (.cons _ _ _ _ _ .refl <| .cons _ _ _ _ _ .refl <| .cons _ _ _ _ _ .refl <| .cons _ _ _ _ _ .refl <| .cons _ _ _ _ _ .refl <| .cons _ _ _ _ _ .refl <| .cons _ _ _ _ _ .refl <| .cons _ _ _ _ _ (.lit rfl) <| .refl _) (.refl _))
                | (rw [List.map_append, List.length_append]; exact .le (.cons _ _ _ _ _ .refl <| .cons _ _ _ _ _ .refl <| .cons _ _ _ _ _ .refl <| .cons _ _ _ _ _ .refl <| .cons _ _ _ _ _ .refl <| .cons _ _ _ _ _ .refl <| .cons _ _ _ _ _ .refl <| .cons _ _ _ _ _ (.lit rfl) <| .refl _) (.cons _ _ _ _ _ (.refl _) <| .cons _ _ _ _ _ (.refl _) <| .cons _ _ _ _ _ (.rows (.app (.refl _) (.cons (by repeat (first | exact .nil | refine .cons (by first | exact .refl | exact .lit rfl | exact .nils) ?_)) .nil))) (.refl _)))
            · obtain ⟨hk1, hk2⟩ := hk
              have hYb := hYl k
              have hYe : ((Y k).map enc62).length = (Y k).length := List.length_map _
              have hup : IntKind.i64.wrap (2 + (k : Int) + 1) = 2 + ((k + 1 : Nat) : Int) := by rw [IntWalk.i64_in _ (by omega)]; omega
              conv => whnf
              refine ⟨fun w6 => ?_, fun w6 => ?_⟩
              · replace w6 := of_decide_eq_true w6
                conv => whnf
                refine ⟨fun w7 => ?_, fun w7 => ?_⟩
                · conv => whnf
                  refine ⟨_, c57 (idIt q0 x id) (2 + (k : Int)), ?_⟩
                  conv => whnf
                  conv => whnf
                  refine ⟨_, c57 y (2 + (k : Int)), ?_⟩
                  conv => whnf
                  conv => whnf
                  refine ⟨_, c58 _ _ (hzx.idIt.part _) (hzy.part _), ?_⟩
                  conv => whnf
                  conv => whnf
                  refine ⟨by kernel_rfl, ?_⟩
                  conv => whnf
                  conv => whnf
                  refine ⟨fun w8 => ?_, fun w8 => ?_⟩
                  · conv => whnf
                    refine ⟨⟨Int.natCast_nonneg _, by omega⟩, ?_⟩
                    conv => whnf
                    conv => whnf
                    refine ⟨_, map_at hid, ?_⟩
                    conv => whnf
                    conv => whnf
                    refine ⟨_, c57 y (2 + (k : Int)), ?_⟩
                    conv => whnf
                    conv => whnf
                    refine ⟨by simpa using by omega, ?_⟩
                    conv => whnf
                    conv => whnf
                    refine ⟨by simpa using by omega, ?_⟩
                    conv => whnf
                    conv => whnf
                    refine ⟨by kernel_rfl, ?_⟩
                    conv => whnf
                    conv => whnf
                    refine ⟨k + 1, ?_, ⟨by omega, fun h => by rw [w7] at h; cases h⟩, by show 3 - (k + 1) < 3 - k; omega⟩
                    dsimp only
                    rw [hYs, w7, cond_true, show edP (idIt true x id) y id (2 + (k : Int)) = [⟨id, 2 + (k : Int), true, partOf y (2 + (k : Int))⟩] from by unfold edP; rw [← w7, w8]; rfl, hup, List.map_append, List.length_append]
                    exact .le (.refl _) (.cons _ _ _ _ _ (.refl _) <| .cons _ _ _ _ _ (.refl _) <| .cons _ _ _ _ _ (.rows (.app (.refl _) (.cons (by repeat (first | exact .nil | refine .cons (by first | exact .refl | exact .lit rfl | exact .nils) ?_)) .nil))) (.refl _))
                  · conv => whnf
                    refine ⟨k + 1, ?_, ⟨by omega, fun h => by rw [w7] at h; cases h⟩, by show 3 - (k + 1) < 3 - k; omega⟩
                    dsimp only
                    rw [hYs, w7, cond_true, show edP (idIt true x id) y id (2 + (k : Int)) = [] from by unfold edP; rw [← w7, w8]; rfl, hup, List.append_nil]
                    exact .of rfl
                · conv => whnf
                  refine ⟨(), ?_, rfl⟩
                  rw [← hV0 w7, hk2 w7]
                  exact .of rfl
              · replace w6 := of_decide_eq_false w6
                have hk3 : k = 3 := by omega
                subst hk3
                conv => whnf
                refine ⟨(), ?_, rfl⟩
                rw [← hV3]
                exact .of rfl
            · have he : e = 2 := he
              subst he
              conv => whnf
              refine ⟨⟨Int.natCast_nonneg _, by omega⟩, ?_⟩
              conv => whnf
              conv => whnf
              refine ⟨_, map_at hid, ?_⟩
              conv => whnf
              conv => whnf
              refine ⟨_, h73a, ?_⟩
              conv => whnf
              conv => whnf
              refine ⟨⟨Int.natCast_nonneg _, by omega⟩, ?_⟩
              conv => whnf
              conv => whnf
              refine ⟨_, map_at hid, ?_⟩
              conv => whnf
              conv => whnf
              refine ⟨_, h73b, ?_⟩
              conv => whnf
              conv => whnf
              refine ⟨by kernel_rfl, ?_⟩
              conv => whnf
              conv => whnf
              refine ⟨fun w9 => ?_, fun w9 => ?_⟩
              · conv => whnf
                refine ⟨⟨Int.natCast_nonneg _, by omega⟩, ?_⟩
                conv => whnf
                conv => whnf
                refine ⟨_, map_at hid, ?_⟩
                conv => whnf
                conv => whnf
                refine ⟨⟨Int.natCast_nonneg _, by omega⟩, ?_⟩
                conv => whnf
                conv => whnf
                refine ⟨_, map_at hid, ?_⟩
                conv => whnf
                conv => whnf
                refine ⟨_, h73b, ?_⟩
                conv => whnf
                conv => whnf
                refine ⟨⟨Int.natCast_nonneg _, by omega⟩, ?_⟩
                conv => whnf
                conv => whnf
                refine ⟨_, map_at hid, ?_⟩
                conv => whnf
                conv => whnf
                refine ⟨by simpa using by omega, ?_⟩
                conv => whnf
                conv => whnf
                refine ⟨by simpa using by omega, ?_⟩
                conv => whnf
                conv => whnf
                refine ⟨by kernel_rfl, ?_⟩
                conv => whnf
                conv => whnf
                refine ⟨j + 1, ?_, w3, by show N.length - (j + 1) < N.length - j; omega⟩
                dsimp only
                rw [hst3, show edF fa fb id = [⟨id, 5, hasS fb id, only id⟩] from by unfold edF; rw [w9]; rfl, up1 w3 (by omega), List.map_append, List.length_append]
                exact .le (.refl _) (.cons _ _ _ _ _ (.rows (.app (.refl _) (.cons (by repeat (first | exact .nil | refine .cons (by first | exact .refl | exact .lit rfl | exact .nils) ?_)) .nil))) (.refl _))
              · conv => whnf
                refine ⟨j + 1, ?_, w3, by show N.length - (j + 1) < N.length - j; omega⟩
                dsimp only
                rw [hst3, show edF fa fb id = [] from by unfold edF; rw [w9]; rfl, up1 w3 (by omega), List.append_nil]
                exact .of rfl
        · replace w3 := nltm w3
          conv => whnf
          refine ⟨by omega, ?_⟩
          conv => whnf
          conv => whnf
          have hZj : Z j = specD fa A fb B := by rw [hsp, hZ]; show List.flatMap _ (N.take j) = _; rw [List.take_of_length_le (by omega)]
          exact .of (by rw [hspec, List.drop_zero, hZj])
end Go.Ab
namespace Go.Ab
open Sn
theorem pre_of_perm {l1 l2 : List S47} (hn : (l2.map S47.f0).Nodup) (hp : l1.Perm l2) (f : S47 → S47) : ∀ (k : Nat) (x : S47), pre S47.f0 S47.f2 ordID f l1 k x = pre S47.f0 S47.f2 ordID f l2 k x
  | 0, _ => rfl
  | k + 1, x => by
    show f x :: (ordID (kidsOf S47.f2 l1 x.f0)).flatMap _ = f x :: (ordID (kidsOf S47.f2 l2 x.f0)).flatMap _
    have e : ordID (kidsOf S47.f2 l1 x.f0) = ordID (kidsOf S47.f2 l2 x.f0) := ordID_perm (hn.sublist (List.Sublist.map _ List.filter_sublist)) (hp.filter _)
    rw [e]
    congr 1
    exact flatMap_congr' fun c _ => pre_of_perm hn hp f k c
theorem Ok.root_only {fs : List ByteArray} {r : S47} {F : List S47} (h : Ok fs r F) {y : S47} (hy : y ∈ r :: F) (he : y.f2 = ByteArray.empty) : y = r := by
  obtain ⟨n, _, ha⟩ := h.reach y hy
  cases n with
  | zero => exact ha
  | succ n =>
    obtain ⟨p, hp, e, _⟩ := ha
    have := h.names p hp
    rw [e, he, nameIs_empty] at this
    cases this
theorem IsN.pre {fs : List ByteArray} {r : S47} {F : List S47} (h : Ok fs r F) (ht : turnT ordID nIt r F = F) : pre S47.f0 S47.f2 ordID nIt (r :: F) 20 r = r :: F := by
  rw [turn_pre, norm_root h, ht]
def OrdTo (fs : List ByteArray) (xs : List S47) (f' : List ByteArray) (x' : List S47) : Prop := IsN f' x' ∧ f'.Perm fs ∧ x'.Perm xs
theorem OrdTo.uniq {fs : List ByteArray} {xs : List S47} {f1 f2 : List ByteArray} {x1 x2 : List S47} (h1 : OrdTo fs xs f1 x1) (h2 : OrdTo fs xs f2 x2) : f1 = f2 ∧ x1 = x2 := by
  obtain ⟨⟨r1, F1, rfl, o1, s1, t1⟩, p1, q1⟩ := h1
  obtain ⟨⟨r2, F2, rfl, o2, s2, t2⟩, p2, q2⟩ := h2
  have hq := q1.trans q2.symm
  have hr : r1 = r2 := o2.root_only (hq.mem_iff.1 (List.mem_cons_self ..)) o1.plan.2.1
  subst hr
  exact ⟨s1.symm.trans ((sortL_of_perm isCmp_s (p1.trans p2.symm)).trans s2), (IsN.pre o1 t1).symm.trans ((pre_of_perm o2.nodup hq nIt 20 r1).trans (IsN.pre o2 t2))⟩
theorem OrdTo.self {f : List ByteArray} {m : List S47} (h : IsN f m) : OrdTo f m f m := ⟨h, .refl _, .refl _⟩
abbrev St := List ByteArray × List S47
noncomputable def ordO (s : St) : Option St := @dite _ (∃ p : St, OrdTo s.1 s.2 p.1 p.2) (Classical.propDecidable _) (fun h => some h.choose) (fun _ => none)
theorem ordO_some {s p : St} : ordO s = some p ↔ OrdTo s.1 s.2 p.1 p.2 := by
  unfold ordO
  constructor
  · intro h
    split at h
    · rename_i h'
      cases h
      exact h'.choose_spec
    · cases h
  · intro h
    have hx : ∃ p : St, OrdTo s.1 s.2 p.1 p.2 := ⟨p, h⟩
    rw [dif_pos hx]
    obtain ⟨h1, h2⟩ := hx.choose_spec.uniq h
    exact congrArg some (Prod.ext h1 h2)
theorem ordO_none {s : St} : ordO s = none ↔ ¬ ∃ p : St, OrdTo s.1 s.2 p.1 p.2 := by
  constructor
  · rintro h ⟨p, hp⟩
    rw [ordO_some.2 hp] at h
    cases h
  · intro h
    cases e : ordO s with
    | none => rfl
    | some p => exact absurd ⟨p, ordO_some.1 e⟩ h
def setF (x : S47) (e : S62) : S47 := if e.f1 = 1 then ⟨x.f0, e.f3.f1, e.f3.f2, x.f3, e.f3.f4, x.f5, x.f6⟩ else if e.f1 = 2 then ⟨x.f0, x.f1, x.f2, e.f3.f3, x.f4, x.f5, x.f6⟩ else if e.f1 = 3 then ⟨x.f0, x.f1, x.f2, x.f3, x.f4, e.f3.f5, x.f6⟩ else if e.f1 = 4 then ⟨x.f0, x.f1, x.f2, x.f3, x.f4, x.f5, e.f3.f6⟩ else x
theorem setF_f0 (x : S47) (e : S62) : (setF x e).f0 = x.f0 := by
  unfold setF
  split
  · rfl
  · split
    · rfl
    · split
      · rfl
      · split <;> rfl
def updI (xs : List S47) (e : S62) : List S47 := xs.map fun x => if x.f0 = e.f0 then setF x e else x
def delI (xs : List S47) (d : ByteArray) : List S47 := xs.filter fun x => decide (x.f0 ≠ d)
def delS (fs : List ByteArray) (d : ByteArray) : List ByteArray := fs.filter fun s => decide (s ≠ d)
def oneS (s : St) (e : S62) : Option St :=
  if e.f1 = 5 then (if hasS s.1 e.f0 = e.f2 then none else if e.f2 = true then some (s.1 ++ [e.f0], s.2) else some (delS s.1 e.f0, s.2))
  else if e.f1 = 1 then (if hasI s.2 e.f0 = true then (if e.f2 = true then some (s.1, updI s.2 e) else some (s.1, delI s.2 e.f0)) else (if e.f2 = true then some (s.1, s.2 ++ [setF (only e.f0) e]) else none))
  else if 2 ≤ e.f1 ∧ e.f1 ≤ 4 then (if hasI s.2 e.f0 = true then some (s.1, updI s.2 e) else none)
  else none
def runS : List S62 → St → Option St
  | [], s => some s
  | e :: l, s => match oneS s e with | some t => runS l t | none => none
theorem runS_append (l k : List S62) (s : St) : runS (l ++ k) s = match runS l s with | some t => runS k t | none => none := by
  induction l generalizing s with
  | nil => rfl
  | cons e l ih =>
    show (match oneS s e with | some t => runS (l ++ k) t | none => none) = match (match oneS s e with | some t => runS l t | none => none) with | some t => runS k t | none => none
    cases oneS s e with
    | none => rfl
    | some t => exact ih t
def Nm (x : S47) : Prop := nIt x = x ∧ Small x.f5 ∧ Small x.f6
structure Nice (s : St) : Prop where
  fn : s.1.Nodup
  xn : (s.2.map S47.f0).Nodup
  names : ∀ x ∈ s.2, nameIs x.f0 = true
  nm : ∀ x ∈ s.2, Nm x
def NiceE (e : S62) : Prop := nameIs e.f0 = true ∧ Nm e.f3
theorem Nm.ses {x : S47} (h : Nm x) : nSes x.f5 = x.f5 ∧ nSes x.f6 = x.f6 := ⟨congrArg S47.f5 h.1, congrArg S47.f6 h.1⟩
theorem Nm.of {x : S47} (h5 : nSes x.f5 = x.f5) (h6 : nSes x.f6 = x.f6) (k5 : Small x.f5) (k6 : Small x.f6) : Nm x := ⟨by unfold nIt; rw [h5, h6], k5, k6⟩
theorem small_nil : Small [] := ⟨by decide, fun _ h => by cases h⟩
theorem Nm.only (d : ByteArray) : Nm (only d) := .of rfl rfl small_nil small_nil
theorem Nm.set {x : S47} {e : S62} (h : Nm x) (he : Nm e.f3) : Nm (setF x e) := by
  obtain ⟨a, b⟩ := h.ses
  obtain ⟨c, d⟩ := he.ses
  unfold setF
  split
  · exact .of a b h.2.1 h.2.2
  · split
    · exact .of a b h.2.1 h.2.2
    · split
      · exact .of c b he.2.1 h.2.2
      · split
        · exact .of a d h.2.1 he.2.2
        · exact h
theorem updI_ids (xs : List S47) (e : S62) : (updI xs e).map S47.f0 = xs.map S47.f0 := by
  unfold updI
  rw [List.map_map]
  refine List.map_congr_left fun x _ => ?_
  show (if x.f0 = e.f0 then setF x e else x).f0 = x.f0
  split
  · exact setF_f0 x e
  · rfl
theorem delI_mem {xs : List S47} {d : ByteArray} {x : S47} : x ∈ delI xs d ↔ x ∈ xs ∧ x.f0 ≠ d := by unfold delI; rw [List.mem_filter, decide_eq_true_iff]
theorem delS_mem {fs : List ByteArray} {d x : ByteArray} : x ∈ delS fs d ↔ x ∈ fs ∧ x ≠ d := by unfold delS; rw [List.mem_filter, decide_eq_true_iff]
theorem updI_mem {xs : List S47} {e : S62} {x : S47} : x ∈ updI xs e ↔ ∃ y ∈ xs, (if y.f0 = e.f0 then setF y e else y) = x := by unfold updI; exact List.mem_map
theorem hasI_no {m : List S47} {id : ByteArray} : hasI m id = false ↔ ∀ x ∈ m, x.f0 ≠ id := by
  rw [← Bool.not_eq_true, hasI_iff]
  exact ⟨fun h x hx e => h ⟨x, hx, e⟩, fun h ⟨x, hx, e⟩ => h x hx e⟩
theorem getI_is {m : List S47} (hn : (m.map S47.f0).Nodup) {x : S47} {id : ByteArray} (hx : x ∈ m) (e : x.f0 = id) : getI m id = x := e ▸ getI_of hn hx
theorem hasI_of {m : List S47} {x : S47} {id : ByteArray} (hx : x ∈ m) (e : x.f0 = id) : hasI m id = true := hasI_iff.2 ⟨x, hx, e⟩
theorem nodup_snoc {α : Type} {l : List α} {a : α} (h : l.Nodup) (ha : a ∉ l) : (l ++ [a]).Nodup := List.nodup_append.2 ⟨h, by simp, fun s hs t ht => by rw [List.mem_singleton.1 ht]; exact fun e => ha (e ▸ hs)⟩
theorem Nice.one {s t : St} {e : S62} (h : Nice s) (he : NiceE e) (h1 : oneS s e = some t) : Nice t := by
  have upd : Nice (s.1, updI s.2 e) := ⟨h.fn, by show ((updI s.2 e).map S47.f0).Nodup; rw [updI_ids]; exact h.xn, fun x hx => by
    obtain ⟨y, hy, rfl⟩ := updI_mem.1 hx
    split
    · rw [setF_f0]; exact h.names y hy
    · exact h.names y hy, fun x hx => by
    obtain ⟨y, hy, rfl⟩ := updI_mem.1 hx
    split
    · exact (h.nm y hy).set he.2
    · exact h.nm y hy⟩
  unfold oneS at h1
  split at h1
  · split at h1
    · cases h1
    · rename_i hs
      split at h1
      · rename_i h2
        cases h1
        exact ⟨nodup_snoc h.fn fun hm => hs (by rw [hasS_iff.2 hm, h2]), h.xn, h.names, h.nm⟩
      · cases h1
        exact ⟨h.fn.filter _, h.xn, h.names, h.nm⟩
  · split at h1
    · split at h1
      · split at h1
        · cases h1; exact upd
        · cases h1
          exact ⟨h.fn, h.xn.sublist (List.Sublist.map _ List.filter_sublist), fun x hx => h.names x (delI_mem.1 hx).1, fun x hx => h.nm x (delI_mem.1 hx).1⟩
      · rename_i hh
        split at h1
        · cases h1
          have hn := hasI_no.1 (by simpa using hh : hasI s.2 e.f0 = false)
          have h0 : (setF (only e.f0) e).f0 = e.f0 := setF_f0 _ _
          refine ⟨h.fn, ?_, fun x hx => ?_, fun x hx => ?_⟩
          · show ((s.2 ++ [setF (only e.f0) e]).map S47.f0).Nodup
            rw [List.map_append]
            refine nodup_snoc h.xn fun hm => ?_
            obtain ⟨y, hy, ey⟩ := List.mem_map.1 hm
            exact hn y hy (ey.trans h0)
          · rcases List.mem_append.1 hx with hx | hx
            · exact h.names x hx
            · rw [List.mem_singleton.1 hx, h0]; exact he.1
          · rcases List.mem_append.1 hx with hx | hx
            · exact h.nm x hx
            · rw [List.mem_singleton.1 hx]; exact (Nm.only _).set he.2
        · cases h1
    · split at h1
      · split at h1
        · cases h1; exact upd
        · cases h1
      · cases h1
abbrev Lo := Bool × S47 × Bool
def loc (s : St) (id : ByteArray) : Lo := (hasI s.2 id, getI s.2 id, hasS s.1 id)
def stepL (v : Lo) (e : S62) : Option Lo :=
  if e.f1 = 5 then (if v.2.2 = e.f2 then none else some (v.1, v.2.1, e.f2))
  else if e.f1 = 1 then (if v.1 = true then (if e.f2 = true then some (true, setF v.2.1 e, v.2.2) else some (false, z47, v.2.2)) else (if e.f2 = true then some (true, setF (only e.f0) e, v.2.2) else none))
  else if 2 ≤ e.f1 ∧ e.f1 ≤ 4 then (if v.1 = true then some (true, setF v.2.1 e, v.2.2) else none)
  else none
theorem hasS_no {l : List ByteArray} {s : ByteArray} : hasS l s = false ↔ s ∉ l := by rw [← Bool.not_eq_true, hasS_iff]
theorem bool_of {a b : Bool} (h : a = true ↔ b = true) : a = b := Bool.eq_iff_iff.2 h
theorem loc_upd {s : St} (h : Nice s) (e : S62) (hh : hasI s.2 e.f0 = true) : loc (s.1, updI s.2 e) e.f0 = (true, setF (getI s.2 e.f0) e, hasS s.1 e.f0) ∧ ∀ id, id ≠ e.f0 → loc (s.1, updI s.2 e) id = loc s id := by
  have hn : ((updI s.2 e).map S47.f0).Nodup := by rw [updI_ids]; exact h.xn
  have hid : ∀ id, hasI (updI s.2 e) id = hasI s.2 id := fun id => bool_of (by
    rw [hasI_iff, hasI_iff]
    constructor
    · rintro ⟨x, hx, rfl⟩
      obtain ⟨y, hy, rfl⟩ := updI_mem.1 hx
      refine ⟨y, hy, ?_⟩
      split
      · exact (setF_f0 y e).symm
      · rfl
    · rintro ⟨y, hy, rfl⟩
      refine ⟨_, updI_mem.2 ⟨y, hy, rfl⟩, ?_⟩
      split
      · exact setF_f0 y e
      · rfl)
  obtain ⟨g1, g2⟩ := getI_mem hh
  refine ⟨?_, fun id hne => ?_⟩
  · have e1 : getI (updI s.2 e) e.f0 = setF (getI s.2 e.f0) e := getI_is hn (updI_mem.2 ⟨_, g1, if_pos g2⟩) ((setF_f0 _ _).trans g2)
    show (hasI (updI s.2 e) e.f0, getI (updI s.2 e) e.f0, hasS s.1 e.f0) = _
    rw [hid, hh, e1]
  · show (hasI (updI s.2 e) id, getI (updI s.2 e) id, hasS s.1 id) = (hasI s.2 id, getI s.2 id, hasS s.1 id)
    rw [hid]
    congr 2
    cases hi : hasI s.2 id with
    | false => rw [getI_none hi, getI_none (by rw [hid, hi])]
    | true =>
      obtain ⟨k1, k2⟩ := getI_mem hi
      exact getI_is hn (updI_mem.2 ⟨_, k1, if_neg (by rw [k2]; exact hne)⟩) k2
theorem loc_del {s : St} (h : Nice s) (d : ByteArray) : loc (s.1, delI s.2 d) d = (false, z47, hasS s.1 d) ∧ ∀ id, id ≠ d → loc (s.1, delI s.2 d) id = loc s id := by
  have hn : ((delI s.2 d).map S47.f0).Nodup := h.xn.sublist (List.Sublist.map _ List.filter_sublist)
  have h0 : hasI (delI s.2 d) d = false := hasI_no.2 fun x hx => (delI_mem.1 hx).2
  refine ⟨?_, fun id hne => ?_⟩
  · show (hasI (delI s.2 d) d, getI (delI s.2 d) d, hasS s.1 d) = _
    rw [getI_none h0, h0]
  · have hid : hasI (delI s.2 d) id = hasI s.2 id := bool_of (by
      rw [hasI_iff, hasI_iff]
      exact ⟨fun ⟨x, hx, e⟩ => ⟨x, (delI_mem.1 hx).1, e⟩, fun ⟨x, hx, e⟩ => ⟨x, delI_mem.2 ⟨hx, by rw [e]; exact hne⟩, e⟩⟩)
    show (hasI (delI s.2 d) id, getI (delI s.2 d) id, hasS s.1 id) = (hasI s.2 id, getI s.2 id, hasS s.1 id)
    rw [hid]
    congr 2
    cases hi : hasI s.2 id with
    | false => rw [getI_none hi, getI_none (by rw [hid, hi])]
    | true =>
      obtain ⟨k1, k2⟩ := getI_mem hi
      exact getI_is hn (delI_mem.2 ⟨k1, by rw [k2]; exact hne⟩) k2
theorem loc_add {s : St} (h : Nice s) (y : S47) (hh : hasI s.2 y.f0 = false) : loc (s.1, s.2 ++ [y]) y.f0 = (true, y, hasS s.1 y.f0) ∧ ∀ id, id ≠ y.f0 → loc (s.1, s.2 ++ [y]) id = loc s id := by
  have hno := hasI_no.1 hh
  have hn : ((s.2 ++ [y]).map S47.f0).Nodup := by
    rw [List.map_append]
    refine nodup_snoc h.xn fun hm => ?_
    obtain ⟨x, hx, ex⟩ := List.mem_map.1 hm
    exact hno x hx ex
  have hy : y ∈ s.2 ++ [y] := List.mem_append.2 (.inr (List.mem_singleton.2 rfl))
  refine ⟨?_, fun id hne => ?_⟩
  · show (hasI (s.2 ++ [y]) y.f0, getI (s.2 ++ [y]) y.f0, hasS s.1 y.f0) = _
    rw [getI_is hn hy rfl, hasI_of hy rfl]
  · have hid : hasI (s.2 ++ [y]) id = hasI s.2 id := bool_of (by
      rw [hasI_iff, hasI_iff]
      constructor
      · rintro ⟨x, hx, e⟩
        rcases List.mem_append.1 hx with hx | hx
        · exact ⟨x, hx, e⟩
        · rw [List.mem_singleton.1 hx] at e; exact absurd e.symm hne
      · rintro ⟨x, hx, e⟩
        exact ⟨x, List.mem_append.2 (.inl hx), e⟩)
    show (hasI (s.2 ++ [y]) id, getI (s.2 ++ [y]) id, hasS s.1 id) = (hasI s.2 id, getI s.2 id, hasS s.1 id)
    rw [hid]
    congr 2
    cases hi : hasI s.2 id with
    | false => rw [getI_none hi, getI_none (by rw [hid, hi])]
    | true =>
      obtain ⟨k1, k2⟩ := getI_mem hi
      exact getI_is hn (List.mem_append.2 (.inl k1)) k2
theorem oneS_loc {s : St} (h : Nice s) (e : S62) : (∀ t, oneS s e = some t → stepL (loc s e.f0) e = some (loc t e.f0) ∧ ∀ id, id ≠ e.f0 → loc t id = loc s id) ∧ (oneS s e = none → stepL (loc s e.f0) e = none) := by
  unfold oneS stepL
  by_cases h5 : e.f1 = 5
  · rw [if_pos h5, if_pos h5]
    show (∀ t, _ → (if hasS s.1 e.f0 = e.f2 then none else some (hasI s.2 e.f0, getI s.2 e.f0, e.f2)) = _ ∧ _) ∧ (_ → (if hasS s.1 e.f0 = e.f2 then none else some (hasI s.2 e.f0, getI s.2 e.f0, e.f2)) = none)
    by_cases hs : hasS s.1 e.f0 = e.f2
    · rw [if_pos hs, if_pos hs]
      exact ⟨fun t ht => by (cases ht), fun _ => rfl⟩
    · rw [if_neg hs, if_neg hs]
      by_cases h2 : e.f2 = true
      · rw [if_pos h2]
        refine ⟨fun t ht => ?_, fun ht => by cases ht⟩
        cases ht
        refine ⟨?_, fun id hne => ?_⟩
        · show some (hasI s.2 e.f0, getI s.2 e.f0, e.f2) = some (hasI s.2 e.f0, getI s.2 e.f0, hasS (s.1 ++ [e.f0]) e.f0)
          rw [h2, hasS_iff.2 (List.mem_append.2 (.inr (List.mem_singleton.2 rfl)))]
        · show (hasI s.2 id, getI s.2 id, hasS (s.1 ++ [e.f0]) id) = (hasI s.2 id, getI s.2 id, hasS s.1 id)
          congr 2
          refine bool_of ?_
          rw [hasS_iff, hasS_iff, List.mem_append, List.mem_singleton]
          exact ⟨fun h => h.resolve_right hne, .inl⟩
      · rw [if_neg h2]
        refine ⟨fun t ht => ?_, fun ht => by cases ht⟩
        cases ht
        refine ⟨?_, fun id hne => ?_⟩
        · show some (hasI s.2 e.f0, getI s.2 e.f0, e.f2) = some (hasI s.2 e.f0, getI s.2 e.f0, hasS (delS s.1 e.f0) e.f0)
          rw [show e.f2 = false by simpa using h2, hasS_no.2 fun hm => (delS_mem.1 hm).2 rfl]
        · show (hasI s.2 id, getI s.2 id, hasS (delS s.1 e.f0) id) = (hasI s.2 id, getI s.2 id, hasS s.1 id)
          congr 2
          refine bool_of ?_
          rw [hasS_iff, hasS_iff, delS_mem]
          exact ⟨fun h => h.1, fun h => ⟨h, hne⟩⟩
  · rw [if_neg h5, if_neg h5]
    show (∀ t, _ → (if e.f1 = 1 then (if hasI s.2 e.f0 = true then (if e.f2 = true then some (true, setF (getI s.2 e.f0) e, hasS s.1 e.f0) else some (false, z47, hasS s.1 e.f0)) else (if e.f2 = true then some (true, setF (only e.f0) e, hasS s.1 e.f0) else none)) else if 2 ≤ e.f1 ∧ e.f1 ≤ 4 then (if hasI s.2 e.f0 = true then some (true, setF (getI s.2 e.f0) e, hasS s.1 e.f0) else none) else none) = _ ∧ _) ∧ (_ → (if e.f1 = 1 then (if hasI s.2 e.f0 = true then (if e.f2 = true then some (true, setF (getI s.2 e.f0) e, hasS s.1 e.f0) else some (false, z47, hasS s.1 e.f0)) else (if e.f2 = true then some (true, setF (only e.f0) e, hasS s.1 e.f0) else none)) else if 2 ≤ e.f1 ∧ e.f1 ≤ 4 then (if hasI s.2 e.f0 = true then some (true, setF (getI s.2 e.f0) e, hasS s.1 e.f0) else none) else none) = none)
    by_cases hh : hasI s.2 e.f0 = true
    · have hu := loc_upd h e hh
      have hd := loc_del h e.f0
      simp only [if_pos hh]
      by_cases h1 : e.f1 = 1
      · simp only [if_pos h1]
        by_cases h2 : e.f2 = true
        · simp only [if_pos h2]
          exact ⟨fun t ht => by cases ht; exact ⟨congrArg some hu.1.symm, hu.2⟩, fun ht => by cases ht⟩
        · simp only [if_neg h2]
          exact ⟨fun t ht => by cases ht; exact ⟨congrArg some hd.1.symm, hd.2⟩, fun ht => by cases ht⟩
      · simp only [if_neg h1]
        by_cases h24 : 2 ≤ e.f1 ∧ e.f1 ≤ 4
        · simp only [if_pos h24]
          exact ⟨fun t ht => by cases ht; exact ⟨congrArg some hu.1.symm, hu.2⟩, fun ht => by cases ht⟩
        · simp only [if_neg h24]
          exact ⟨fun t ht => by (cases ht), fun _ => trivial⟩
    · simp only [if_neg hh]
      by_cases h1 : e.f1 = 1
      · simp only [if_pos h1]
        by_cases h2 : e.f2 = true
        · simp only [if_pos h2]
          have h0 : (setF (only e.f0) e).f0 = e.f0 := setF_f0 _ _
          have ha := loc_add h (setF (only e.f0) e) (by rw [h0]; simpa using hh)
          rw [h0] at ha
          exact ⟨fun t ht => by cases ht; exact ⟨congrArg some ha.1.symm, ha.2⟩, fun ht => by cases ht⟩
        · simp only [if_neg h2]
          exact ⟨fun t ht => by (cases ht), fun _ => trivial⟩
      · simp only [if_neg h1]
        by_cases h24 : 2 ≤ e.f1 ∧ e.f1 ≤ 4
        · simp only [if_pos h24]
          exact ⟨fun t ht => by (cases ht), fun _ => trivial⟩
        · simp only [if_neg h24]
          exact ⟨fun t ht => by (cases ht), fun _ => trivial⟩
end Go.Ab
namespace Go.Ab
open Sn
def runL : List S62 → Lo → Option Lo
  | [], v => some v
  | e :: l, v => match stepL v e with | some u => runL l u | none => none
theorem runL_append (l k : List S62) (v : Lo) : runL (l ++ k) v = match runL l v with | some u => runL k u | none => none := by
  induction l generalizing v with
  | nil => rfl
  | cons e l ih =>
    show (match stepL v e with | some t => runL (l ++ k) t | none => none) = match (match stepL v e with | some t => runL l t | none => none) with | some t => runL k t | none => none
    cases stepL v e with
    | none => rfl
    | some t => exact ih t
def atId (l : List S62) (id : ByteArray) : List S62 := l.filter fun e => decide (e.f0 = id)
theorem atId_cons (e : S62) (l : List S62) : atId (e :: l) e.f0 = e :: atId l e.f0 := by unfold atId; rw [List.filter_cons, if_pos (by simp)]
theorem atId_ne {e : S62} {l : List S62} {id : ByteArray} (h : id ≠ e.f0) : atId (e :: l) id = atId l id := by unfold atId; rw [List.filter_cons, if_neg (by simpa using fun e => h e.symm)]
theorem run_loc : ∀ (l : List S62) (s : St), Nice s → (∀ e ∈ l, NiceE e) → (∀ t, runS l s = some t → Nice t ∧ ∀ id, runL (atId l id) (loc s id) = some (loc t id)) ∧ (runS l s = none → ∃ id, runL (atId l id) (loc s id) = none) := by
  intro l
  induction l with
  | nil => exact fun s h _ => ⟨fun t ht => by cases ht; exact ⟨h, fun _ => rfl⟩, fun h => by cases h⟩
  | cons e l ih =>
    intro s h hl
    obtain ⟨h1, h2⟩ := oneS_loc h e
    show (∀ t, (match oneS s e with | some t => runS l t | none => none) = some t → _) ∧ ((match oneS s e with | some t => runS l t | none => none) = none → _)
    cases ho : oneS s e with
    | none =>
      refine ⟨fun t ht => by (cases ht), fun _ => ⟨e.f0, ?_⟩⟩
      rw [atId_cons]
      show (match stepL (loc s e.f0) e with | some u => _ | none => none) = none
      rw [h2 ho]
    | some t =>
      obtain ⟨g1, g2⟩ := h1 t ho
      have hn := h.one (hl e (List.mem_cons_self ..)) ho
      obtain ⟨i1, i2⟩ := ih t hn fun e he => hl e (List.mem_cons_of_mem _ he)
      have key : ∀ id, runL (atId (e :: l) id) (loc s id) = runL (atId l id) (loc t id) := fun id => by
        by_cases hid : id = e.f0
        · subst hid
          rw [atId_cons]
          show (match stepL (loc s e.f0) e with | some u => runL (atId l e.f0) u | none => none) = _
          rw [g1]
        · rw [atId_ne hid, g2 id hid]
      refine ⟨fun u hu => ?_, fun hu => ?_⟩
      · obtain ⟨j1, j2⟩ := i1 u hu
        exact ⟨j1, fun id => by rw [key]; exact j2 id⟩
      · obtain ⟨id, hid⟩ := i2 hu
        exact ⟨id, by rw [key]; exact hid⟩
theorem mem_loc {s : St} (h : Nice s) {x : S47} : x ∈ s.2 ↔ hasI s.2 x.f0 = true ∧ getI s.2 x.f0 = x := by
  constructor
  · intro hx
    exact ⟨hasI_of hx rfl, getI_is h.xn hx rfl⟩
  · rintro ⟨h1, h2⟩
    rw [← h2]
    exact (getI_mem h1).1
theorem perm_of_loc {s t : St} (hs : Nice s) (ht : Nice t) (h : ∀ id, loc s id = loc t id) : s.1.Perm t.1 ∧ s.2.Perm t.2 := by
  refine ⟨(List.perm_ext_iff_of_nodup hs.fn ht.fn).2 fun x => ?_, (List.perm_ext_iff_of_nodup (nodup_of_map hs.xn) (nodup_of_map ht.xn)).2 fun x => ?_⟩
  · have h1 : hasS s.1 x = hasS t.1 x := congrArg (fun v : Lo => v.2.2) (h x)
    rw [← hasS_iff, ← hasS_iff, h1]
  · have h1 : hasI s.2 x.f0 = hasI t.2 x.f0 := congrArg (fun v : Lo => v.1) (h x.f0)
    have h2 : getI s.2 x.f0 = getI t.2 x.f0 := congrArg (fun v : Lo => v.2.1) (h x.f0)
    rw [mem_loc hs, mem_loc ht, h1, h2]
theorem loc_of_perm {s t : St} (hs : Nice s) (ht : Nice t) (h1 : s.1.Perm t.1) (h2 : s.2.Perm t.2) (id : ByteArray) : loc s id = loc t id := by
  have e1 : hasS s.1 id = hasS t.1 id := bool_of (by rw [hasS_iff, hasS_iff, h1.mem_iff])
  have e2 : hasI s.2 id = hasI t.2 id := bool_of (by rw [hasI_iff, hasI_iff]; exact ⟨fun ⟨x, hx, e⟩ => ⟨x, h2.mem_iff.1 hx, e⟩, fun ⟨x, hx, e⟩ => ⟨x, h2.mem_iff.2 hx, e⟩⟩)
  show (hasI s.2 id, getI s.2 id, hasS s.1 id) = (hasI t.2 id, getI t.2 id, hasS t.1 id)
  rw [e1, e2]
  congr 2
  cases hi : hasI t.2 id with
  | false => rw [getI_none hi, getI_none (by rw [e2, hi])]
  | true =>
    obtain ⟨k1, k2⟩ := getI_mem hi
    exact getI_is hs.xn (h2.mem_iff.2 k1) k2
theorem IsN.nice {f : List ByteArray} {m : List S47} (h : IsN f m) : Nice (f, m) ∧ ∀ s ∈ f, nameIs s = true := by
  obtain ⟨r, F, rfl, o, s, t⟩ := h
  refine ⟨⟨o.fnodup, o.nodup, o.names, fun x hx => ⟨?_, (o.items x hx).entry.small, (o.items x hx).exit.small⟩⟩, o.fnames⟩
  have hx : x ∈ r :: F := hx
  rw [← IsN.pre o t] at hx
  obtain ⟨y, n, e, _⟩ := (mem_pre isOrd_ID o.rooted.mem).1 hx
  rw [e, nIt_nIt]
theorem nm_z : Nm z47 := .of rfl rfl small_nil small_nil
theorem Nice.get {s : St} (h : Nice s) (id : ByteArray) : Nm (getI s.2 id) := by
  cases hi : hasI s.2 id with
  | false => rw [getI_none hi]; exact nm_z
  | true => exact h.nm _ (getI_mem hi).1
theorem loc_fl {s : St} (id : ByteArray) : (hasI s.2 id = false → getI s.2 id = z47) ∧ (hasI s.2 id = true → (getI s.2 id).f0 = id) := ⟨getI_none, fun h => (getI_mem h).2⟩
theorem sameHd_iff {x y : S47} : sameHd x y = true ↔ x.f1 = y.f1 ∧ x.f2 = y.f2 ∧ x.f4 = y.f4 := by
  unfold sameHd
  rw [Bool.and_eq_true, Bool.and_eq_true, beq_iff_eq, beq_iff_eq, beq_iff_eq]
  exact ⟨fun ⟨a, b, c⟩ => ⟨a, bs_inj b, c⟩, fun ⟨a, b, c⟩ => ⟨a, by rw [b], c⟩⟩
theorem run_edF (fa fb : List ByteArray) (id : ByteArray) (p : Bool) (x : S47) : runL (edF fa fb id) (p, x, hasS fa id) = some (p, x, hasS fb id) := by
  unfold edF
  cases hc : hasS fa id != hasS fb id with
  | false =>
    show some (p, x, hasS fa id) = _
    rw [show hasS fa id = hasS fb id by simpa using hc]
  | true =>
    have hne : ¬ hasS fa id = hasS fb id := by simpa using hc
    show (match stepL (p, x, hasS fa id) ⟨id, 5, hasS fb id, only id⟩ with | some u => some u | none => none) = _
    have : stepL (p, x, hasS fa id) ⟨id, 5, hasS fb id, only id⟩ = some (p, x, hasS fb id) := by unfold stepL; rw [if_pos rfl, if_neg hne]
    rw [this]
theorem step_in {x : S47} {c : Bool} {e : S62} (h : e.f1 = 2 ∨ e.f1 = 3 ∨ e.f1 = 4) : stepL (true, x, c) e = some (true, setF x e, c) := by
  unfold stepL
  rw [if_neg (by omega), if_neg (by omega), if_pos (by omega)]
  rfl
theorem runL1 {e : S62} {v u : Lo} (h : stepL v e = some u) : runL [e] v = some u := by
  show (match stepL v e with | some u => some u | none => none) = some u
  rw [h]
theorem run_ed2 (x y w : S47) (id : ByteArray) (c : Bool) (h : w.f3 = x.f3) : runL (ed2 x y id) (true, w, c) = some (true, ⟨w.f0, w.f1, w.f2, y.f3, w.f4, w.f5, w.f6⟩, c) := by
  unfold ed2
  cases hc : x.f3 != y.f3 with
  | false => show some (true, w, c) = _; rw [← show x.f3 = y.f3 by simpa using hc, ← h]
  | true => exact runL1 (step_in (.inl rfl))
theorem run_ed3 (x y w : S47) (id : ByteArray) (c : Bool) (h : w.f5 = x.f5) : runL (ed3 x y id) (true, w, c) = some (true, ⟨w.f0, w.f1, w.f2, w.f3, w.f4, y.f5, w.f6⟩, c) := by
  unfold ed3
  cases hc : !eqq x.f5 y.f5 with
  | false => show some (true, w, c) = _; rw [← eqq_iff.1 (show eqq x.f5 y.f5 = true by simpa using hc), ← h]
  | true => exact runL1 (step_in (.inr (.inl rfl)))
theorem run_ed4 (x y w : S47) (id : ByteArray) (c : Bool) (h : w.f6 = x.f6) : runL (ed4 x y id) (true, w, c) = some (true, ⟨w.f0, w.f1, w.f2, w.f3, w.f4, w.f5, y.f6⟩, c) := by
  unfold ed4
  cases hc : !eqq x.f6 y.f6 with
  | false => show some (true, w, c) = _; rw [← eqq_iff.1 (show eqq x.f6 y.f6 = true by simpa using hc), ← h]
  | true => exact runL1 (step_in (.inr (.inr rfl)))
theorem run_234 (x y w : S47) (id : ByteArray) (c : Bool) (h3 : w.f3 = x.f3) (h5 : w.f5 = x.f5) (h6 : w.f6 = x.f6) : runL (ed2 x y id ++ (ed3 x y id ++ ed4 x y id)) (true, w, c) = some (true, ⟨w.f0, w.f1, w.f2, y.f3, w.f4, y.f5, y.f6⟩, c) := by
  rw [runL_append, run_ed2 x y w id c h3]
  show runL (ed3 x y id ++ ed4 x y id) _ = _
  rw [runL_append, run_ed3 x y _ id c (by exact h5)]
  show runL (ed4 x y id) _ = _
  rw [run_ed4 x y _ id c (by exact h6)]
theorem run_edX (p q : Bool) (x y : S47) (id : ByteArray) (c : Bool) (hx : p = false → x = z47) (hx' : p = true → x.f0 = id) (hy : q = false → y = z47) (hy' : q = true → y.f0 = id) : runL (edX p q x y id) (p, x, c) = some (q, y, c) := by
  unfold edX
  cases q with
  | false =>
    rw [hy rfl]
    cases p with
    | false => rw [hx rfl, show sameHd z47 z47 = true from by unfold sameHd; simp]; rfl
    | true =>
      show runL ([⟨id, 1, false, only id⟩] ++ []) (true, x, c) = _
      exact runL1 rfl
  | true =>
    have hy0 := hy' rfl
    rw [runL_append]
    cases p with
    | false =>
      rw [hx rfl]
      have h1 : runL [⟨id, 1, true, hdPt id y⟩] (false, z47, c) = some (true, ⟨id, y.f1, y.f2, false, y.f4, [], []⟩, c) := runL1 rfl
      show (match runL [⟨id, 1, true, hdPt id y⟩] (false, z47, c) with | some u => runL (ed2 z47 y id ++ (ed3 z47 y id ++ ed4 z47 y id)) u | none => none) = _
      rw [h1]
      show runL _ (true, (⟨id, y.f1, y.f2, false, y.f4, [], []⟩ : S47), c) = _
      rw [run_234 z47 y ⟨id, y.f1, y.f2, false, y.f4, [], []⟩ id c rfl rfl rfl, ← hy0]
    | true =>
      have hx0 := hx' rfl
      show (match runL (bif (true != true) || !sameHd x y then [⟨id, 1, true, hdPt id y⟩] else []) (true, x, c) with | some u => runL (ed2 x y id ++ (ed3 x y id ++ ed4 x y id)) u | none => none) = _
      have h1 : runL (bif (true != true) || !sameHd x y then [⟨id, 1, true, hdPt id y⟩] else []) (true, x, c) = some (true, ⟨x.f0, y.f1, y.f2, x.f3, y.f4, x.f5, x.f6⟩, c) := by
        cases hs : sameHd x y with
        | true =>
          obtain ⟨e1, e2, e4⟩ := sameHd_iff.1 hs
          show some (true, x, c) = _
          rw [← e1, ← e2, ← e4]
        | false => exact runL1 rfl
      rw [h1]
      show runL _ (true, (⟨x.f0, y.f1, y.f2, x.f3, y.f4, x.f5, x.f6⟩ : S47), c) = _
      rw [run_234 x y ⟨x.f0, y.f1, y.f2, x.f3, y.f4, x.f5, x.f6⟩ id c rfl rfl rfl]
      show some (true, (⟨x.f0, y.f1, y.f2, y.f3, y.f4, y.f5, y.f6⟩ : S47), c) = _
      rw [hx0, ← hy0]
theorem run_id (s t : St) (id : ByteArray) : runL (edI s.2 t.2 id ++ edF s.1 t.1 id) (loc s id) = some (loc t id) := by
  rw [runL_append, edI_X]
  show (match runL (edX (hasI s.2 id) (hasI t.2 id) (getI s.2 id) (getI t.2 id) id) (hasI s.2 id, getI s.2 id, hasS s.1 id) with | some u => runL (edF s.1 t.1 id) u | none => none) = _
  rw [run_edX _ _ _ _ id _ (loc_fl id).1 (loc_fl id).2 (loc_fl id).1 (loc_fl id).2]
  exact run_edF _ _ _ _ _
theorem atId_other {l : List S62} {id : ByteArray} (h : ∀ e ∈ l, e.f0 ≠ id) : atId l id = [] := by
  unfold atId
  rw [List.filter_eq_nil_iff]
  intro e he
  simpa using h e he
theorem atId_all {l : List S62} {id : ByteArray} (h : ∀ e ∈ l, e.f0 = id) : atId l id = l := by
  unfold atId
  rw [List.filter_eq_self]
  intro e he
  simpa using h e he
theorem atId_spec (s t : St) (id : ByteArray) : atId (specD s.1 s.2 t.1 t.2) id = edI s.2 t.2 id ++ edF s.1 t.1 id := by
  unfold specD
  have hfl : ∀ L : List ByteArray, atId (L.flatMap fun id => edI s.2 t.2 id ++ edF s.1 t.1 id) id = L.flatMap fun i => atId (edI s.2 t.2 i ++ edF s.1 t.1 i) id := fun L => by
    unfold atId
    rw [List.filter_flatMap]
  rw [hfl]
  have hno : ∀ i, i ≠ id → atId (edI s.2 t.2 i ++ edF s.1 t.1 i) id = [] := fun i hi => atId_other fun e he => by rw [edIF_f0 he]; exact hi
  by_cases hm : id ∈ namesOf [(s.1, s.2), (t.1, t.2)]
  · rw [flatMap_one ((names_strict _).nodup isCmp_s) hm fun i _ hi => hno i hi]
    exact atId_all fun e he => edIF_f0 he
  · have h1 : edI s.2 t.2 id ++ edF s.1 t.1 id = [] := List.eq_nil_iff_forall_not_mem.2 fun e he => hm (by
      have : e ∈ specD s.1 s.2 t.1 t.2 := mem_specD.2 ⟨id, List.mem_append.1 he⟩
      unfold specD at this
      obtain ⟨i, hi, h2⟩ := List.mem_flatMap.1 this
      rw [← edIF_f0 he, edIF_f0 h2]
      exact hi)
    rw [h1]
    rw [List.flatMap_eq_nil_iff]
    intro i hi
    exact hno i fun e => hm (e ▸ hi)
theorem Nm.part {y : S47} (h : Nm y) (id : ByteArray) : Nm (hdPt id y) ∧ Nm ⟨id, 0, ⟨#[]⟩, y.f3, 0, [], []⟩ ∧ Nm ⟨id, 0, ⟨#[]⟩, false, 0, y.f5, []⟩ ∧ Nm ⟨id, 0, ⟨#[]⟩, false, 0, [], y.f6⟩ :=
  ⟨.of rfl rfl small_nil small_nil, .of rfl rfl small_nil small_nil, .of h.ses.1 rfl h.2.1 small_nil, .of rfl h.ses.2 small_nil h.2.2⟩
theorem edX_nm {p q : Bool} {x y : S47} {id : ByteArray} (h : Nm y) {e : S62} (he : e ∈ edX p q x y id) : Nm e.f3 := by
  obtain ⟨h1, h2, h3, h4⟩ := h.part id
  unfold edX at he
  rcases List.mem_append.1 he with he | he
  · cases hc : (p != q) || !sameHd x y with
    | false => rw [hc] at he; cases he
    | true =>
      rw [hc] at he
      rw [List.mem_singleton.1 he]
      cases q with
      | false => exact Nm.only id
      | true => exact h1
  · cases q with
    | false => cases he
    | true =>
      rcases List.mem_append.1 he with he | he
      · unfold ed2 at he
        cases hc : x.f3 != y.f3 with
        | false => rw [hc] at he; cases he
        | true => rw [hc] at he; rw [List.mem_singleton.1 he]; exact h2
      · rcases List.mem_append.1 he with he | he
        · unfold ed3 at he
          cases hc : !eqq x.f5 y.f5 with
          | false => rw [hc] at he; cases he
          | true => rw [hc] at he; rw [List.mem_singleton.1 he]; exact h3
        · unfold ed4 at he
          cases hc : !eqq x.f6 y.f6 with
          | false => rw [hc] at he; cases he
          | true => rw [hc] at he; rw [List.mem_singleton.1 he]; exact h4
structure NiceF (s : St) : Prop where
  nice : Nice s
  files : ∀ f ∈ s.1, nameIs f = true
theorem NiceF.of {f : List ByteArray} {m : List S47} (h : IsN f m) : NiceF (f, m) := ⟨h.nice.1, h.nice.2⟩
theorem spec_nice {s t : St} (hs : NiceF s) (ht : NiceF t) : ∀ e ∈ specD s.1 s.2 t.1 t.2, NiceE e := fun e he => by
  obtain ⟨id, h⟩ := mem_specD.1 he
  have hid : e.f0 = id := edIF_f0 (List.mem_append.2 h)
  have hn : e.f0 ∈ namesOf [(s.1, s.2), (t.1, t.2)] := by
    unfold specD at he
    obtain ⟨i, hi, h2⟩ := List.mem_flatMap.1 he
    rw [edIF_f0 h2]; exact hi
  refine ⟨?_, ?_⟩
  · have key : ∀ u : St, NiceF u → e.f0 ∈ u.1 ∨ hasI u.2 e.f0 = true → nameIs e.f0 = true := fun u hu h => by
      rcases h with h | h
      · exact hu.files _ h
      · obtain ⟨x, hx, ex⟩ := hasI_iff.1 h
        rw [← ex]
        exact hu.nice.names x hx
    rcases names2.1 hn with h | h
    · exact key s hs h
    · exact key t ht h
  · rcases h with h | h
    · rw [edI_X] at h
      exact edX_nm (ht.nice.get id) h
    · rw [(edF_mem h).1]; exact Nm.only id
theorem run_spec {s t : St} (hs : NiceF s) (ht : NiceF t) : ∃ u, runS (specD s.1 s.2 t.1 t.2) s = some u ∧ Nice u ∧ ∀ id, loc u id = loc t id := by
  obtain ⟨h1, h2⟩ := run_loc (specD s.1 s.2 t.1 t.2) s hs.nice (spec_nice hs ht)
  cases hr : runS (specD s.1 s.2 t.1 t.2) s with
  | none =>
    obtain ⟨id, hid⟩ := h2 hr
    rw [atId_spec, run_id] at hid
    cases hid
  | some u =>
    obtain ⟨g1, g2⟩ := h1 u hr
    refine ⟨u, rfl, g1, fun id => ?_⟩
    have := g2 id
    rw [atId_spec, run_id] at this
    exact (Option.some.inj this).symm
theorem ord_loc {u : St} {f : List ByteArray} {m : List S47} (hu : Nice u) (hN : IsN f m) (h : ∀ id, loc u id = loc (f, m) id) : ordO u = some (f, m) := by
  obtain ⟨h1, h2⟩ := perm_of_loc hu hN.nice.1 h
  exact ordO_some.2 ⟨hN, h1.symm, h2.symm⟩
theorem loc_ord {u : St} {f : List ByteArray} {m : List S47} (hu : Nice u) (h : ordO u = some (f, m)) (id : ByteArray) : loc u id = loc (f, m) id := by
  obtain ⟨hN, h1, h2⟩ := ordO_some.1 h
  exact loc_of_perm hu hN.nice.1 h1.symm h2.symm id
theorem isN_loc {f g : List ByteArray} {m n : List S47} (h : IsN f m) (h' : IsN g n) (hl : ∀ id, loc (f, m) id = loc (g, n) id) : f = g ∧ m = n := by
  obtain ⟨h1, h2⟩ := perm_of_loc h.nice.1 h'.nice.1 hl
  exact (OrdTo.self h).uniq ⟨h', h1.symm, h2.symm⟩
def Adj (l : List S62) : Prop := ∀ (i : Nat) (x y : S62), l[i]? = some x → l[i + 1]? = some y → cmpE x y = -1
theorem adj_of {l : List S62} (h : l.Pairwise fun x y => cmpE x y = -1) : Adj l := fun i x y hx hy => by
  obtain ⟨h1, rfl⟩ := List.getElem?_eq_some_iff.1 hx
  obtain ⟨h2, rfl⟩ := List.getElem?_eq_some_iff.1 hy
  exact List.pairwise_iff_getElem.1 h i (i + 1) h1 h2 (Nat.lt_succ_self i)
noncomputable def apS (s : St) (l : List S62) : St × Int := bif bP (IsN s.1 s.2) then (bif bP (Adj l) then (match runS l s with | none => (([], []), 1) | some t => (match ordO t with | none => (([], []), 7) | some n => (n, 0))) else (([], []), 1)) else (([], []), 7)
theorem apS_ok {s t n : St} {l : List S62} (hs : IsN s.1 s.2) (ha : Adj l) (hr : runS l s = some t) (ho : ordO t = some n) : apS s l = (n, 0) := by unfold apS; rw [bP_iff.2 hs, bP_iff.2 ha, hr]; simp only [cond_true, ho]
theorem ap_spec {s t : St} (hs : IsN s.1 s.2) (ht : IsN t.1 t.2) : apS s (specD s.1 s.2 t.1 t.2) = (t, 0) := by
  obtain ⟨u, h1, h2, h3⟩ := run_spec (NiceF.of hs) (NiceF.of ht)
  exact apS_ok hs (adj_of (specD_strict ..)) h1 (ord_loc h2 ht h3)
theorem ap_nil {s : St} (hs : IsN s.1 s.2) : apS s [] = (s, 0) := apS_ok hs (fun i x y h => by simp at h) rfl (ordO_some.2 (OrdTo.self hs))
theorem ap_no {s : St} (l : List S62) (hs : ¬ IsN s.1 s.2) : apS s l = (([], []), 7) := by unfold apS; rw [bP_no.2 hs]; rfl
theorem edX_self (p : Bool) (x : S47) (id : ByteArray) : edX p p x x id = [] := by
  have hs : sameHd x x = true := sameHd_iff.2 ⟨rfl, rfl, rfl⟩
  unfold edX ed2 ed3 ed4
  rw [hs, bne_self_eq_false, bne_self_eq_false, eqq_y rfl, eqq_y rfl]
  cases p <;> rfl
theorem spec_self (s : St) : specD s.1 s.2 s.1 s.2 = [] := List.eq_nil_iff_forall_not_mem.2 fun e he => by
  obtain ⟨id, h⟩ := mem_specD.1 he
  rcases h with h | h
  · rw [edI_X] at h
    rw [edX_self] at h
    cases h
  · have := (edF_mem h).2
    rw [bne_self_eq_false] at this
    cases this
theorem spec_nil {s t : St} (hs : IsN s.1 s.2) (ht : IsN t.1 t.2) (h : specD s.1 s.2 t.1 t.2 = []) : s = t := by
  have h1 := ap_spec hs ht
  rw [h, ap_nil hs] at h1
  exact congrArg Prod.fst h1
end Go.Ab
namespace Go.Ab
open Go.Proofs Sn
set_option maxRecDepth 100000
set_option linter.unnecessarySimpa false
set_option maxHeartbeats 4000000
theorem isN_by {f : List ByteArray} {r : S47} {F : List S47} (h : isB f (r :: F) = true) (hs : sortL cmpS f = f) (ht : turnT ordID nIt r F = F) : IsN f (r :: F) := by
  obtain ⟨r', F', e, h⟩ := isB_iff.1 h
  cases e
  exact ⟨r, F, rfl, h, hs, ht⟩
def dP : S47 := ⟨⟨#[112]⟩, 1, ⟨#[]⟩, false, 0, [], []⟩
def dT : S47 := ⟨⟨#[116]⟩, 2, ⟨#[112]⟩, true, 0, [], []⟩
theorem dNa : IsN [] [dP] := isN_by (by kernel_rfl) (by kernel_rfl) (by kernel_rfl)
theorem dNb : IsN [] [dP, dT] := isN_by (by kernel_rfl) (by kernel_rfl) (by kernel_rfl)
theorem IsN.sz {f : List ByteArray} {m : List S47} (h : IsN f m) : SzM f m := by
  obtain ⟨r, F, rfl, o, _⟩ := h
  exact o.sz
theorem dSpec : specD [] [dP] [] [dP, dT] = [⟨⟨#[116]⟩, 1, true, hdPt ⟨#[116]⟩ dT⟩, ⟨⟨#[116]⟩, 2, true, ⟨⟨#[116]⟩, 0, ⟨#[]⟩, true, 0, [], []⟩⟩] := by
  have hn : namesOf [([], [dP]), ([], [dP, dT])] = [⟨#[112]⟩, ⟨#[116]⟩] := by kernel_rfl
  unfold specD
  rw [hn]
  show (edI [dP] [dP, dT] ⟨#[112]⟩ ++ edF [] [] ⟨#[112]⟩) ++ ((edI [dP] [dP, dT] ⟨#[116]⟩ ++ edF [] [] ⟨#[116]⟩) ++ []) = _
  rw [edI_X, edI_X, show hasI [dP] ⟨#[112]⟩ = true by kernel_rfl, show hasI [dP, dT] ⟨#[112]⟩ = true by kernel_rfl, show getI [dP] ⟨#[112]⟩ = dP by kernel_rfl, show getI [dP, dT] ⟨#[112]⟩ = dP by kernel_rfl, edX_self,
    show hasI [dP] ⟨#[116]⟩ = false by kernel_rfl, show hasI [dP, dT] ⟨#[116]⟩ = true by kernel_rfl, show getI [dP] ⟨#[116]⟩ = z47 by kernel_rfl, show getI [dP, dT] ⟨#[116]⟩ = dT by kernel_rfl]
  unfold edX ed2 ed3 ed4
  rw [show eqq z47.f5 dT.f5 = true from eqq_y rfl, show eqq z47.f6 dT.f6 = true from eqq_y rfl]
  rfl
theorem dfR_y {fa fb : List ByteArray} {a b : List S47} (ha : IsN fa a) (hb : IsN fb b) : dfR fa a fb b = (specD fa a fb b, 0) := by unfold dfR; rw [bP_iff.2 ha, bP_iff.2 hb]; rfl
theorem dRow : Le (.row 7 [[AV.str ⟨#[112]⟩, .int .i64 1, .str ⟨#[]⟩, .lit false, .int .i64 0, .nils, .nils]]) (.row 7 ([dP].map enc47)) := .rows (.cons (by repeat (first | exact .nil | refine .cons (by first | exact .refl | exact .lit rfl | exact .nils) ?_)) .nil)
theorem dRow2 : Le (.row 7 [[AV.str ⟨#[112]⟩, .int .i64 1, .str ⟨#[]⟩, .lit false, .int .i64 0, .nils, .nils], [AV.str ⟨#[116]⟩, .int .i64 2, .str ⟨#[112]⟩, .lit true, .int .i64 0, .nils, .nils]]) (.row 7 ([dP, dT].map enc47)) := .rows (.cons (by repeat (first | exact .nil | refine .cons (by first | exact .refl | exact .lit rfl | exact .nils) ?_)) <| .cons (by repeat (first | exact .nil | refine .cons (by first | exact .refl | exact .lit rfl | exact .nils) ?_)) .nil)
theorem PCall.by2 {P : Program} {f : Nat} {x y x' y' r : AV} (h : PCall P f [x', y'] r) (h1 : Le x x') (h2 : Le y y') : PCall P f [x, y] r := h.by rfl fun j a b ha hb => by
  match j with
  | 0 => cases ha; cases hb; exact h1
  | 1 => cases ha; cases hb; exact h2
  | j + 2 => simp at ha
theorem d47a : PCall cx.P 47 [.agg [.nils, .row 7 [[AV.str ⟨#[112]⟩, .int .i64 1, .str ⟨#[]⟩, .lit false, .int .i64 0, .nils, .nils]]], .agg [.nils, .row 7 [[AV.str ⟨#[112]⟩, .int .i64 1, .str ⟨#[]⟩, .lit false, .int .i64 0, .nils, .nils]]]] (.tup [.row 10 [], .int .i64 0]) := by
  have h := c47 [] [] [dP] [dP] dNa.sz dNa.sz
  rw [dfR_y dNa dNa, show specD [] [dP] [] [dP] = [] from spec_self ([], [dP])] at h
  exact h.by2 (.agg2 .nils dRow) (.agg2 .nils dRow)
theorem d47b : PCall cx.P 47 [.agg [.nils, .row 7 [[AV.str ⟨#[112]⟩, .int .i64 1, .str ⟨#[]⟩, .lit false, .int .i64 0, .nils, .nils]]], .agg [.nils, .row 7 [[AV.str ⟨#[112]⟩, .int .i64 1, .str ⟨#[]⟩, .lit false, .int .i64 0, .nils, .nils], [AV.str ⟨#[116]⟩, .int .i64 2, .str ⟨#[112]⟩, .lit true, .int .i64 0, .nils, .nils]]]] (.tup [.row 10 ([⟨⟨#[116]⟩, 1, true, hdPt ⟨#[116]⟩ dT⟩, ⟨⟨#[116]⟩, 2, true, ⟨⟨#[116]⟩, 0, ⟨#[]⟩, true, 0, [], []⟩⟩].map enc62), .int .i64 0]) := by
  have h := c47 [] [] [dP] [dP, dT] dNa.sz dNb.sz
  rw [dfR_y dNa dNb, dSpec] at h
  exact h.by2 (.agg2 .nils dRow) (.agg2 .nils dRow2)
def br3 : List Nat := [79, 93, 128, 176, 177, 179, 143, 178, 180, 157, 205, 206, 78, 135, 174, 175, 185, 186, 127, 104, 149, 150, 96, 97, 98, 129, 207, 111, 211, 239, 155, 110, 210, 235, 238, 273]
noncomputable def cxA (l : List Nat) : Cx := ⟨Tryz.prog, look tyT, fun g => memN g (l ++ br3)⟩
theorem pcallA (l : List Nat) {f : Nat} (fn : Func) (hf : cx.P.funcs[f]? = some fn) (hok : okFn fn = true) {args : List AV} {r : AV} (h : funcP (cxA l) fn args r) : PCall cx.P f args r :=
  funcP_sound (cx := cxA l) cx_ok cx_mixed hf (Ent.ok hf hok).2 (Ent.ok hf hok).1 h
theorem acallA (l : List Nat) {f : Nat} (fn : Func) (hf : cx.P.funcs[f]? = some fn) (hok : okFn fn = true) {args : List AV} {σ σ' : Sto} {r : AV} (hσ : (σ.all fun p => !isFree (sget σ p.1)) = true) (h : funcA (cxA l) fn args σ r σ') : ACall cx.P f args σ r σ' :=
  funcA_sound (cx := cxA l) cx_ok cx_mixed hf (Ent.ok hf hok).2 (Ent.ok hf hok).1 hσ h
def rP : List AV := [.str ⟨#[112]⟩, .int .i64 1, .str ⟨#[]⟩, .lit false, .int .i64 0, .nils, .nils]
def rT : List AV := [.str ⟨#[116]⟩, .int .i64 2, .str ⟨#[112]⟩, .lit true, .int .i64 0, .nils, .nils]
theorem c50 : PCall cx.P 50 [] (.lit true) := pcallA [1003] Tryz.f50 (by kernel_rfl) (by kernel_rfl) <| by
  conv => whnf
  refine ⟨[1, 2], ([(1, .bptr 80 0), (2, .bptr 144 0)], [(144, .live (.box [.nils, .row 7 [rP, rT]])), (80, .live (.box [.nils, .row 7 [rP]]))]), ?_⟩
  conv => whnf
  refine ⟨(StLe.frz 82 (by kernel_rfl) ?_).trans ((StLe.frz 146 (by kernel_rfl) ?_).trans (.of rfl)), ?_⟩
  · repeat' (first | exact True.intro | exact rfl | refine And.intro ?_ ?_)
  · repeat' (first | exact True.intro | exact rfl | refine And.intro ?_ ?_)
  conv => whnf
  refine ⟨_, d47a, ?_⟩
  conv => whnf
  conv => whnf
  refine ⟨_, d47b, ?_⟩
  conv => whnf
  conv => whnf
  refine ⟨fun w1 => ?_, fun w1 => ?_⟩
  rotate_left
  · exact absurd w1 (by decide)
  conv => whnf
  refine ⟨fun w2 => ?_, fun w2 => ?_⟩
  rotate_left
  · exact absurd w2 (by decide)
  conv => whnf
  refine ⟨fun w3 => ?_, fun w3 => ?_⟩
  rotate_left
  · exact absurd w3 (by decide)
  conv => whnf
  refine ⟨fun w4 => ?_, fun w4 => ?_⟩
  rotate_left
  · exact absurd w4 (by decide)
  conv => whnf
  refine ⟨⟨Int.natCast_nonneg _, by decide⟩, ?_⟩
  conv => whnf
  conv => whnf
  refine ⟨_, rfl, ?_⟩
  conv => whnf
  conv => whnf
  refine ⟨fun w5 => ?_, fun w5 => ?_⟩
  rotate_left
  · rw [(sEq_iff _ _).2 rfl] at w5; cases w5
  conv => whnf
  refine ⟨⟨Int.natCast_nonneg _, by decide⟩, ?_⟩
  conv => whnf
  conv => whnf
  refine ⟨_, rfl, ?_⟩
  conv => whnf
  conv => whnf
  refine ⟨fun w6 => ?_, fun w6 => ?_⟩
  rotate_left
  · exact absurd w6 (by decide)
  conv => whnf
  refine ⟨⟨Int.natCast_nonneg _, by decide⟩, ?_⟩
  conv => whnf
  conv => whnf
  refine ⟨_, rfl, ?_⟩
  conv => whnf
  conv => whnf
  exact .blit rfl
theorem dfR_len (fa : List ByteArray) (a : List S47) (fb : List ByteArray) (b : List S47) : (dfR fa a fb b).1.length ≤ 1048576 := by
  unfold dfR
  cases h : bP (IsN fa a) && bP (IsN fb b) with
  | false => exact Nat.zero_le _
  | true =>
    rw [Bool.and_eq_true, bP_iff, bP_iff] at h
    obtain ⟨⟨ra, Fa, rfl, oa, _⟩, rb, Fb, rfl, ob, _⟩ := h
    show ((namesOf _).flatMap _).length ≤ _
    have hN : (namesOf [(fa, ra :: Fa), (fb, rb :: Fb)]).length ≤ 64 := by
      refine Nat.le_trans (sortD_length _) ?_
      have := oa.n16
      have := ob.n16
      have := oa.files6
      have := ob.files6
      simp only [List.flatMap_cons, List.flatMap_nil, List.append_nil, List.length_append, List.length_map, List.length_cons]
      omega
    have key : ∀ L : List ByteArray, (L.flatMap fun id => edI (ra :: Fa) (rb :: Fb) id ++ edF fa fb id).length ≤ 5 * L.length := fun L => by
      induction L with
      | nil => exact Nat.le_refl _
      | cons i L ih =>
        rw [List.flatMap_cons, List.length_append, List.length_append, List.length_cons]
        have := edI_len (ra :: Fa) (rb :: Fb) i
        have := edF_len fa fb i
        omega
    have := key (namesOf [(fa, ra :: Fa), (fb, rb :: Fb)])
    omega
theorem dfR_sz {fa : List ByteArray} {a : List S47} {fb : List ByteArray} {b : List S47} (ha : SzM fa a) (hb : SzM fb b) : ∀ s ∈ (dfR fa a fb b).1, Sz47 s.f3 := fun s hs => by
  unfold dfR at hs
  cases h : bP (IsN fa a) && bP (IsN fb b) with
  | false => rw [h] at hs; cases hs
  | true =>
    rw [h] at hs
    rw [Bool.and_eq_true, bP_iff, bP_iff] at h
    have hn : Nm s.f3 := (spec_nice (NiceF.of h.1) (NiceF.of h.2) s hs).2
    exact ⟨⟨Nat.le_trans hn.2.1.1 (by decide), fun x hx => ⟨Nat.le_trans (hn.2.1.2 x hx).1 (by decide), Nat.le_trans (hn.2.1.2 x hx).2 (by decide)⟩⟩, Nat.le_trans hn.2.2.1 (by decide), fun x hx => ⟨Nat.le_trans (hn.2.2.2 x hx).1 (by decide), Nat.le_trans (hn.2.2.2 x hx).2 (by decide)⟩⟩
theorem c12 (f g : List ByteArray) (m n : List S47) (h : BgM f m) (h' : BgM g n) : PCall cx.P 12 [encM f m, encM g n] (.lit true) := pcall3 Tryz.f12 (by kernel_rfl) (by kernel_rfl) <| by
  have h46 := c46 f m h
  have h46' := c46 g n h'
  unfold encM at h46 h46' ⊢
  conv => whnf
  refine ⟨_, h46, ?_⟩
  conv => whnf
  conv => whnf
  refine ⟨fun w1 => ?_, fun w1 => ?_⟩
  · conv => whnf
    exact .of rfl
  · replace w1 := of_decide_eq_false w1
    conv => whnf
    refine ⟨_, h46', ?_⟩
    conv => whnf
    conv => whnf
    refine ⟨fun w2 => ?_, fun w2 => ?_⟩
    · conv => whnf
      exact .of rfl
    · replace w2 := of_decide_eq_false w2
      have hz := SzM.of (f := f) (m := m) (by omega)
      have hz' := SzM.of (f := g) (m := n) (by omega)
      have h47 := c47 f g m n hz hz'
      have h48 := c48 f g m n hz hz'
      unfold encM at h47 h48
      conv => whnf
      refine ⟨_, h47, ?_⟩
      conv => whnf
      conv => whnf
      refine ⟨_, h48, ?_⟩
      conv => whnf
      conv => whnf
      have hE : eqq (dfR f m g n).1 (dfR f m g n).1 = true := eqq_y rfl
      have hsz : ∀ s ∈ (dfR f m g n).1, Sz47 s.f3 := dfR_sz hz hz'
      refine ⟨_, c49 _ _ (dfR_len f m g n) (dfR_len f m g n) hsz hsz, ?_⟩
      conv => whnf
      conv => whnf
      refine ⟨fun w3 => ?_, fun w3 => ?_⟩
      · conv => whnf
        refine ⟨fun w4 => ?_, fun w4 => ?_⟩
        · conv => whnf
          refine ⟨_, c50, ?_⟩
          conv => whnf
          conv => whnf
          exact .of rfl
        · simp at w4
      · rw [hE] at w3
        cases w3
end Go.Ab
namespace Go.Ab
open Go.Proofs Sn
set_option maxRecDepth 100000
set_option linter.unnecessarySimpa false
set_option linter.unusedSimpArgs false
set_option maxHeartbeats 4000000
theorem map_erase {α : Type} {e : α → List AV} {l : List α} {i : Nat} : (l.eraseIdx i).map e = (l.map e).eraseIdx i := by
  rw [List.eraseIdx_eq_take_drop_succ, List.eraseIdx_eq_take_drop_succ, List.map_append, List.map_take, List.map_drop]
theorem del_cut {pins : List Nat} {es R T : List (List AV)} {s k i : Nat} {q : Q} (hi : i < es.length) :
    StLe pins ([(0, .own s k 0 (i + (es.drop (i + 1)).length) q)], [(k, .live (.arr s (List.take (i + (es.drop (i + 1)).length) (es.take i ++ (es.drop (i + 1) ++ R)) ++ T)))]) ([(0, .own s k 0 (es.eraseIdx i).length .opn)], [(k, .live (.arr s (es.eraseIdx i)))]) := by
  have h1 : es.eraseIdx i = es.take i ++ es.drop (i + 1) := List.eraseIdx_eq_take_drop_succ ..
  have h2 : i + (es.drop (i + 1)).length = (es.take i ++ es.drop (i + 1)).length := by rw [List.length_append, List.length_take]; omega
  rw [h1, h2, ← List.append_assoc, List.take_left']
  · exact .trans (.le (.cons _ _ _ _ _ .opn <| .refl _) (.refl _)) (.cut (.cut (fun j e h => by
      rw [List.getElem?_append_left (List.getElem?_eq_some_iff.1 h).1]
      exact h) .nil))
  · rfl
theorem c206 (F : List ByteArray) (i : Nat) (hi : i < F.length) (hF : F.length ≤ 1048576) : ACall cx.P 206 [.own 1 32 0 (F.map encT).length .opn, .int .i64 i, .int .i64 ((i + 1 : Nat) : Int)] [(32, .live (.arr 1 (F.map encT)))] (.own 1 32 0 ((F.eraseIdx i).map encT).length .opn) [(32, .live (.arr 1 ((F.eraseIdx i).map encT)))] := acall3 Tryz.f206 (by kernel_rfl) (by kernel_rfl) rfl <| by
  have hE : (F.map encT).length = F.length := List.length_map _
  conv => whnf
  refine ⟨⟨Int.natCast_nonneg _, by omega, by omega, by omega⟩, ?_⟩
  conv => whnf
  conv => whnf
  refine ⟨fun w1 => ?_, fun w1 => ?_⟩
  · have := of_decide_eq_true w1
    omega
  · clear w1
    conv => whnf
    refine ⟨⟨Int.natCast_nonneg _, by omega⟩, ?_⟩
    conv => whnf
    conv => whnf
    refine ⟨⟨Int.natCast_nonneg _, by omega⟩, ?_⟩
    conv => whnf
    conv => whnf
    refine ⟨by rw [Int.toNat_natCast]; omega, ?_⟩
    conv => whnf
    conv => whnf
    refine ⟨by rw [Int.toNat_natCast, Int.toNat_natCast, List.length_drop]; omega, ?_⟩
    conv => whnf
    conv => whnf
    refine ⟨by kernel_rfl, ?_⟩
    conv => whnf
    conv => whnf
    refine ⟨by rw [Int.toNat_natCast, Int.toNat_natCast, List.length_drop]; omega, ?_⟩
    conv => whnf
    conv => whnf
    refine ⟨by simp only [Int.toNat_natCast, List.length_append, List.length_take, List.length_drop]; omega, ?_⟩
    conv => whnf
    conv => whnf
    rw [map_erase]
    simp only [Int.toNat_natCast, Nat.zero_add]
    exact del_cut (by omega)
theorem c205 (F : List S47) (i : Nat) (hi : i < F.length) (hF : F.length ≤ 1048576) : ACall cx.P 205 [.own 7 32 0 (F.map enc47).length .opn, .int .i64 i, .int .i64 ((i + 1 : Nat) : Int)] [(32, .live (.arr 7 (F.map enc47)))] (.own 7 32 0 ((F.eraseIdx i).map enc47).length .opn) [(32, .live (.arr 7 ((F.eraseIdx i).map enc47)))] := acall3 Tryz.f205 (by kernel_rfl) (by kernel_rfl) rfl <| by
  have hE : (F.map enc47).length = F.length := List.length_map _
  conv => whnf
  refine ⟨⟨Int.natCast_nonneg _, by omega, by omega, by omega⟩, ?_⟩
  conv => whnf
  conv => whnf
  refine ⟨fun w1 => ?_, fun w1 => ?_⟩
  · have := of_decide_eq_true w1
    omega
  · clear w1
    conv => whnf
    refine ⟨⟨Int.natCast_nonneg _, by omega⟩, ?_⟩
    conv => whnf
    conv => whnf
    refine ⟨⟨Int.natCast_nonneg _, by omega⟩, ?_⟩
    conv => whnf
    conv => whnf
    refine ⟨by rw [Int.toNat_natCast]; omega, ?_⟩
    conv => whnf
    conv => whnf
    refine ⟨by rw [Int.toNat_natCast, Int.toNat_natCast, List.length_drop]; omega, ?_⟩
    conv => whnf
    conv => whnf
    refine ⟨by kernel_rfl, ?_⟩
    conv => whnf
    conv => whnf
    refine ⟨by rw [Int.toNat_natCast, Int.toNat_natCast, List.length_drop]; omega, ?_⟩
    conv => whnf
    conv => whnf
    refine ⟨by simp only [Int.toNat_natCast, List.length_append, List.length_take, List.length_drop]; omega, ?_⟩
    conv => whnf
    conv => whnf
    rw [map_erase]
    simp only [Int.toNat_natCast, Nat.zero_add]
    exact del_cut (by omega)
end Go.Ab
namespace Go.Ab
open Go.Proofs Sn
set_option maxRecDepth 100000
set_option linter.unnecessarySimpa false
set_option linter.unusedSimpArgs false
set_option maxHeartbeats 4000000
def isR (x : S47) : Bool := sEq x.f2 ⟨#[]⟩
theorem isR_iff {x : S47} : isR x = true ↔ x.f2 = ByteArray.empty := sEq_iff _ _
def odd (x : S47) : Bool := !nameIs x.f0
theorem c152 (x : S47) : PCall cx.P 152 [.agg (enc47 x)] (.bool (isR x)) := pcall3 Tryz.f152 (by kernel_rfl) (by kernel_rfl) <| by
  conv => whnf
  exact .of rfl
theorem c153 (x : S47) : PCall cx.P 153 [.agg (enc47 x)] (.bool (odd x)) := pcall3 Tryz.f153 (by kernel_rfl) (by kernel_rfl) <| by
  conv => whnf
  refine ⟨_, c154 _, ?_⟩
  conv => whnf
  conv => whnf
  exact .of rfl
theorem c155a (m : List S47) (hm : m.length ≤ 1048576) : ACall cx.P 155 [.row 7 (m.map enc47), .fn 152 [] []] [] (.int .i64 (firstAt (fun j => isR (m.getD j z47)) m.length)) [] := acallA [] Tryz.f155 (by kernel_rfl) (by kernel_rfl) rfl <| by
  have hE : (m.map enc47).length = m.length := List.length_map _
  have hp := c152
  conv => whnf
  refine .inr (.inl ⟨[0, 1, 7, 8], Nat, fun j => ([(0, .row 7 (m.map enc47)), (1, .fn 152 [] []), (7, .int .i64 m.length), (8, .int .i64 j)], []), fun j => j ≤ m.length ∧ ∀ k, k < j → isR (m.getD k z47) = false, fun j => m.length - j, ?_, fun j hj => ?_⟩)
  · conv => whnf
    exact ⟨0, .of (by rw [← hE]; rfl), Nat.zero_le _, fun k h => absurd h (Nat.not_lt_zero k)⟩
  · obtain ⟨hj1, hj2⟩ := hj
    conv => whnf
    refine ⟨fun w1 => ?_, fun w1 => ?_⟩
    · replace w1 := lti w1
      obtain ⟨x, hx⟩ := at_ex w1
      conv => whnf
      refine ⟨⟨Int.natCast_nonneg _, by omega⟩, ?_⟩
      conv => whnf
      conv => whnf
      refine ⟨_, map_at hx, ?_⟩
      conv => whnf
      conv => whnf
      refine ⟨_, hp x, ?_⟩
      conv => whnf
      conv => whnf
      refine ⟨fun w3 => ?_, fun w3 => ?_⟩
      · conv => whnf
        refine .of ?_
        rw [show firstAt (fun j => isR (m.getD j z47)) m.length = (j : Int) from firstAt_hit w1 (by rw [getD_at hx]; exact w3) hj2]
      · conv => whnf
        exact ⟨j + 1, .of (by rw [up1 w1 (by omega)]), ⟨w1, nx1 hj2 (by rw [getD_at hx]; exact w3)⟩, by show m.length - (j + 1) < m.length - j; omega⟩
    · replace w1 := nlti w1
      conv => whnf
      refine .of ?_
      rw [show firstAt (fun j => isR (m.getD j z47)) m.length = -1 from firstAt_miss fun k hk => hj2 k (by omega)]
theorem c155b (m : List S47) (hm : m.length ≤ 1048576) : ACall cx.P 155 [.row 7 (m.map enc47), .fn 153 [] []] [] (.int .i64 (firstAt (fun j => odd (m.getD j z47)) m.length)) [] := acallA [] Tryz.f155 (by kernel_rfl) (by kernel_rfl) rfl <| by
  have hE : (m.map enc47).length = m.length := List.length_map _
  have hp := c153
  conv => whnf
  refine .inr (.inl ⟨[0, 1, 7, 8], Nat, fun j => ([(0, .row 7 (m.map enc47)), (1, .fn 153 [] []), (7, .int .i64 m.length), (8, .int .i64 j)], []), fun j => j ≤ m.length ∧ ∀ k, k < j → odd (m.getD k z47) = false, fun j => m.length - j, ?_, fun j hj => ?_⟩)
  · conv => whnf
    exact ⟨0, .of (by rw [← hE]; rfl), Nat.zero_le _, fun k h => absurd h (Nat.not_lt_zero k)⟩
  · obtain ⟨hj1, hj2⟩ := hj
    conv => whnf
    refine ⟨fun w1 => ?_, fun w1 => ?_⟩
    · replace w1 := lti w1
      obtain ⟨x, hx⟩ := at_ex w1
      conv => whnf
      refine ⟨⟨Int.natCast_nonneg _, by omega⟩, ?_⟩
      conv => whnf
      conv => whnf
      refine ⟨_, map_at hx, ?_⟩
      conv => whnf
      conv => whnf
      refine ⟨_, hp x, ?_⟩
      conv => whnf
      conv => whnf
      refine ⟨fun w3 => ?_, fun w3 => ?_⟩
      · conv => whnf
        refine .of ?_
        rw [show firstAt (fun j => odd (m.getD j z47)) m.length = (j : Int) from firstAt_hit w1 (by rw [getD_at hx]; exact w3) hj2]
      · conv => whnf
        exact ⟨j + 1, .of (by rw [up1 w1 (by omega)]), ⟨w1, nx1 hj2 (by rw [getD_at hx]; exact w3)⟩, by show m.length - (j + 1) < m.length - j; omega⟩
    · replace w1 := nlti w1
      conv => whnf
      refine .of ?_
      rw [show firstAt (fun j => odd (m.getD j z47)) m.length = -1 from firstAt_miss fun k hk => hj2 k (by omega)]
theorem c155o (m : List S47) (hm : m.length ≤ 1048576) : ACall cx.P 155 [.own 7 32 0 (m.map enc47).length .opn, .fn 152 [] []] [(32, .live (.arr 7 (m.map enc47)))] (.int .i64 (firstAt (fun j => isR (m.getD j z47)) m.length)) [(32, .live (.arr 7 (m.map enc47)))] := acallA [] Tryz.f155 (by kernel_rfl) (by kernel_rfl) rfl <| by
  have hE : (m.map enc47).length = m.length := List.length_map _
  have hp := c152
  conv => whnf
  refine .inr (.inl ⟨[0, 1, 7, 8], Nat, fun j => ([(0, .own 7 32 0 (m.map enc47).length .opn), (1, .fn 152 [] []), (7, .int .i64 m.length), (8, .int .i64 j)], [(32, .live (.arr 7 (m.map enc47)))]), fun j => j ≤ m.length ∧ ∀ k, k < j → isR (m.getD k z47) = false, fun j => m.length - j, ?_, fun j hj => ?_⟩)
  · conv => whnf
    exact ⟨0, .of (by rw [← hE]; rfl), Nat.zero_le _, fun k h => absurd h (Nat.not_lt_zero k)⟩
  · obtain ⟨hj1, hj2⟩ := hj
    conv => whnf
    refine ⟨fun w1 => ?_, fun w1 => ?_⟩
    · replace w1 := lti w1
      obtain ⟨x, hx⟩ := at_ex w1
      conv => whnf
      refine ⟨⟨Int.natCast_nonneg _, by omega⟩, ?_⟩
      conv => whnf
      conv => whnf
      refine ⟨_, map_at0 hx, ?_⟩
      conv => whnf
      conv => whnf
      refine ⟨_, hp x, ?_⟩
      conv => whnf
      conv => whnf
      refine ⟨fun w3 => ?_, fun w3 => ?_⟩
      · conv => whnf
        refine .of ?_
        rw [show firstAt (fun j => isR (m.getD j z47)) m.length = (j : Int) from firstAt_hit w1 (by rw [getD_at hx]; exact w3) hj2]
      · conv => whnf
        exact ⟨j + 1, .of (by rw [up1 w1 (by omega)]), ⟨w1, nx1 hj2 (by rw [getD_at hx]; exact w3)⟩, by show m.length - (j + 1) < m.length - j; omega⟩
    · replace w1 := nlti w1
      conv => whnf
      refine .of ?_
      rw [show firstAt (fun j => isR (m.getD j z47)) m.length = -1 from firstAt_miss fun k hk => hj2 k (by omega)]
theorem c110p (m : List S47) (hm : m.length ≤ 1048576) : ACall cx.P 110 [.row 7 (m.map enc47), .fn 153 [] []] [] (.bool (m.any odd)) [] := acallA [] Tryz.f110 (by kernel_rfl) (by kernel_rfl) rfl <| by
  rw [← fa_any (z := z47)]
  conv => whnf
  refine ⟨_, _, c155b m hm, ?_⟩
  conv => whnf
  conv => whnf
  exact .of rfl
end Go.Ab
namespace Go.Ab
open Go.Proofs Sn
set_option maxRecDepth 100000
set_option linter.unnecessarySimpa false
set_option linter.unusedSimpArgs false
set_option maxHeartbeats 4000000
def flt (m : List S47) : List S47 := m.filter fun x => !isR x
theorem flt_all {m : List S47} (h : firstAt (fun j => isR (m.getD j z47)) m.length = -1) : flt m = m := by
  unfold flt
  rw [List.filter_eq_self]
  intro x hx
  obtain ⟨i, hi, e⟩ := mem_getD (z := z47) hx
  cases hr : isR x with
  | false => rfl
  | true =>
    have := (firstAt_ge (p := fun j => isR (m.getD j z47)) (n := m.length)).2 ⟨i, hi, by rw [e]; exact hr⟩
    omega
theorem flt_take {m : List S47} {i : Nat} (h : ∀ j, j < i → isR (m.getD j z47) = false) (hi : i ≤ m.length) : flt (m.take i) = m.take i := by
  unfold flt
  rw [List.filter_eq_self]
  intro x hx
  obtain ⟨j, hj, e⟩ := mem_getD (z := z47) hx
  rw [List.length_take] at hj
  have e2 : m.getD j z47 = x := by
    rw [← e, List.getD_eq_getElem?_getD, List.getD_eq_getElem?_getD, List.getElem?_take_of_lt (by omega)]
  rw [← e2, h j (by omega)]
  rfl
theorem flt_snoc {m : List S47} {j : Nat} {x : S47} (h : m[j]? = some x) : flt (m.take (j + 1)) = flt (m.take j) ++ bif isR x then [] else [x] := by
  unfold flt
  rw [snoc_take h, List.filter_append]
  congr 1
  cases hr : isR x with
  | true => rw [List.filter_cons, if_neg (by rw [hr]; decide)]; rfl
  | false => rw [List.filter_cons, if_pos (by rw [hr]; decide)]; rfl
theorem c157 (m : List S47) (hm : m.length ≤ 1048576) : ACall cx.P 157 [.own 7 32 0 (m.map enc47).length .opn, .fn 152 [] []] [(32, .live (.arr 7 (m.map enc47)))] (.own 7 32 0 ((flt m).map enc47).length .opn) [(32, .live (.arr 7 ((flt m).map enc47)))] := acallA [] Tryz.f157 (by kernel_rfl) (by kernel_rfl) rfl <| by
  have hE : (m.map enc47).length = m.length := List.length_map _
  conv => whnf
  refine ⟨_, _, c155o m hm, ?_⟩
  conv => whnf
  conv => whnf
  refine ⟨fun w1 => ?_, fun w1 => ?_⟩
  · have w1 := eq_of_beq w1
    conv => whnf
    rw [flt_all w1]
    exact .of rfl
  · have w1 := ne_of_beq w1
    obtain ⟨i, hi, hp, hb, he⟩ : ∃ i : Nat, i < m.length ∧ isR (m.getD i z47) = true ∧ (∀ j, j < i → isR (m.getD j z47) = false) ∧ firstAt (fun j => isR (m.getD j z47)) m.length = (i : Int) := by
      refine firstAt_at (p := fun j => isR (m.getD j z47)) (n := m.length) ?_
      refine Decidable.byContradiction fun h => w1 ?_
      refine firstAt_miss fun j hj => ?_
      cases hr : isR (m.getD j z47) with
      | false => rfl
      | true => exact absurd ((firstAt_ge (p := fun j => isR (m.getD j z47)) (n := m.length)).2 ⟨j, hj, hr⟩) h
    rw [he]
    clear w1 he
    conv => whnf
    refine .inr (.inl ⟨[0, 1, 5, 6], List S47 × Nat × Nat, fun a => ([(0, .own 7 32 0 (m.map enc47).length .opn), (1, .fn 152 [] []), (5, .int .i64 a.2.1), (6, .int .i64 a.2.2)], [(32, .live (.arr 7 (a.1.map enc47)))]), fun a => a.1.length = m.length ∧ a.2.1 < a.2.2 ∧ a.2.2 ≤ m.length ∧ a.1.take a.2.1 = flt (m.take a.2.2) ∧ a.1.drop a.2.2 = m.drop a.2.2, fun a => m.length - a.2.2, ?_, fun a ha => ?_⟩)
    · conv => whnf
      refine ⟨(m, i, i + 1), .of ?_, rfl, Nat.lt_succ_self i, hi, ?_, rfl⟩
      · rw [up1 hi (by omega)]
      · rw [flt_snoc (show m[i]? = some (m.getD i z47) by rw [getD_of hi]; exact List.getElem?_eq_getElem hi), hp, flt_take hb (by omega)]
        exact (List.append_nil _).symm
    · obtain ⟨A, i, j⟩ := a
      obtain ⟨h1, h2, h3, h4, h5⟩ := ha
      dsimp only at h1 h2 h3 h4 h5 ⊢
      have hA : (A.map enc47).length = A.length := List.length_map _
      conv => whnf
      refine ⟨fun w2 => ?_, fun w2 => ?_⟩
      · have w2 : j < m.length := by have := of_decide_eq_true w2; omega
        obtain ⟨x, hx⟩ := at_ex w2
        have hxA : A[j]? = some x := by
          have e1 : (A.drop j)[0]? = (m.drop j)[0]? := by rw [h5]
          rw [List.getElem?_drop, List.getElem?_drop] at e1
          exact e1.trans hx
        have h6 : A.drop (j + 1) = m.drop (j + 1) := by
          have := congrArg (List.drop 1) h5
          rw [List.drop_drop, List.drop_drop] at this
          exact this
        conv => whnf
        refine ⟨⟨Int.natCast_nonneg _, by omega⟩, ?_⟩
        conv => whnf
        conv => whnf
        refine ⟨_, map_at0 hxA, ?_⟩
        conv => whnf
        conv => whnf
        refine ⟨_, c152 x, ?_⟩
        conv => whnf
        conv => whnf
        refine ⟨fun w3 => ?_, fun w3 => ?_⟩
        · have hr : isR x = false := by simpa using w3
          obtain ⟨y, hy⟩ := at_ex (show i < A.length by omega)
          conv => whnf
          refine ⟨⟨Int.natCast_nonneg _, by omega⟩, ?_⟩
          conv => whnf
          conv => whnf
          refine ⟨_, map_at0 hy, ?_⟩
          conv => whnf
          conv => whnf
          refine ⟨(A.set i x, i + 1, j + 1), ?_, ⟨by dsimp only; rw [List.length_set, h1], by dsimp only; omega, w2, ?_, ?_⟩, by show m.length - (j + 1) < m.length - j; omega⟩
          · dsimp only
            rw [up1 (show i < m.length by omega) (by omega), up1 w2 (by omega), List.map_set]
            refine .of ?_
            rw [Nat.zero_add, Int.toNat_natCast]
            rfl
          · dsimp only
            rw [flt_snoc hx, hr, ← h4]
            have hs : (A.set i x)[i]? = some x := by rw [List.getElem?_set_self (by omega)]
            rw [snoc_take hs, List.take_set, List.set_eq_of_length_le (by rw [List.length_take]; omega)]
            rfl
          · dsimp only
            rw [List.drop_set_of_lt (by omega)]
            exact h6
        · have hr : isR x = true := by simpa using w3
          conv => whnf
          refine ⟨(A, i, j + 1), .of (by dsimp only; rw [up1 w2 (by omega)]), ⟨h1, by dsimp only; omega, w2, ?_, h6⟩, by show m.length - (j + 1) < m.length - j; omega⟩
          dsimp only
          rw [flt_snoc hx, hr, ← h4]
          exact (List.append_nil _).symm
      · have w2 : ¬ j < m.length := by have := of_decide_eq_false w2; omega
        have hjm : j = m.length := by omega
        subst hjm
        rw [List.take_length] at h4
        conv => whnf
        refine ⟨⟨Int.natCast_nonneg _, by omega⟩, ?_⟩
        conv => whnf
        conv => whnf
        refine ⟨by simp only [Int.toNat_natCast]; omega, ?_⟩
        conv => whnf
        conv => whnf
        refine ⟨⟨Int.natCast_nonneg _, by omega⟩, ?_⟩
        conv => whnf
        conv => whnf
        have e : (flt m).map enc47 = (A.map enc47).take i := by rw [← h4, List.map_take]
        have el : ((flt m).map enc47).length = i := by rw [e, List.length_take]; omega
        rw [el, e]
        simp only [Int.toNat_natCast, Nat.zero_add]
        exact .trans (.le (.cons _ _ _ _ _ .opn <| .refl _) (.refl _)) (.cut (.cut (fun j e h => by
          rw [List.getElem?_append_left (List.getElem?_eq_some_iff.1 h).1]
          exact h) .nil))
end Go.Ab
namespace Go.Ab
open Sn
def cmpn (k : Int) (v : Lo) : Lo := if k = 1 then (v.1, ⟨⟨#[]⟩, v.2.1.f1, v.2.1.f2, false, v.2.1.f4, [], []⟩, false) else if k = 2 then (false, ⟨⟨#[]⟩, 0, ⟨#[]⟩, v.2.1.f3, 0, [], []⟩, false) else if k = 3 then (false, ⟨⟨#[]⟩, 0, ⟨#[]⟩, false, 0, v.2.1.f5, []⟩, false) else if k = 4 then (false, ⟨⟨#[]⟩, 0, ⟨#[]⟩, false, 0, [], v.2.1.f6⟩, false) else (false, z47, v.2.2)
theorem step_keep {v u : Lo} {e : S62} {k : Int} (hw : v.1 = false → v.2.1 = z47) (h : stepL v e = some u) (hk : e.f1 ≠ k) (hd : k = 1 ∨ k = 5 ∨ ¬ (e.f1 = 1 ∧ e.f2 = false)) (hk1 : 1 ≤ k) (hk5 : k ≤ 5) : cmpn k u = cmpn k v ∧ (u.1 = false → u.2.1 = z47) := by
  obtain ⟨p, x, c⟩ := v
  obtain ⟨i, f, b, y⟩ := e
  have hf : f = 5 ∨ f = 1 ∨ f = 2 ∨ f = 3 ∨ f = 4 := by
    refine Decidable.byContradiction fun hn => ?_
    unfold stepL at h
    rw [if_neg (by intro q; exact hn (.inl q)), if_neg (by intro q; exact hn (.inr (.inl q))), if_neg (by intro q; have : 2 ≤ f ∧ f ≤ 4 := q; omega)] at h
    cases h
  have hkk : k = 1 ∨ k = 2 ∨ k = 3 ∨ k = 4 ∨ k = 5 := by omega
  cases p with
  | false =>
    have hx : x = z47 := hw rfl
    subst hx
    rcases hf with rfl | rfl | rfl | rfl | rfl
    · unfold stepL at h
      rw [if_pos rfl] at h
      split at h
      · cases h
      · cases h
        rcases hkk with rfl | rfl | rfl | rfl | rfl
        · exact ⟨rfl, fun _ => rfl⟩
        · exact ⟨rfl, fun _ => rfl⟩
        · exact ⟨rfl, fun _ => rfl⟩
        · exact ⟨rfl, fun _ => rfl⟩
        · exact absurd rfl hk
    · cases b with
      | false => cases h
      | true =>
        cases h
        rcases hkk with rfl | rfl | rfl | rfl | rfl
        · exact absurd rfl hk
        · exact ⟨rfl, fun h => by cases h⟩
        · exact ⟨rfl, fun h => by cases h⟩
        · exact ⟨rfl, fun h => by cases h⟩
        · exact ⟨rfl, fun h => by cases h⟩
    · cases h
    · cases h
    · cases h
  | true =>
    rcases hf with rfl | rfl | rfl | rfl | rfl
    · unfold stepL at h
      rw [if_pos rfl] at h
      split at h
      · cases h
      · cases h
        rcases hkk with rfl | rfl | rfl | rfl | rfl
        · exact ⟨rfl, fun h => by cases h⟩
        · exact ⟨rfl, fun h => by cases h⟩
        · exact ⟨rfl, fun h => by cases h⟩
        · exact ⟨rfl, fun h => by cases h⟩
        · exact absurd rfl hk
    · cases b with
      | false =>
        cases h
        rcases hkk with rfl | rfl | rfl | rfl | rfl
        · exact absurd rfl hk
        · exact absurd hd (by simp)
        · exact absurd hd (by simp)
        · exact absurd hd (by simp)
        · exact ⟨rfl, fun _ => rfl⟩
      | true =>
        cases h
        rcases hkk with rfl | rfl | rfl | rfl | rfl
        · exact absurd rfl hk
        · exact ⟨rfl, fun h => by cases h⟩
        · exact ⟨rfl, fun h => by cases h⟩
        · exact ⟨rfl, fun h => by cases h⟩
        · exact ⟨rfl, fun h => by cases h⟩
    all_goals
      cases h
      rcases hkk with rfl | rfl | rfl | rfl | rfl <;> first | exact absurd rfl hk | exact ⟨rfl, fun h => by cases h⟩
theorem runL_keep {k : Int} (hk1 : 1 ≤ k) (hk5 : k ≤ 5) : ∀ (l : List S62) (v u : Lo), (v.1 = false → v.2.1 = z47) → (∀ e ∈ l, e.f1 ≠ k ∧ (k = 1 ∨ k = 5 ∨ ¬ (e.f1 = 1 ∧ e.f2 = false))) → runL l v = some u → cmpn k u = cmpn k v
  | [], v, u, _, _, h => by cases h; rfl
  | e :: l, v, u, hw, hl, h => by
    have h : (match stepL v e with | some w => runL l w | none => none) = some u := h
    cases hs : stepL v e with
    | none => rw [hs] at h; cases h
    | some w =>
      rw [hs] at h
      obtain ⟨h1, h2⟩ := hl e (List.mem_cons_self ..)
      obtain ⟨g1, g2⟩ := step_keep hw hs h1 h2 hk1 hk5
      exact (runL_keep hk1 hk5 l w u g2 (fun e he => hl e (List.mem_cons_of_mem _ he)) h).trans g1
theorem bif_mem {c : Bool} {x e : S62} (h : e ∈ bif c then [x] else []) : c = true ∧ e = x := by
  cases c with
  | false => cases h
  | true => exact ⟨rfl, List.mem_singleton.1 h⟩
theorem edit_turns {s t : St} {id : ByteArray} {e : S62} (h : e ∈ edI s.2 t.2 id ++ edF s.1 t.1 id) : cmpn e.f1 (loc s id) ≠ cmpn e.f1 (loc t id) := by
  rcases List.mem_append.1 h with h | h
  · rw [edI_X] at h
    unfold edX at h
    rcases List.mem_append.1 h with h | h
    · obtain ⟨hc, rfl⟩ := bif_mem h
      intro he
      have he : ((hasI s.2 id, (⟨⟨#[]⟩, (getI s.2 id).f1, (getI s.2 id).f2, false, (getI s.2 id).f4, [], []⟩ : S47), false) : Lo) = (hasI t.2 id, ⟨⟨#[]⟩, (getI t.2 id).f1, (getI t.2 id).f2, false, (getI t.2 id).f4, [], []⟩, false) := he
      rw [Prod.mk.injEq, Prod.mk.injEq, S47.mk.injEq] at he
      obtain ⟨h1, ⟨_, h2, h3, _, h4, _⟩, _⟩ := he
      rw [h1, bne_self_eq_false, sameHd_iff.2 ⟨h2, h3, h4⟩] at hc
      cases hc
    · cases hq : hasI t.2 id with
      | false => rw [hq] at h; cases h
      | true =>
        rw [hq] at h
        rcases List.mem_append.1 h with h | h
        · obtain ⟨hc, rfl⟩ := bif_mem h
          intro he
          have he : ((false, (⟨⟨#[]⟩, 0, ⟨#[]⟩, (getI s.2 id).f3, 0, [], []⟩ : S47), false) : Lo) = (false, ⟨⟨#[]⟩, 0, ⟨#[]⟩, (getI t.2 id).f3, 0, [], []⟩, false) := he
          have h2 : (getI s.2 id).f3 = (getI t.2 id).f3 := congrArg (fun v : Lo => v.2.1.f3) he
          rw [h2, bne_self_eq_false] at hc
          cases hc
        · rcases List.mem_append.1 h with h | h
          · obtain ⟨hc, rfl⟩ := bif_mem h
            intro he
            have he : ((false, (⟨⟨#[]⟩, 0, ⟨#[]⟩, false, 0, (getI s.2 id).f5, []⟩ : S47), false) : Lo) = (false, ⟨⟨#[]⟩, 0, ⟨#[]⟩, false, 0, (getI t.2 id).f5, []⟩, false) := he
            have h2 : (getI s.2 id).f5 = (getI t.2 id).f5 := congrArg (fun v : Lo => v.2.1.f5) he
            rw [h2, eqq_y rfl] at hc
            cases hc
          · obtain ⟨hc, rfl⟩ := bif_mem h
            intro he
            have he : ((false, (⟨⟨#[]⟩, 0, ⟨#[]⟩, false, 0, [], (getI s.2 id).f6⟩ : S47), false) : Lo) = (false, ⟨⟨#[]⟩, 0, ⟨#[]⟩, false, 0, [], (getI t.2 id).f6⟩, false) := he
            have h2 : (getI s.2 id).f6 = (getI t.2 id).f6 := congrArg (fun v : Lo => v.2.1.f6) he
            rw [h2, eqq_y rfl] at hc
            cases hc
  · obtain ⟨he, hn⟩ := edF_mem h
    subst he
    intro he
    have h2 : hasS s.1 id = hasS t.1 id := congrArg (fun v : Lo => v.2.2) he
    rw [h2, bne_self_eq_false] at hn
    cases hn
theorem ed_2 {s t : St} {id : ByteArray} {e e' : S62} (h : e ∈ edI s.2 t.2 id ++ edF s.1 t.1 id) (h' : e' ∈ edI s.2 t.2 id ++ edF s.1 t.1 id) : (1 ≤ e.f1 ∧ e.f1 ≤ 5) ∧ (e.f1 = 1 ∨ e.f1 = 5 ∨ ¬ (e'.f1 = 1 ∧ e'.f2 = false)) := by
  have f5 : ∀ {e : S62}, e ∈ edF s.1 t.1 id → e.f1 = 5 := fun h => by rw [(edF_mem h).1]
  refine ⟨?_, ?_⟩
  · rcases List.mem_append.1 h with h | h
    · have := edI_mem h; omega
    · have := f5 h; omega
  · rcases List.mem_append.1 h with h | h
    · unfold edI at h
      rcases List.mem_append.1 h with h | h
      · exact .inl (ed1_mem h).2.1
      · have hb := (edR_mem h).2.2.2
        refine .inr (.inr fun ⟨g1, g2⟩ => ?_)
        rcases List.mem_append.1 h' with h' | h'
        · unfold edI at h'
          rcases List.mem_append.1 h' with h' | h'
          · unfold ed1 at h'
            obtain ⟨_, rfl⟩ := bif_mem h'
            have g2 : hasI t.2 id = false := g2
            rw [hb] at g2
            cases g2
          · have := edR_mem h'; omega
        · have := f5 h'; omega
    · exact .inr (.inl (f5 h))
theorem atId_append (A B : List S62) (id : ByteArray) : atId (A ++ B) id = atId A id ++ atId B id := List.filter_append ..
theorem least {s t u : St} (hs : NiceF s) (ht : NiceF t) {A B : List S62} {e : S62} (h : specD s.1 s.2 t.1 t.2 = A ++ e :: B) (hr : runS (A ++ B) s = some u) : loc u e.f0 ≠ loc t e.f0 := by
  have hn := spec_nice hs ht
  rw [h] at hn
  obtain ⟨h1, _⟩ := run_loc (A ++ B) s hs.nice fun x hx => hn x (by
    rcases List.mem_append.1 hx with hx | hx
    · exact List.mem_append.2 (.inl hx)
    · exact List.mem_append.2 (.inr (List.mem_cons_of_mem _ hx)))
  obtain ⟨_, g2⟩ := h1 u hr
  have hl := atId_spec s t e.f0
  rw [h, atId_append, atId_cons] at hl
  have hrun := g2 e.f0
  rw [atId_append] at hrun
  have hp := edIF_rises s.1 t.1 s.2 t.2 e.f0
  rw [← hl] at hp
  have hmem : ∀ x, x ∈ atId A e.f0 ++ e :: atId B e.f0 → x ∈ edI s.2 t.2 e.f0 ++ edF s.1 t.1 e.f0 := fun x hx => hl ▸ hx
  have he := hmem e (List.mem_append.2 (.inr (List.mem_cons_self ..)))
  have hk := (ed_2 he he).1
  obtain ⟨_, p2, p3⟩ := List.pairwise_append.1 hp
  have key := runL_keep hk.1 hk.2 _ _ _ (loc_fl e.f0).1 (fun x hx => by
    rcases List.mem_append.1 hx with hx | hx
    · have := p3 x hx e (List.mem_cons_self ..)
      exact ⟨by omega, (ed_2 he (hmem x (List.mem_append.2 (.inl hx)))).2⟩
    · have := (List.pairwise_cons.1 p2).1 x hx
      exact ⟨by omega, (ed_2 he (hmem x (List.mem_append.2 (.inr (List.mem_cons_of_mem _ hx))))).2⟩) hrun
  intro hc
  rw [hc] at key
  exact edit_turns he key.symm
theorem ap_least {s t : St} (hs : IsN s.1 s.2) (ht : IsN t.1 t.2) {k : Nat} (hk : k < (specD s.1 s.2 t.1 t.2).length) : apS s ((specD s.1 s.2 t.1 t.2).take k ++ (specD s.1 s.2 t.1 t.2).drop (k + 1)) ≠ (t, 0) := by
  obtain ⟨L, hL⟩ : ∃ L, L = specD s.1 s.2 t.1 t.2 := ⟨_, rfl⟩
  rw [← hL] at hk ⊢
  have hsp : specD s.1 s.2 t.1 t.2 = L.take k ++ L[k] :: L.drop (k + 1) := by
    rw [← hL, ← List.drop_eq_getElem_cons hk, List.take_append_drop]
  intro h
  unfold apS at h
  rw [bP_iff.2 hs] at h
  simp only [cond_true] at h
  cases hA : bP (Adj (L.take k ++ L.drop (k + 1))) with
  | false => rw [hA] at h; cases h
  | true =>
    rw [hA] at h
    have h : (match runS (L.take k ++ L.drop (k + 1)) s with | none => ((([], []) : St), (1 : Int)) | some t => (match ordO t with | none => (([], []), 7) | some n => (n, 0))) = (t, 0) := h
    cases hr : runS (L.take k ++ L.drop (k + 1)) s with
    | none => rw [hr] at h; cases h
    | some u =>
      rw [hr] at h
      have h : (match ordO u with | none => ((([], []) : St), (7 : Int)) | some n => (n, 0)) = (t, 0) := h
      have hne := least (NiceF.of hs) (NiceF.of ht) hsp hr
      have hu : Nice u := ((run_loc _ s (NiceF.of hs).nice fun x hx => by
        refine spec_nice (NiceF.of hs) (NiceF.of ht) x ?_
        rw [hsp]
        rcases List.mem_append.1 hx with hx | hx
        · exact List.mem_append.2 (.inl hx)
        · exact List.mem_append.2 (.inr (List.mem_cons_of_mem _ hx))).1 u hr).1
      cases ho : ordO u with
      | none => rw [ho] at h; cases h
      | some n =>
        rw [ho] at h
        cases h
        exact hne (loc_ord hu ho _)
theorem Nice.rooted {s : St} (h : Nice s) {r : S47} (hr : r ∈ s.2) (he : r.f2 = ByteArray.empty) : Rooted S47.f0 S47.f2 s.2 r where
  nodup := h.xn
  mem := hr
  top p hp e := by
    have := h.names p hp
    rw [e, he, nameIs_empty] at this
    cases this
theorem depth16 {l : List S47} {r : S47} (h : Rooted S47.f0 S47.f2 l r) (hl : l.length ≤ 16) {y : S47} {n : Nat} (hy : y ∈ l) (ha : Anc S47.f0 S47.f2 l r y n) : n < 16 := Nat.lt_of_lt_of_le (h.depth hy ha) hl
theorem perm_of_len {α : Type} {A B : List α} (hA : A.Nodup) (hs : ∀ x ∈ A, x ∈ B) (hl : B.length ≤ A.length) (hB : B.Nodup) : A.Perm B := by
  refine (List.perm_ext_iff_of_nodup hA hB).2 fun x => ⟨hs x, fun hx => Classical.byContradiction fun hn => ?_⟩
  have h1 : (x :: A).Nodup := List.nodup_cons.2 ⟨hn, hA⟩
  have h2 := h1.length_le_of_subset (l₂ := B) (fun y hy => by
    rcases List.mem_cons.1 hy with rfl | hy
    · exact hx
    · exact hs y hy)
  rw [List.length_cons] at h2
  omega
theorem pre17 {l : List S47} {r : S47} (h : Rooted S47.f0 S47.f2 l r) (hl : l.length ≤ 16) {ord : List S47 → List S47} (ho : IsOrd ord) {f : S47 → S47} (j : Nat) : pre S47.f0 S47.f2 ord f l (16 + j) r = pre S47.f0 S47.f2 ord f l 16 r :=
  pre_more' ho h.mem (fun _ _ hy ha => depth16 h hl hy ha) j
theorem ord_to {s : St} (h : Nice s) {r : S47} (hr : r ∈ s.2) (he : r.f2 = ByteArray.empty) {p : St} (hp : OrdTo s.1 s.2 p.1 p.2) : s.2.length ≤ 16 ∧ (∀ y ∈ s.2, y.f2 = ByteArray.empty → y = r) ∧ (∀ y ∈ s.2, ∃ n, n < 16 ∧ Anc S47.f0 S47.f2 s.2 r y n) ∧ p.1 = sortL cmpS s.1 ∧ p.2 = pre S47.f0 S47.f2 ordID nIt s.2 16 r := by
  obtain ⟨f', x'⟩ := p
  obtain ⟨⟨r', F', rfl, o, hs, ht⟩, p1, p2⟩ := hp
  have p2 : (r' :: F').Perm s.2 := p2
  have hrr : r = r' := o.root_only (p2.mem_iff.2 hr) he
  subst hrr
  have hl : s.2.length ≤ 16 := by rw [← p2.length_eq]; exact Nat.succ_le_succ o.n16
  refine ⟨hl, fun y hy hye => o.root_only (p2.mem_iff.2 hy) hye, fun y hy => ?_, ?_, ?_⟩
  · obtain ⟨n, hn, ha⟩ := o.reach y (p2.mem_iff.2 hy)
    have tr : ∀ (n : Nat) (y : S47), Anc S47.f0 S47.f2 (r :: F') r y n → Anc S47.f0 S47.f2 s.2 r y n := fun n => by
      induction n with
      | zero => exact fun y h => h
      | succ n ih => exact fun y ⟨q, hq, e, ha⟩ => ⟨q, p2.mem_iff.1 hq, e, ih q ha⟩
    exact ⟨n, by omega, tr n y ha⟩
  · exact hs.symm.trans (sortL_of_perm isCmp_s p1)
  · have h1 := IsN.pre o ht
    show r :: F' = _
    rw [show 20 = 16 + 4 from rfl, pre17 o.rooted (by rw [p2.length_eq]; exact hl) isOrd_ID 4] at h1
    rw [← pre_of_perm h.xn p2 nIt 16 r]
    exact h1.symm
theorem nm_map {s : St} (h : Nice s) : s.2.map nIt = s.2 := by
  conv => rhs; rw [← List.map_id s.2]
  exact List.map_congr_left fun x hx => (h.nm x hx).1
theorem to_ord {s : St} (h : Nice s) {r : S47} (hr : r ∈ s.2) (he : r.f2 = ByteArray.empty) (hl : s.2.length ≤ 16) (hlen : (pre S47.f0 S47.f2 ordID nIt s.2 16 r).length = s.2.length) (ho : OkM (sortL cmpS s.1) (pre S47.f0 S47.f2 ordID nIt s.2 16 r)) : OrdTo s.1 s.2 (sortL cmpS s.1) (pre S47.f0 S47.f2 ordID nIt s.2 16 r) := by
  have hR := h.rooted hr he
  have hperm : (pre S47.f0 S47.f2 ordID nIt s.2 16 r).Perm s.2 := by
    refine perm_of_len (nodup_of_map (pre_nodup isOrd_ID (f := nIt) (fun _ => rfl) hR hr (show Anc S47.f0 S47.f2 s.2 r r 0 from rfl))) (fun x hx => ?_) (by omega) (nodup_of_map h.xn)
    obtain ⟨y, n, e, hy, _⟩ := (mem_pre isOrd_ID hr).1 hx
    rw [e, (h.nm y hy).1]
    exact hy
  refine ⟨?_, sortL_perm _, hperm⟩
  obtain ⟨r0, F0, e0, o⟩ := ho
  have hh : pre S47.f0 S47.f2 ordID nIt s.2 16 r = nIt r :: (ordID (kidsOf S47.f2 s.2 r.f0)).flatMap (pre S47.f0 S47.f2 ordID nIt s.2 15) := rfl
  have hr0 : r0 = r := by
    rw [hh] at e0
    rw [← (List.cons.inj e0).1]
    exact (h.nm r hr).1
  subst hr0
  refine ⟨r0, F0, e0, o, sortL_of_rises isCmp_s (sortL_rises isCmp_s _), ?_⟩
  have h1 := pre_of_perm h.xn hperm nIt 20 r0
  rw [show 20 = 16 + 4 from rfl, pre17 hR hl isOrd_ID 4, e0, turn_pre, norm_root o] at h1
  exact (List.cons.inj h1).2
end Go.Ab
namespace Go.Ab
open Sn
abbrev preN (l : List S47) (r : S47) : List S47 := pre S47.f0 S47.f2 ordID nIt l 16 r
abbrev preU (l : List S47) (k : Nat) (r : S47) : List S47 := pre S47.f0 S47.f2 (fun l => l) (fun x => x) l k r
theorem ord_no_root {s : St} (h : ∀ x ∈ s.2, x.f2 ≠ ByteArray.empty) : ordO s = none := ordO_none.2 fun ⟨p, hp⟩ => by
  obtain ⟨⟨r, F, e, o, _⟩, _, p2⟩ := hp
  rw [e] at p2
  exact h r (p2.mem_iff.1 (List.mem_cons_self ..)) o.plan.2.1
theorem ord_long {s : St} (h : 16 < s.2.length) : ordO s = none := ordO_none.2 fun ⟨p, hp⟩ => by
  obtain ⟨⟨r, F, e, o, _⟩, _, p2⟩ := hp
  rw [e] at p2
  have h1 := p2.length_eq
  have h2 := o.n16
  rw [List.length_cons] at h1
  omega
theorem two_roots {s : St} {r r' : S47} (h1 : r ∈ s.2) (h2 : r' ∈ s.2) (e1 : r.f2 = ByteArray.empty) (e2 : r'.f2 = ByteArray.empty) (hne : r ≠ r') : ordO s = none := ordO_none.2 fun ⟨p, hp⟩ => by
  obtain ⟨⟨q, F, e, o, _⟩, _, p2⟩ := hp
  rw [e] at p2
  exact hne ((o.root_only (p2.mem_iff.2 h1) e1).trans (o.root_only (p2.mem_iff.2 h2) e2).symm)
theorem reach_of {l : List S47} {r : S47} (h : Rooted S47.f0 S47.f2 l r) {ord : List S47 → List S47} (ho : IsOrd ord) (hlen : (pre S47.f0 S47.f2 ord (fun x => x) l 16 r).length = l.length) : ∀ y ∈ l, ∃ n, n < 16 ∧ Anc S47.f0 S47.f2 l r y n := fun y hy => by
  have hp : (pre S47.f0 S47.f2 ord (fun x => x) l 16 r).Perm l := perm_of_len (nodup_of_map (pre_nodup ho (f := fun x => x) (fun _ => rfl) h h.mem (show Anc S47.f0 S47.f2 l r r 0 from rfl))) (fun x hx => by
    obtain ⟨z, n, e, hz, _⟩ := (mem_pre ho h.mem).1 hx
    rw [e]; exact hz) (by omega) (nodup_of_map h.nodup)
  obtain ⟨z, n, e, _, hn, ha⟩ := (mem_pre ho h.mem).1 (hp.mem_iff.2 hy)
  exact ⟨n, hn, by rw [e]; exact ha⟩
theorem len_of {l : List S47} {r : S47} (h : Rooted S47.f0 S47.f2 l r) {ord : List S47 → List S47} (ho : IsOrd ord) {f : S47 → S47} (hf : ∀ x, (f x).f0 = x.f0) (hr : ∀ y ∈ l, ∃ n, n < 16 ∧ Anc S47.f0 S47.f2 l r y n) : (pre S47.f0 S47.f2 ord f l 16 r).length = l.length := by
  rw [(pre_perm ho hf h hr).length_eq, List.length_map]
theorem ord_no_reach {s : St} (h : Nice s) {r : S47} (hr : r ∈ s.2) (he : r.f2 = ByteArray.empty) (hlen : (preU s.2 16 r).length ≠ s.2.length) : ordO s = none := ordO_none.2 fun ⟨p, hp⟩ => by
  obtain ⟨_, _, h3, _⟩ := ord_to h hr he hp
  exact hlen (len_of (h.rooted hr he) isOrd_id (fun _ => rfl) h3)
theorem ord_no_reach' {s : St} (h : Nice s) {r : S47} (hr : r ∈ s.2) (he : r.f2 = ByteArray.empty) (hlen : (preN s.2 r).length ≠ s.2.length) : ordO s = none := ordO_none.2 fun ⟨p, hp⟩ => by
  obtain ⟨_, _, h3, _⟩ := ord_to h hr he hp
  exact hlen (len_of (h.rooted hr he) isOrd_ID (fun _ => rfl) h3)
theorem ord_last {s : St} (h : Nice s) {r : S47} (hr : r ∈ s.2) (he : r.f2 = ByteArray.empty) (hl : s.2.length ≤ 16) (hlen : (preN s.2 r).length = s.2.length) : ordO s = bif isB (sortL cmpS s.1) (preN s.2 r) then some (sortL cmpS s.1, preN s.2 r) else none := by
  cases hb : isB (sortL cmpS s.1) (preN s.2 r) with
  | true => exact ordO_some.2 (to_ord h hr he hl hlen (isB_iff.1 hb))
  | false =>
    refine ordO_none.2 fun ⟨p, hp⟩ => ?_
    obtain ⟨_, _, _, h4, h5⟩ := ord_to h hr he hp
    have h6 := hp.1
    rw [h4, h5] at h6
    obtain ⟨r0, F0, e, o, _⟩ := h6
    rw [isB_iff.2 ⟨r0, F0, e, o⟩] at hb
    cases hb
theorem len_U {s : St} (h : Nice s) {r : S47} (hr : r ∈ s.2) (he : r.f2 = ByteArray.empty) (hlen : (preU s.2 16 r).length = s.2.length) : (preN s.2 r).length = s.2.length ∧ (preU s.2 16 r).Perm s.2 := by
  have h1 := h.rooted hr he
  have h2 := reach_of h1 isOrd_id hlen
  refine ⟨len_of h1 isOrd_ID (fun _ => rfl) h2, ?_⟩
  have := pre_perm isOrd_id (f := fun x => x) (fun _ => rfl) h1 h2
  rwa [List.map_id'] at this
theorem rooted_perm {l l' : List S47} {r : S47} (h : Rooted S47.f0 S47.f2 l r) (hp : l'.Perm l) : Rooted S47.f0 S47.f2 l' r where
  nodup := (hp.map S47.f0).nodup_iff.2 h.nodup
  mem := hp.mem_iff.2 h.mem
  top p hpm := h.top p (hp.mem_iff.1 hpm)
theorem pre_lenR {l : List S47} {r : S47} (h : Rooted S47.f0 S47.f2 l r) {ord : List S47 → List S47} (ho : IsOrd ord) {f : S47 → S47} (hf : ∀ x, (f x).f0 = x.f0) (n : Nat) {x : S47} {d : Nat} (hx : x ∈ l) (ha : Anc S47.f0 S47.f2 l r x d) : (pre S47.f0 S47.f2 ord f l n x).length ≤ l.length := by
  have h1 := pre_nodup (f := f) ho hf h (k := n) hx ha
  have h2 : ((pre S47.f0 S47.f2 ord f l n x).map S47.f0).length ≤ (l.map S47.f0).length := by
    refine h1.length_le_of_subset (fun s hs => ?_)
    obtain ⟨z, hz, rfl⟩ := List.mem_map.1 hs
    obtain ⟨y, m, rfl, hy, _, _⟩ := (mem_pre ho hx).1 hz
    rw [hf]
    exact List.mem_map_of_mem hy
  simpa using h2
end Go.Ab
namespace Go.Ab
open Go.Proofs Sn
set_option maxRecDepth 100000
set_option linter.unnecessarySimpa false
set_option linter.unusedSimpArgs false
set_option maxHeartbeats 4000000
theorem sortI_all (l : List S47) (s : ByteArray) : (sortL (cmpAt l) (kidsI l s)).map (rd_T47 l) = ordID (kidsOf S47.f2 l s) := by
  have h1 := sortL_map (c := cmpID) (key := rd_T47 l) (kidsI l s)
  rw [kidsI_items] at h1
  exact h1
theorem c80t {fs : List ByteArray} {r : S47} {L : List S47} (h : Rooted S47.f0 S47.f2 L r) (hl16 : L.length ≤ 16) (hsm : ∀ x ∈ L, Small x.f5 ∧ Small x.f6) : ∀ (k d i : Nat) (x : S47), d + k = 16 → L[i]? = some x → Anc S47.f0 S47.f2 L r x d → PCall cx.P 80 [encM fs L, .int .i64 i] (.row 7 ((pre S47.f0 S47.f2 ordID nIt L k x).map enc47)) := by
  intro k
  induction k with
  | zero =>
    intro d i x hd hx ha
    have := depth16 h hl16 (List.mem_of_getElem? hx) ha
    omega
  | succ k ih =>
    intro d i x hd hx ha
    have hm : L.length ≤ 1048576 := by omega
    have hE : (L.map enc47).length = L.length := List.length_map _
    have hi := (List.getElem?_eq_some_iff.1 hx).1
    have hKm := kidsI_len L x.f0
    have hi5 := (hsm x (List.mem_of_getElem? hx)).1
    have hi6 := (hsm x (List.mem_of_getElem? hx)).2
    have hS := sortI_all L x.f0
    obtain ⟨K, hK⟩ : ∃ K, K = sortL (cmpAt L) (kidsI L x.f0) := ⟨_, rfl⟩
    have hKl : K.length = (kidsI L x.f0).length := by rw [hK, sortL_length]
    have h128 := c128n (fs := fs) h.nodup hm x.f0
    rw [← hK] at h128 hS
    have hKE : (K.map enc0).length = K.length := List.length_map _
    have hKI : ((kidsI L x.f0).map enc0).length = K.length := by rw [List.length_map, hKl]
    have h127 := c127 fs L x.f0 hm
    rw [hKI] at h127 h128
    refine pcall Tryz.f80 (by kernel_rfl) (by kernel_rfl) ?_
    unfold encM at h127 ⊢
    conv => whnf
    refine ⟨⟨Int.natCast_nonneg _, by omega⟩, ?_⟩
    conv => whnf
    conv => whnf
    refine ⟨_, map_at hx, ?_⟩
    conv => whnf
    conv => whnf
    refine ⟨_, c126 _ hi5, ?_⟩
    conv => whnf
    conv => whnf
    refine ⟨_, c126 _ hi6, ?_⟩
    conv => whnf
    conv => whnf
    refine ⟨by kernel_rfl, ?_⟩
    conv => whnf
    conv => whnf
    refine ⟨_, _, h127, ?_⟩
    conv => whnf
    conv => whnf
    refine ⟨_, _, h128, ?_⟩
    conv => whnf
    conv => whnf
    have hlen : ∀ t, (nIt x :: ((K.map (rd_T47 L)).take t).flatMap (pre S47.f0 S47.f2 ordID nIt L k)).length ≤ 1048576 := fun t => by
      have h1 := Nat.le_trans (pre_lenR h isOrd_ID (f := nIt) (fun _ => rfl) (k + 1) (List.mem_of_getElem? hx) ha) hm
      refine Nat.le_trans ?_ h1
      show _ ≤ (nIt x :: (ordID (kidsOf S47.f2 L x.f0)).flatMap (pre S47.f0 S47.f2 ordID nIt L k)).length
      rw [← hS, List.length_cons, List.length_cons]
      refine Nat.succ_le_succ ?_
      rw [List.length_flatMap, List.length_flatMap]
      conv => rhs; rw [← List.take_append_drop t (K.map (rd_T47 L))]
      rw [List.map_append, List.sum_append]
      exact Nat.le_add_right _ _
    refine .inr (.inl ⟨[2, 6, 32, 33, 34], Nat, fun j => ([(2, .bptr 144 0), (6, .own 7 400 0 ((nIt x :: ((K.map (rd_T47 L)).take j).flatMap (pre S47.f0 S47.f2 ordID nIt L k)).map enc47).length .opn), (32, .own 1 2064 0 K.length .opn), (33, .int .i64 K.length), (34, .int .i64 j)],
      [(2064, .live (.arr 1 (K.map enc0))), (400, .live (.arr 7 ((nIt x :: ((K.map (rd_T47 L)).take j).flatMap (pre S47.f0 S47.f2 ordID nIt L k)).map enc47))), (144, .live (.box [.row 1 (fs.map encT), .row 7 (L.map enc47)]))]), fun j => j ≤ K.length, fun j => K.length - j, ?_, fun j hj => ?_⟩)
    · conv => whnf
      exact ⟨0, .le (.cons _ _ _ _ _ .refl <| .cons _ _ _ _ _ .opn <| .refl _) (.refl _), Nat.zero_le _⟩
    · have hj : j ≤ K.length := hj
      conv => whnf
      refine ⟨fun w1 => ?_, fun w1 => ?_⟩
      · replace w1 := lti w1
        obtain ⟨a, hKa⟩ := at_ex w1
        have haK : a ∈ kidsI L x.f0 := by rw [← (sortL_perm (c := cmpAt L) _).mem_iff, ← hK]; exact List.mem_of_getElem? hKa
        obtain ⟨q, rfl, hq, hqp⟩ := kidsI_mem haK
        obtain ⟨y, hy⟩ := at_ex hq
        rw [getD_at hy] at hqp
        have hya : Anc S47.f0 S47.f2 L r y (d + 1) := by
          have := Anc.trans (m := 1) ⟨x, List.mem_of_getElem? hx, hqp.symm, rfl⟩ ha
          rwa [Nat.add_comm] at this
        have h80 := ih (d + 1) q y (by omega) hy hya
        unfold encM at h80
        conv => whnf
        refine ⟨⟨Int.natCast_nonneg _, by omega⟩, ?_⟩
        conv => whnf
        conv => whnf
        refine ⟨_, map_at0 hKa, ?_⟩
        conv => whnf
        conv => whnf
        refine ⟨_, h80, ?_⟩
        conv => whnf
        conv => whnf
        have hyd : rd_T47 L (q : Int) = y := by unfold rd_T47; rw [Int.toNat_natCast, getD_at hy]
        have hnx : (nIt x :: ((K.map (rd_T47 L)).take (j + 1)).flatMap (pre S47.f0 S47.f2 ordID nIt L k)) = (nIt x :: ((K.map (rd_T47 L)).take j).flatMap (pre S47.f0 S47.f2 ordID nIt L k)) ++ pre S47.f0 S47.f2 ordID nIt L k y := by
          rw [snoc_take (show (K.map (rd_T47 L))[j]? = some y by rw [List.getElem?_map, hKa]; exact congrArg some hyd), List.flatMap_append, List.cons_append]
          congr 2
          exact List.append_nil _
        have hl1 := hlen (j + 1)
        rw [hnx, List.length_append] at hl1
        refine ⟨⟨Nat.zero_add _, by rw [List.length_map, List.length_map]; show (_ + _) * 104 ≤ 2 ^ 47; omega⟩, ?_⟩
        conv => whnf
        conv => whnf
        refine ⟨j + 1, ?_, w1, by show K.length - (j + 1) < K.length - j; omega⟩
        dsimp only
        rw [hnx, up1 w1 (by omega), List.map_append, List.length_append]
        exact .of rfl
      · replace w1 := nlti w1
        conv => whnf
        refine ⟨by omega, ?_⟩
        conv => whnf
        conv => whnf
        have : (nIt x :: ((K.map (rd_T47 L)).take j).flatMap (pre S47.f0 S47.f2 ordID nIt L k)) = pre S47.f0 S47.f2 ordID nIt L (k + 1) x := by
          rw [List.take_of_length_le (by rw [List.length_map]; omega), hS]; rfl
        exact .of (by rw [List.drop_zero, this])
theorem c36t {fs : List ByteArray} {r : S47} {F : List S47} (hf : fs.length ≤ 1048576) (h : Rooted S47.f0 S47.f2 (r :: F) r) (hl16 : (r :: F).length ≤ 16) (hsm : ∀ x ∈ r :: F, Small x.f5 ∧ Small x.f6) : PCall cx.P 36 [encM fs (r :: F)] (encM (sortL cmpS fs) (preN (r :: F) r)) := pcall Tryz.f36 (by kernel_rfl) (by kernel_rfl) <| by
  have h80 := c80t (fs := fs) h hl16 hsm 16 0 0 r rfl rfl rfl
  unfold encM at h80 ⊢
  conv => whnf
  refine ⟨_, _, c78 _ hf, ?_⟩
  conv => whnf
  conv => whnf
  refine ⟨_, _, c79 _ hf, ?_⟩
  conv => whnf
  conv => whnf
  refine ⟨_, h80, ?_⟩
  conv => whnf
  conv => whnf
  refine ⟨by rw [Nat.zero_add, List.length_map, List.length_map, sortL_length], ?_⟩
  conv => whnf
  conv => whnf
  exact .of rfl
end Go.Ab
