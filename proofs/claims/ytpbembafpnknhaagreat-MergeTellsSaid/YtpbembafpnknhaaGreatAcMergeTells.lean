/- Proof texts of one seat, in one file: an evaluator of the program's form, shown sound, and the functions told by it. There are no conditions but those that each theorem names. -/
import Derived.Test.YtpbembafpnknhaaGreatAb0
import Derived.Test.YtpbembafpnknhaaGreatAb1
import Derived.Test.YtpbembafpnknhaaGreatAb2
import Derived.Test.YtpbembafpnknhaaGreatAb3
import Derived.Test.YtpbembafpnknhaaGreatAb4
import Derived.Test.YtpbembafpnknhaaGreatAb5
set_option linter.unusedVariables false
set_option linter.unusedSimpArgs false
set_option linter.unusedSectionVars false
set_option linter.unnecessarySimpa false
namespace Go.Ab
open Sn
structure S72 where
  f0 : ByteArray
  f1 : Int
theorem cmpn_1 (v : Lo) : cmpn 1 v = (v.1, ⟨⟨#[]⟩, v.2.1.f1, v.2.1.f2, false, v.2.1.f4, [], []⟩, false) := rfl
theorem cmpn_2 (v : Lo) : cmpn 2 v = (false, ⟨⟨#[]⟩, 0, ⟨#[]⟩, v.2.1.f3, 0, [], []⟩, false) := rfl
theorem cmpn_3 (v : Lo) : cmpn 3 v = (false, ⟨⟨#[]⟩, 0, ⟨#[]⟩, false, 0, v.2.1.f5, []⟩, false) := rfl
theorem cmpn_4 (v : Lo) : cmpn 4 v = (false, ⟨⟨#[]⟩, 0, ⟨#[]⟩, false, 0, [], v.2.1.f6⟩, false) := rfl
noncomputable def sm (k : Int) (u v : Lo) : Bool := eqq (cmpn k u) (cmpn k v)
theorem sm_iff {k : Int} {u v : Lo} : sm k u v = true ↔ cmpn k u = cmpn k v := eqq_iff
theorem sm_comm (k : Int) (u v : Lo) : sm k u v = sm k v u := bool_of (by rw [sm_iff, sm_iff]; exact ⟨Eq.symm, Eq.symm⟩)
theorem sm_self (k : Int) (u : Lo) : sm k u u = true := sm_iff.2 rfl
noncomputable def ch (k : Int) (o a b : Lo) : Option Lo := bif sm k b o then some a else bif sm k a o || sm k a b then some b else none
noncomputable def cvl (k : Int) (o a b : Lo) : Lo := cmpn k ((ch k o a b).getD o)
def cf (o a b : Bool) : Bool := bif a == o then b else a
noncomputable def tg (o a b : Lo) (id : ByteArray) : Lo := ((cvl 1 o a b).1, bif (cvl 1 o a b).1 then ⟨id, (cvl 1 o a b).2.1.f1, (cvl 1 o a b).2.1.f2, (cvl 2 o a b).2.1.f3, (cvl 1 o a b).2.1.f4, (cvl 3 o a b).2.1.f5, (cvl 4 o a b).2.1.f6⟩ else z47, cf o.2.2 a.2.2 b.2.2)
noncomputable def cl1 (k : Int) (o a b : Lo) (id : ByteArray) : List S72 := match ch k o a b with | none => [⟨id, k⟩] | some _ => []
noncomputable def clA (o a b : Lo) (id : ByteArray) : List S72 := cl1 1 o a b id ++ (cl1 2 o a b id ++ (cl1 3 o a b id ++ cl1 4 o a b id))
noncomputable def nm3 (o a b : St) : List ByteArray := namesOf [o, a, b]
noncomputable def clL (o a b : St) : List S72 := (nm3 o a b).flatMap fun id => clA (loc o id) (loc a id) (loc b id) id
noncomputable def tgt (o a b : St) (id : ByteArray) : Lo := tg (loc o id) (loc a id) (loc b id) id
noncomputable def tgS (o a b : St) : St := ((nm3 o a b).filter fun id => (tgt o a b id).2.2, ((nm3 o a b).filter fun id => (tgt o a b id).1).map fun id => (tgt o a b id).2.1)
noncomputable def mgS (o a b : St) : St × List S72 × Int := bif bP (IsN o.1 o.2) && (bP (IsN a.1 a.2) && bP (IsN b.1 b.2)) then (match clL o a b with | [] => (match ordO (tgS o a b) with | some n => (n, [], 0) | none => (([], []), [⟨⟨#[]⟩, 6⟩], 11)) | c :: l => (([], []), c :: l, 11)) else (([], []), [], 7)
def LoOk (v : Lo) (id : ByteArray) : Prop := (v.1 = false → v.2.1 = z47) ∧ (v.1 = true → v.2.1.f0 = id)
theorem loc_Ok (s : St) (id : ByteArray) : LoOk (loc s id) id := loc_fl id
theorem ch_or {k : Int} {o a b c : Lo} (h : ch k o a b = some c) : c = a ∨ c = b := by
  unfold ch at h
  cases h1 : sm k b o with
  | true => rw [h1] at h; cases h; exact .inl rfl
  | false =>
    rw [h1] at h
    cases h2 : sm k a o || sm k a b with
    | true => rw [h2] at h; cases h; exact .inr rfl
    | false => rw [h2] at h; cases h
theorem cl1_nil {k : Int} {o a b : Lo} {id : ByteArray} (h : cl1 k o a b id = []) : ∃ c, ch k o a b = some c ∧ cvl k o a b = cmpn k c := by
  unfold cl1 at h
  cases hc : ch k o a b with
  | none => rw [hc] at h; cases h
  | some c => exact ⟨c, rfl, by unfold cvl; rw [hc]; rfl⟩
theorem tg_f0 (o a b : Lo) (id : ByteArray) (h : (tg o a b id).1 = true) : (tg o a b id).2.1.f0 = id := by
  have h : (cvl 1 o a b).1 = true := h
  show (bif (cvl 1 o a b).1 then (⟨id, _, _, _, _, _, _⟩ : S47) else z47).f0 = id
  rw [h]; rfl
theorem tg_z (o a b : Lo) (id : ByteArray) (h : (tg o a b id).1 = false) : (tg o a b id).2.1 = z47 := by
  have h : (cvl 1 o a b).1 = false := h
  show (bif (cvl 1 o a b).1 then (⟨id, _, _, _, _, _, _⟩ : S47) else z47) = z47
  rw [h]; rfl
theorem cvl_or (k : Int) (o a b : Lo) : cvl k o a b = cmpn k o ∨ cvl k o a b = cmpn k a ∨ cvl k o a b = cmpn k b := by
  unfold cvl
  cases hc : ch k o a b with
  | none => exact .inl rfl
  | some c =>
    rcases ch_or hc with rfl | rfl
    · exact .inr (.inl rfl)
    · exact .inr (.inr rfl)
theorem nm3_mem {o a b : St} {id : ByteArray} : id ∈ nm3 o a b ↔ (id ∈ o.1 ∨ hasI o.2 id = true) ∨ (id ∈ a.1 ∨ hasI a.2 id = true) ∨ (id ∈ b.1 ∨ hasI b.2 id = true) := by
  unfold nm3
  rw [mem_names, hasI_iff, hasI_iff, hasI_iff]
  simp
theorem tgt_there {o a b : St} {id : ByteArray} (h : (tgt o a b id).1 = true) : hasI o.2 id = true ∨ hasI a.2 id = true ∨ hasI b.2 id = true := by
  have h : (cvl 1 (loc o id) (loc a id) (loc b id)).1 = true := h
  rcases cvl_or 1 (loc o id) (loc a id) (loc b id) with e | e | e <;> rw [e] at h
  · exact .inl h
  · exact .inr (.inl h)
  · exact .inr (.inr h)
theorem cf_or {o a b : Bool} (h : cf o a b = true) : a = true ∨ b = true := by
  unfold cf at h
  cases hc : a == o with
  | true => rw [hc] at h; exact .inr h
  | false => rw [hc] at h; exact .inl h
theorem tgt_names {o a b : St} {id : ByteArray} (h : (tgt o a b id).1 = true ∨ (tgt o a b id).2.2 = true) : id ∈ nm3 o a b := by
  rw [nm3_mem]
  rcases h with h | h
  · rcases tgt_there h with h | h | h
    · exact .inl (.inr h)
    · exact .inr (.inl (.inr h))
    · exact .inr (.inr (.inr h))
  · rcases cf_or (show cf (hasS o.1 id) (hasS a.1 id) (hasS b.1 id) = true from h) with h | h
    · exact .inr (.inl (.inl (hasS_iff.1 h)))
    · exact .inr (.inr (.inl (hasS_iff.1 h)))
theorem tgS_mem {o a b : St} {x : S47} : x ∈ (tgS o a b).2 ↔ ∃ id, id ∈ nm3 o a b ∧ (tgt o a b id).1 = true ∧ (tgt o a b id).2.1 = x := by
  show x ∈ List.map _ _ ↔ _
  rw [List.mem_map]
  constructor
  · rintro ⟨id, h, e⟩
    obtain ⟨h1, h2⟩ := List.mem_filter.1 h
    exact ⟨id, h1, h2, e⟩
  · rintro ⟨id, h1, h2, e⟩
    exact ⟨id, List.mem_filter.2 ⟨h1, h2⟩, e⟩
theorem nm3_nodup (o a b : St) : (nm3 o a b).Nodup := (names_strict _).nodup isCmp_s
theorem tgS_nodup (o a b : St) : ((tgS o a b).2.map S47.f0).Nodup := by
  show ((List.map _ _).map S47.f0).Nodup
  rw [List.map_map]
  have : (((nm3 o a b).filter fun id => (tgt o a b id).1).map (S47.f0 ∘ fun id => (tgt o a b id).2.1)) = (nm3 o a b).filter fun id => (tgt o a b id).1 := by
    conv => rhs; rw [← List.map_id ((nm3 o a b).filter fun id => (tgt o a b id).1)]
    exact List.map_congr_left fun id h => tg_f0 _ _ _ _ (List.mem_filter.1 h).2
  rw [this]
  exact (nm3_nodup o a b).filter _
theorem nm_lo {k : Int} {v : Lo} (h : Nm v.2.1) (hk : k = 3 ∨ k = 4) : Nm (cmpn k v).2.1 := by
  rcases hk with rfl | rfl
  · exact .of h.ses.1 rfl h.2.1 small_nil
  · exact .of rfl h.ses.2 small_nil h.2.2
theorem tgS_nice {o a b : St} (ho : Nice o) (ha : Nice a) (hb : Nice b) : Nice (tgS o a b) := by
  refine ⟨(nm3_nodup o a b).filter _, tgS_nodup o a b, fun x hx => ?_, fun x hx => ?_⟩
  · obtain ⟨id, _, h2, rfl⟩ := tgS_mem.1 hx
    have e : (tgt o a b id).2.1.f0 = id := tg_f0 _ _ _ _ h2
    rw [e]
    have key : ∀ s : St, Nice s → hasI s.2 id = true → nameIs id = true := fun s hs h => by
      obtain ⟨x, hx, ex⟩ := hasI_iff.1 h
      rw [← ex]; exact hs.names x hx
    rcases tgt_there h2 with h | h | h
    · exact key o ho h
    · exact key a ha h
    · exact key b hb h
  · obtain ⟨id, _, h2, rfl⟩ := tgS_mem.1 hx
    have h2' : (cvl 1 (loc o id) (loc a id) (loc b id)).1 = true := h2
    have key : ∀ k, k = 3 ∨ k = 4 → Nm (cvl k (loc o id) (loc a id) (loc b id)).2.1 := fun k hk => by
      rcases cvl_or k (loc o id) (loc a id) (loc b id) with e | e | e <;> rw [e]
      · exact nm_lo (ho.get id) hk
      · exact nm_lo (ha.get id) hk
      · exact nm_lo (hb.get id) hk
    have k3 := key 3 (.inl rfl)
    have k4 := key 4 (.inr rfl)
    show Nm (bif (cvl 1 (loc o id) (loc a id) (loc b id)).1 then (⟨id, _, _, _, _, _, _⟩ : S47) else z47)
    rw [h2']
    exact .of k3.ses.1 k4.ses.2 k3.2.1 k4.2.2
theorem tgS_loc {o a b : St} (ho : Nice o) (ha : Nice a) (hb : Nice b) (id : ByteArray) : loc (tgS o a b) id = tgt o a b id := by
  have hN := tgS_nice ho ha hb
  have h1 : hasI (tgS o a b).2 id = (tgt o a b id).1 := bool_of (by
    rw [hasI_iff]
    constructor
    · rintro ⟨x, hx, e⟩
      obtain ⟨i, _, h2, rfl⟩ := tgS_mem.1 hx
      have : i = id := (tg_f0 _ _ _ _ h2).symm.trans e
      rw [← this]; exact h2
    · intro h
      exact ⟨_, tgS_mem.2 ⟨id, tgt_names (.inl h), h, rfl⟩, tg_f0 _ _ _ _ h⟩)
  have h3 : hasS (tgS o a b).1 id = (tgt o a b id).2.2 := bool_of (by
    rw [hasS_iff]
    show id ∈ List.filter _ _ ↔ _
    rw [List.mem_filter]
    exact ⟨fun h => h.2, fun h => ⟨tgt_names (.inr h), h⟩⟩)
  have h2 : getI (tgS o a b).2 id = (tgt o a b id).2.1 := by
    cases hi : (tgt o a b id).1 with
    | false => rw [getI_none (by rw [h1, hi]), tgt, tg_z _ _ _ _ hi]
    | true => exact getI_is hN.xn (tgS_mem.2 ⟨id, tgt_names (.inl hi), hi, rfl⟩) (tg_f0 _ _ _ _ hi)
  show (hasI (tgS o a b).2 id, getI (tgS o a b).2 id, hasS (tgS o a b).1 id) = _
  rw [h1, h2, h3]
noncomputable def eh (o a b : Lo) (id : ByteArray) : List S62 := match ch 1 o a b with | none => [] | some c => bif sm 1 c o then [] else [⟨id, 1, c.1, ⟨id, c.2.1.f1, c.2.1.f2, false, c.2.1.f4, [], []⟩⟩]
noncomputable def eq1 (o a b : Lo) : Bool := match ch 1 o a b with | none => false | some c => c.1
noncomputable def ek (k : Int) (g : S47 → S47) (o a b : Lo) (id : ByteArray) : List S62 := match ch k o a b with | none => [] | some c => bif sm k c o || !eq1 o a b then [] else [⟨id, k, true, g c.2.1⟩]
def g2 (id : ByteArray) (x : S47) : S47 := ⟨id, 0, ⟨#[]⟩, x.f3, 0, [], []⟩
def g3 (id : ByteArray) (x : S47) : S47 := ⟨id, 0, ⟨#[]⟩, false, 0, x.f5, []⟩
def g4 (id : ByteArray) (x : S47) : S47 := ⟨id, 0, ⟨#[]⟩, false, 0, [], x.f6⟩
noncomputable def eA (o a b : Lo) (id : ByteArray) : List S62 := eh o a b id ++ (ek 2 (g2 id) o a b id ++ (ek 3 (g3 id) o a b id ++ ek 4 (g4 id) o a b id))
def eF (o a b : Bool) (id : ByteArray) : List S62 := bif cf o a b != o then [⟨id, 5, cf o a b, only id⟩] else []
noncomputable def edM (o a b : St) (id : ByteArray) : List S62 := eA (loc o id) (loc a id) (loc b id) id ++ eF (hasS o.1 id) (hasS a.1 id) (hasS b.1 id) id
noncomputable def edL (o a b : St) : List S62 := (nm3 o a b).flatMap (edM o a b)
theorem bb {a b : Bool} (h : a = b) (x : S62) : (bif a then [] else [x]) = (bif !b then [x] else []) := by subst h; cases a <;> rfl
theorem eA_X {o a b : Lo} {id : ByteArray} (ho : LoOk o id) (ha : LoOk a id) (hb : LoOk b id) (h : clA o a b id = []) : eA o a b id = edX o.1 (tg o a b id).1 o.2.1 (tg o a b id).2.1 id := by
  unfold clA at h
  obtain ⟨h1, h⟩ := List.append_eq_nil_iff.1 h
  obtain ⟨h2, h⟩ := List.append_eq_nil_iff.1 h
  obtain ⟨h3, h4⟩ := List.append_eq_nil_iff.1 h
  obtain ⟨c1, e1, f1⟩ := cl1_nil h1
  obtain ⟨c2, e2, f2⟩ := cl1_nil h2
  obtain ⟨c3, e3, f3⟩ := cl1_nil h3
  obtain ⟨c4, e4, f4⟩ := cl1_nil h4
  have hc1 : LoOk c1 id := by rcases ch_or e1 with rfl | rfl <;> assumption
  have hq : eq1 o a b = c1.1 := by unfold eq1; rw [e1]
  have ht : tg o a b id = (c1.1, bif c1.1 then ⟨id, c1.2.1.f1, c1.2.1.f2, c2.2.1.f3, c1.2.1.f4, c3.2.1.f5, c4.2.1.f6⟩ else z47, cf o.2.2 a.2.2 b.2.2) := by
    unfold tg
    rw [f1, f2, f3, f4]
    rfl
  unfold eA eh ek edX
  rw [e1, e2, e3, e4, hq, ht]
  simp only
  have hs1 : sm 1 c1 o = true ↔ c1.1 = o.1 ∧ c1.2.1.f1 = o.2.1.f1 ∧ c1.2.1.f2 = o.2.1.f2 ∧ c1.2.1.f4 = o.2.1.f4 := by
    rw [sm_iff, cmpn_1, cmpn_1, Prod.mk.injEq, Prod.mk.injEq, S47.mk.injEq]
    simp
  cases hcq : c1.1 with
  | false =>
    have hz := hc1.1 hcq
    rw [hz]
    have hb : sm 1 c1 o = !((o.1 != false) || !sameHd o.2.1 z47) := bool_of (by
      rw [hs1, hcq, hz]
      simp [sameHd_iff]
      exact fun _ => ⟨fun ⟨b, c, d⟩ => ⟨b.symm, c.symm, d.symm⟩, fun ⟨b, c, d⟩ => ⟨b.symm, c.symm, d.symm⟩⟩)
    rw [bb hb]
    simp only [Bool.not_not, Bool.not_false, Bool.or_true, cond_true, cond_false, List.append_nil, List.nil_append]
    rfl
  | true =>
    have hb : sm 1 c1 o = !((o.1 != true) || !sameHd o.2.1 ⟨id, c1.2.1.f1, c1.2.1.f2, c2.2.1.f3, c1.2.1.f4, c3.2.1.f5, c4.2.1.f6⟩) := bool_of (by
      rw [hs1, hcq]
      simp [sameHd_iff]
      exact fun _ => ⟨fun ⟨b, c, d⟩ => ⟨b.symm, c.symm, d.symm⟩, fun ⟨b, c, d⟩ => ⟨b.symm, c.symm, d.symm⟩⟩)
    have hb2 : sm 2 c2 o = !(o.2.1.f3 != c2.2.1.f3) := bool_of (by
      rw [sm_iff, cmpn_2, cmpn_2, Prod.mk.injEq, Prod.mk.injEq, S47.mk.injEq]
      simp
      exact ⟨Eq.symm, Eq.symm⟩)
    have hb3 : sm 3 c3 o = !(!eqq o.2.1.f5 c3.2.1.f5) := bool_of (by
      rw [sm_iff, cmpn_3, cmpn_3, Prod.mk.injEq, Prod.mk.injEq, S47.mk.injEq, Bool.not_not, eqq_iff]
      simp
      exact ⟨Eq.symm, Eq.symm⟩)
    have hb4 : sm 4 c4 o = !(!eqq o.2.1.f6 c4.2.1.f6) := bool_of (by
      rw [sm_iff, cmpn_4, cmpn_4, Prod.mk.injEq, Prod.mk.injEq, S47.mk.injEq, Bool.not_not, eqq_iff]
      simp
      exact ⟨Eq.symm, Eq.symm⟩)
    simp only [cond_true, Bool.not_true, Bool.or_false]
    rw [bb hb, bb hb2, bb hb3, bb hb4]
    simp only [Bool.not_not]
    rfl
theorem edM_spec {o a b : St} (ho : Nice o) (ha : Nice a) (hb : Nice b) {id : ByteArray} (h : clA (loc o id) (loc a id) (loc b id) id = []) : edM o a b id = edI o.2 (tgS o a b).2 id ++ edF o.1 (tgS o a b).1 id := by
  have hl := tgS_loc ho ha hb id
  have h1 : hasI (tgS o a b).2 id = (tgt o a b id).1 := congrArg (fun v : Lo => v.1) hl
  have h2 : getI (tgS o a b).2 id = (tgt o a b id).2.1 := congrArg (fun v : Lo => v.2.1) hl
  have h3 : hasS (tgS o a b).1 id = (tgt o a b id).2.2 := congrArg (fun v : Lo => v.2.2) hl
  unfold edM
  rw [eA_X (loc_Ok o id) (loc_Ok a id) (loc_Ok b id) h, edI_X, h1, h2]
  congr 1
  unfold eF edF
  rw [h3]
  show (bif cf (hasS o.1 id) (hasS a.1 id) (hasS b.1 id) != hasS o.1 id then _ else _) = bif hasS o.1 id != cf (hasS o.1 id) (hasS a.1 id) (hasS b.1 id) then _ else _
  rw [bne_comm]
  rfl
end Go.Ab
namespace Go.Ab
open Sn
theorem bif_mem' {c : Bool} {x e : S62} (h : e ∈ bif c then [] else [x]) : e = x := by
  cases c with
  | true => cases h
  | false => exact List.mem_singleton.1 h
theorem eh_mem {o a b : Lo} {id : ByteArray} {e : S62} (h : e ∈ eh o a b id) : e.f0 = id ∧ e.f1 = 1 := by
  unfold eh at h
  cases hc : ch 1 o a b with
  | none => rw [hc] at h; cases h
  | some c => rw [hc] at h; rw [bif_mem' h]; exact ⟨rfl, rfl⟩
theorem ek_mem {k : Int} {g : S47 → S47} {o a b : Lo} {id : ByteArray} {e : S62} (h : e ∈ ek k g o a b id) : e.f0 = id ∧ e.f1 = k := by
  unfold ek at h
  cases hc : ch k o a b with
  | none => rw [hc] at h; cases h
  | some c => rw [hc] at h; rw [bif_mem' h]; exact ⟨rfl, rfl⟩
theorem eF_mem {o a b : Bool} {id : ByteArray} {e : S62} (h : e ∈ eF o a b id) : e.f0 = id ∧ e.f1 = 5 := by
  obtain ⟨_, rfl⟩ := bif_mem h
  exact ⟨rfl, rfl⟩
theorem pw_b {c : Bool} {x : S62} {R : S62 → S62 → Prop} : (bif c then [] else [x]).Pairwise R := by cases c <;> simp
theorem eh_pw (o a b : Lo) (id : ByteArray) {R : S62 → S62 → Prop} : (eh o a b id).Pairwise R := by
  unfold eh
  cases ch 1 o a b with
  | none => exact .nil
  | some c => exact pw_b
theorem ek_pw (k : Int) (g : S47 → S47) (o a b : Lo) (id : ByteArray) {R : S62 → S62 → Prop} : (ek k g o a b id).Pairwise R := by
  unfold ek
  cases ch k o a b with
  | none => exact .nil
  | some c => exact pw_b
theorem edM_mem {o a b : St} {id : ByteArray} {e : S62} (h : e ∈ edM o a b id) : e.f0 = id := by
  unfold edM eA at h
  simp only [List.mem_append] at h
  rcases h with (h | h | h | h) | h
  · exact (eh_mem h).1
  · exact (ek_mem h).1
  · exact (ek_mem h).1
  · exact (ek_mem h).1
  · exact (eF_mem h).1
theorem edM_rises (o a b : St) (id : ByteArray) : (edM o a b id).Pairwise fun x y => x.f1 < y.f1 := by
  unfold edM eA
  refine List.pairwise_append.2 ⟨List.pairwise_append.2 ⟨eh_pw .., List.pairwise_append.2 ⟨ek_pw .., List.pairwise_append.2 ⟨ek_pw .., ek_pw .., fun x hx y hy => ?_⟩, fun x hx y hy => ?_⟩, fun x hx y hy => ?_⟩, ?_, fun x hx y hy => ?_⟩
  · have := (ek_mem hx).2; have := (ek_mem hy).2; omega
  · have := (ek_mem hx).2
    rcases List.mem_append.1 hy with h | h <;> (have := (ek_mem h).2; omega)
  · have := (eh_mem hx).2
    simp only [List.mem_append] at hy
    rcases hy with h | h | h <;> (have := (ek_mem h).2; omega)
  · unfold eF; exact pw_bif'
  · have := (eF_mem hy).2
    simp only [List.mem_append] at hx
    rcases hx with h | h | h | h
    · have := (eh_mem h).2; omega
    · have := (ek_mem h).2; omega
    · have := (ek_mem h).2; omega
    · have := (ek_mem h).2; omega
theorem edL_adj (o a b : St) : Adj (edL o a b) := adj_of (block_strict (names_strict _) (fun _ _ _ he => edM_mem he) fun id _ => edM_rises o a b id)
theorem abs_loc {o a b : St} {id : ByteArray} (h : id ∉ nm3 o a b) : loc o id = (false, z47, false) ∧ loc a id = (false, z47, false) ∧ loc b id = (false, z47, false) := by
  rw [nm3_mem] at h
  have key : ∀ s : St, ¬ (id ∈ s.1 ∨ hasI s.2 id = true) → loc s id = (false, z47, false) := fun s h => by
    have h1 : hasI s.2 id = false := by rw [← Bool.not_eq_true]; exact fun e => h (.inr e)
    show (hasI s.2 id, getI s.2 id, hasS s.1 id) = _
    rw [h1, getI_none h1, hasS_no.2 fun e => h (.inl e)]
  exact ⟨key o fun e => h (.inl e), key a fun e => h (.inr (.inl e)), key b fun e => h (.inr (.inr e))⟩
theorem clA_same {v : Lo} {id : ByteArray} : clA v v v id = [] := by
  have : ∀ k, cl1 k v v v id = [] := fun k => by unfold cl1 ch; rw [sm_self]; rfl
  unfold clA
  rw [this, this, this, this]; rfl
theorem clA_of {o a b : St} (h : clL o a b = []) (id : ByteArray) : clA (loc o id) (loc a id) (loc b id) id = [] := by
  by_cases hm : id ∈ nm3 o a b
  · exact (List.flatMap_eq_nil_iff.1 h) id hm
  · obtain ⟨h1, h2, h3⟩ := abs_loc hm
    rw [h1, h2, h3]
    exact clA_same
theorem edM_abs {o a b : St} {id : ByteArray} (h : id ∉ nm3 o a b) : edM o a b id = [] := by
  obtain ⟨h1, h2, h3⟩ := abs_loc h
  unfold edM eA eh ek eq1 eF
  rw [h1, h2, h3, show hasS o.1 id = false from congrArg (fun v : Lo => v.2.2) h1, show hasS a.1 id = false from congrArg (fun v : Lo => v.2.2) h2, show hasS b.1 id = false from congrArg (fun v : Lo => v.2.2) h3]
  have : ∀ k, ch k (false, z47, false) (false, z47, false) (false, z47, false) = some (false, z47, false) := fun k => by unfold ch; rw [sm_self]; rfl
  simp only [this, sm_self]
  rfl
theorem atId_edL {o a b : St} (id : ByteArray) : atId (edL o a b) id = edM o a b id := by
  unfold edL
  have hfl : ∀ L : List ByteArray, atId (L.flatMap (edM o a b)) id = L.flatMap fun i => atId (edM o a b i) id := fun L => by
    unfold atId
    rw [List.filter_flatMap]
  rw [hfl]
  have hno : ∀ i, i ≠ id → atId (edM o a b i) id = [] := fun i hi => atId_other fun e he => by rw [edM_mem he]; exact hi
  by_cases hm : id ∈ nm3 o a b
  · rw [flatMap_one (nm3_nodup o a b) hm fun i _ hi => hno i hi]
    exact atId_all fun e he => edM_mem he
  · rw [edM_abs hm, List.flatMap_eq_nil_iff]
    intro i hi
    exact hno i fun e => hm (e ▸ hi)
theorem edL_nice {o a b : St} (ho : NiceF o) (ha : NiceF a) (hb : NiceF b) (h : clL o a b = []) : ∀ e ∈ edL o a b, NiceE e := fun e he => by
  obtain ⟨id, hid, he⟩ := List.mem_flatMap.1 he
  have h0 := edM_mem he
  refine ⟨?_, ?_⟩
  · rw [h0]
    have key : ∀ u : St, NiceF u → id ∈ u.1 ∨ hasI u.2 id = true → nameIs id = true := fun u hu h => by
      rcases h with h | h
      · exact hu.files _ h
      · obtain ⟨x, hx, ex⟩ := hasI_iff.1 h
        rw [← ex]
        exact hu.nice.names x hx
    rcases nm3_mem.1 hid with h | h | h
    · exact key o ho h
    · exact key a ha h
    · exact key b hb h
  · rw [edM_spec ho.nice ha.nice hb.nice (clA_of h id)] at he
    rcases List.mem_append.1 he with he | he
    · rw [edI_X] at he
      exact edX_nm ((tgS_nice ho.nice ha.nice hb.nice).get id) he
    · rw [(edF_mem he).1]; exact Nm.only id
theorem ordO_loc {u v : St} (hu : Nice u) (hv : Nice v) (h : ∀ id, loc u id = loc v id) : ordO u = ordO v := by
  obtain ⟨p1, p2⟩ := perm_of_loc hu hv h
  have key : ∀ {s t : St} {p : St}, s.1.Perm t.1 → s.2.Perm t.2 → ordO s = some p → ordO t = some p := fun p1 p2 h => by
    obtain ⟨h1, h2, h3⟩ := ordO_some.1 h
    exact ordO_some.2 ⟨h1, h2.trans p1, h3.trans p2⟩
  cases hv' : ordO v with
  | some p => exact key p1.symm p2.symm hv'
  | none =>
    cases hu' : ordO u with
    | none => rfl
    | some p => rw [key p1 p2 hu'] at hv'; cases hv'
theorem ap_merge {o a b : St} (ho : IsN o.1 o.2) (ha : IsN a.1 a.2) (hb : IsN b.1 b.2) (h : clL o a b = []) : apS o (edL o a b) = match ordO (tgS o a b) with | none => (([], []), 7) | some n => (n, 0) := by
  have no := NiceF.of ho
  have na := NiceF.of ha
  have nb := NiceF.of hb
  obtain ⟨h1, h2⟩ := run_loc (edL o a b) o no.nice (edL_nice no na nb h)
  have hT := tgS_nice no.nice na.nice nb.nice
  have hid : ∀ id, runL (atId (edL o a b) id) (loc o id) = some (loc (tgS o a b) id) := fun id => by
    rw [atId_edL, edM_spec no.nice na.nice nb.nice (clA_of h id)]
    exact run_id o (tgS o a b) id
  cases hr : runS (edL o a b) o with
  | none =>
    obtain ⟨id, hn⟩ := h2 hr
    rw [hid] at hn
    cases hn
  | some u =>
    obtain ⟨g1, g2⟩ := h1 u hr
    have hl : ∀ id, loc u id = loc (tgS o a b) id := fun id => by
      have := g2 id
      rw [hid] at this
      exact (Option.some.inj this).symm
    unfold apS
    rw [bP_iff.2 ho, bP_iff.2 (edL_adj o a b), hr]
    show (match ordO u with | none => ((([], []) : St), (7 : Int)) | some n => (n, 0)) = _
    rw [ordO_loc g1 hT hl]
theorem mg_no {o a b : St} (h : ¬ (IsN o.1 o.2 ∧ IsN a.1 a.2 ∧ IsN b.1 b.2)) : mgS o a b = (([], []), [], 7) := by
  unfold mgS
  have : (bP (IsN o.1 o.2) && (bP (IsN a.1 a.2) && bP (IsN b.1 b.2))) = false := by
    rw [← Bool.not_eq_true, Bool.and_eq_true, Bool.and_eq_true, bP_iff, bP_iff, bP_iff]; exact h
  rw [this]; rfl
theorem mg_yes {o a b : St} (ho : IsN o.1 o.2) (ha : IsN a.1 a.2) (hb : IsN b.1 b.2) : mgS o a b = match clL o a b with | [] => (match ordO (tgS o a b) with | some n => (n, [], 0) | none => (([], []), [⟨⟨#[]⟩, 6⟩], 11)) | c :: l => (([], []), c :: l, 11) := by
  unfold mgS
  rw [bP_iff.2 ho, bP_iff.2 ha, bP_iff.2 hb]; rfl
theorem lo_eta {v : Lo} {id : ByteArray} (h : LoOk v id) : (v.1, (bif v.1 then (⟨id, v.2.1.f1, v.2.1.f2, v.2.1.f3, v.2.1.f4, v.2.1.f5, v.2.1.f6⟩ : S47) else z47), v.2.2) = v := by
  obtain ⟨p, x, c⟩ := v
  obtain ⟨w1, w2⟩ := h
  cases p with
  | false =>
    have h : x = z47 := w1 rfl
    subst h; rfl
  | true =>
    have h : x.f0 = id := w2 rfl
    subst h; rfl
theorem mg_is {o a b s : St} (ho : IsN o.1 o.2) (ha : IsN a.1 a.2) (hb : IsN b.1 b.2) (hs : IsN s.1 s.2) (h : ∀ id k, ∃ c, ch k (loc o id) (loc a id) (loc b id) = some c ∧ cmpn k c = cmpn k (loc s id)) (hf : ∀ id, cf (hasS o.1 id) (hasS a.1 id) (hasS b.1 id) = hasS s.1 id) : mgS o a b = (s, [], 0) := by
  have hc : clL o a b = [] := by
    unfold clL
    rw [List.flatMap_eq_nil_iff]
    intro id _
    have : ∀ k, cl1 k (loc o id) (loc a id) (loc b id) id = [] := fun k => by
      obtain ⟨c, e, _⟩ := h id k
      unfold cl1; rw [e]
    unfold clA
    rw [this, this, this, this]; rfl
  have ht : ∀ id, tgt o a b id = loc s id := fun id => by
    have key : ∀ k, cvl k (loc o id) (loc a id) (loc b id) = cmpn k (loc s id) := fun k => by
      obtain ⟨c, e, e2⟩ := h id k
      unfold cvl; rw [e]; exact e2
    unfold tgt tg
    rw [key 1, key 2, key 3, key 4]
    have hfi : cf (loc o id).2.2 (loc a id).2.2 (loc b id).2.2 = (loc s id).2.2 := hf id
    rw [hfi]
    show ((loc s id).1, bif (loc s id).1 then (⟨id, (loc s id).2.1.f1, (loc s id).2.1.f2, (loc s id).2.1.f3, (loc s id).2.1.f4, (loc s id).2.1.f5, (loc s id).2.1.f6⟩ : S47) else z47, (loc s id).2.2) = loc s id
    exact lo_eta (loc_Ok s id)
  rw [mg_yes ho ha hb, hc]
  have hT := tgS_nice (NiceF.of ho).nice (NiceF.of ha).nice (NiceF.of hb).nice
  have := ord_loc (f := s.1) (m := s.2) hT hs fun id => by rw [tgS_loc (NiceF.of ho).nice (NiceF.of ha).nice (NiceF.of hb).nice, ht]
  rw [this]
theorem mg_alone2 {o a : St} (ho : IsN o.1 o.2) (ha : IsN a.1 a.2) : mgS o o a = (a, [], 0) := mg_is ho ho ha ha (fun id k => by
  unfold ch
  cases h : sm k (loc a id) (loc o id) with
  | true => exact ⟨_, rfl, (sm_iff.1 h).symm⟩
  | false => rw [sm_self]; exact ⟨_, rfl, rfl⟩) fun id => by unfold cf; rw [beq_self_eq_true]; rfl
end Go.Ab
namespace Go.Ab
inductive RenC (k k' : Nat) : List AV → List AV → Prop where
  | nil : RenC k k' [] []
  | same {v : AV} {c c' : List AV} (h : RenC k k' c c') : RenC k k' (v :: c) (v :: c')
  | chg {s i n : Nat} {q : Q} {c c' : List AV} (h : RenC k k' c c') : RenC k k' (AV.own s k i n q :: c) (AV.own s k' i n q :: c')
theorem RenC.len {k k' : Nat} {c c' : List AV} (h : RenC k k' c c') : c'.length = c.length := by
  induction h with
  | nil => rfl
  | same _ ih => simp [ih]
  | chg _ ih => simp [ih]
theorem RenC.get {k k' : Nat} {c c' : List AV} (h : RenC k k' c c') : ∀ (j : Nat) (x' : AV), c'[j]? = some x' → c[j]? = some x' ∨ ∃ s i n q, c[j]? = some (AV.own s k i n q) ∧ x' = AV.own s k' i n q := by
  induction h with
  | nil => intro j x h; simp at h
  | same _ ih =>
    intro j x h
    match j with
    | 0 => exact .inl h
    | j + 1 => exact ih j x h
  | chg _ ih =>
    intro j x h
    match j with
    | 0 => cases h; exact .inr ⟨_, _, _, _, rfl, rfl⟩
    | j + 1 => exact ih j x h
def SVn (k k' : Nat) (v v' : SV) : Prop := v' = v ∨ ∃ cs cs', v = .live (.box cs) ∧ v' = .live (.box cs') ∧ RenC k k' cs cs'
structure RenS (k k' : Nat) (σ σ' : Sto) : Prop where
  ne : k ≠ k'
  fr : sget σ k' = .free
  lv : ∃ s es, sget σ k = .live (.arr s es) ∧ sget σ' k' = .live (.arr s es)
  dead : sget σ' k = .dead
  rest : ∀ x, x ≠ k → x ≠ k' → SVn k k' (sget σ x) (sget σ' x)
theorem StLe.ren {pins : List Nat} {k k' : Nat} {E : Env} {σ σ' : Sto} (hp : memN k' pins = false) (hS : RenS k k' σ σ') : StLe pins (E, σ) (E, σ') := ⟨fun w X ι vs hs hv => by
  obtain ⟨s0, es0, hk, hk'⟩ := hS.lv
  have hne := hS.ne
  have hιk' : ι k' = .free := (hs.free k').1 hS.fr
  have hext : Ext ι (fun x => if x = k' then ι k else ι x) := fun x hx => by
    show (if x = k' then ι k else ι x) = ι x
    rw [if_neg fun e => hx (by rw [e]; exact hιk')]
  have live : ∀ x, x ≠ k' → ∀ b', sget σ' x = .live b' → x ≠ k ∧ ∃ b, sget σ x = .live b ∧ SVn k k' (.live b) (.live b') := fun x hx b' h => by
    have hxk : x ≠ k := fun e => by rw [e, hS.dead] at h; cases h
    refine ⟨hxk, ?_⟩
    rcases hS.rest x hxk hx with e | ⟨cs, cs', e1, e2, hc⟩
    · exact ⟨b', by rw [← e, h], .inl rfl⟩
    · rw [h] at e2; cases e2
      exact ⟨_, e1, .inr ⟨_, _, rfl, rfl, hc⟩⟩
  have live' : ∀ x, x ≠ k → x ≠ k' → ∀ b, sget σ x = .live b → ∃ b', sget σ' x = .live b' := fun x hxk hx b h => by
    rcases hS.rest x hxk hx with e | ⟨cs, cs', e1, e2, hc⟩
    · exact ⟨b, by rw [e, h]⟩
    · exact ⟨_, e2⟩
  have hL : ∀ b, Lv (sget σ') (fun x => if x = k' then ι k else ι x) b ↔ Lv (sget σ) ι b := fun b => by
    constructor
    · rintro ⟨x, blk, o, t, h1, h2⟩
      have h2 : (if x = k' then ι k else ι x) = .at b o t := h2
      by_cases e : x = k'
      · rw [if_pos e] at h2
        exact ⟨k, _, o, t, hk, h2⟩
      · rw [if_neg e] at h2
        obtain ⟨_, b0, h0, _⟩ := live x e blk h1
        exact ⟨x, b0, o, t, h0, h2⟩
    · rintro ⟨x, blk, o, t, h1, h2⟩
      have e' : x ≠ k' := fun e => by rw [e, hS.fr] at h1; cases h1
      by_cases e : x = k
      · exact ⟨k', _, o, t, hk', by show (if k' = k' then ι k else ι k') = _; rw [if_pos rfl, ← e]; exact h2⟩
      · obtain ⟨b0, h0⟩ := live' x e e' blk h1
        exact ⟨x, b0, o, t, h0, by show (if x = k' then ι k else ι x) = _; rw [if_neg e']; exact h2⟩
  have hX : XL X (sget σ') (fun x => if x = k' then ι k else ι x) = XL X (sget σ) ι := funext fun b => by unfold XL; rw [hL b]
  refine ⟨fun x => if x = k' then ι k else ι x, ⟨fun x b hx => ?_, fun x x' b b' c o t o' t' h1 h2 h3 h4 => ?_, fun b hb => ⟨(hs.out b hb).1, fun h => (hs.out b hb).2 ((hL b).1 h)⟩, fun x => ?_⟩, fun t => ?_, fun b hb => (hL b).1 hb, fun x hx => ?_⟩
  · show BR w _ _ (if x = k' then ι k else ι x) b
    rw [hX]
    by_cases e : x = k'
    · rw [e, hk'] at hx
      rw [if_pos e]
      cases hx
      exact BR.step (Adv.refl (Lv (sget σ) ι) w) hext (hs.blk k _ hk) fun _ _ _ _ => rfl
    · rw [if_neg e]
      obtain ⟨_, b0, h0, hr⟩ := live x e b hx
      have hB := BR.step (Adv.refl (Lv (sget σ) ι) w) hext (hs.blk x b0 h0) fun _ _ _ _ => rfl
      rcases hr with hr | ⟨cs, cs', e1, e2, hc⟩
      · cases hr; exact hB
      · cases e1; cases e2
        cases hl : ι x with
        | «at» c o z =>
          rw [hl] at hB
          obtain ⟨ho, us, ty, hh, hsz, hcell⟩ := hB
          refine ⟨ho, us, ty, hh, by rw [hsz, hc.len], fun j v y h1 h2 => ?_⟩
          rcases hc.get j y h2 with h3 | ⟨s, i, n, q, h3, h4⟩
          · exact hcell j v y h1 h3
          · obtain ⟨h5, h6⟩ := hcell j v _ h1 h3
            refine ⟨h5, ?_⟩
            rw [h4]
            have hkk : (fun x => if x = k' then ι k else ι x) k' = (fun x => if x = k' then ι k else ι x) k := by
              show (if k' = k' then ι k else ι k') = if k = k' then ι k else ι k
              rw [if_pos rfl, if_neg hne]
            cases h6 with
            | pure _ _ h => cases h
            | own _ _ _ _ c' b' o' _ us' ty' h hq hb hc' => exact .own s k' i n c' b' o' q us' ty' (hkk.trans h) hq hb hc'
            | own0 _ _ _ a _ h hq => exact .own0 s k' i a q (fun hz => h (hkk.symm.trans hz)) hq
        | _ => rw [hl] at hB; exact hB.elim
  · have key : ∀ x b c o t, sget σ' x = .live b → (if x = k' then ι k else ι x) = .at c o t → ∃ x0 b0, sget σ x0 = .live b0 ∧ ι x0 = .at c o t ∧ ((x = k' ∧ x0 = k) ∨ (x ≠ k' ∧ x0 = x ∧ x ≠ k)) := fun x b c o t h1 h2 => by
      by_cases e : x = k'
      · rw [if_pos e] at h2
        exact ⟨k, _, hk, h2, .inl ⟨e, rfl⟩⟩
      · rw [if_neg e] at h2
        obtain ⟨g, b0, h0, _⟩ := live x e b h1
        exact ⟨x, b0, h0, h2, .inr ⟨e, rfl, g⟩⟩
    obtain ⟨x0, b0, a1, a2, a3⟩ := key x b c o t h1 h3
    obtain ⟨y0, b1, c1, c2, c3⟩ := key x' b' c o' t' h2 h4
    have he := hs.inj x0 y0 _ _ c o t o' t' a1 c1 a2 c2
    rcases a3 with ⟨p1, p2⟩ | ⟨p1, p2, p3⟩ <;> rcases c3 with ⟨q1, q2⟩ | ⟨q1, q2, q3⟩
    · rw [p1, q1]
    · exact absurd (q2.symm.trans (he.symm.trans p2)) q3
    · exact absurd (p2.symm.trans (he.trans q2)) p3
    · rw [← p2, ← q2]; exact he
  · show sget σ' x = .free ↔ (if x = k' then ι k else ι x) = .free
    by_cases e : x = k'
    · rw [e, hk', if_pos rfl]
      have : ι k ≠ .free := fun h => by rw [(hs.free k).2 h] at hk; cases hk
      simp [this]
    · rw [if_neg e]
      by_cases e2 : x = k
      · rw [e2, hS.dead]
        have : ι k ≠ .free := fun h => by rw [(hs.free k).2 h] at hk; cases hk
        simp [this]
      · rcases hS.rest x e2 e with e1 | ⟨cs, cs', e1, e3, _⟩
        · rw [e1]; exact hs.free x
        · rw [e3, ← hs.free x, e1]; simp
  · show VR w (XL X (sget σ') _) _ (vs t) (get E t)
    rw [hX]
    exact VR.step (Adv.refl (Lv (sget σ) ι) w) hext (hv t)
  · show (if x = k' then ι k else ι x) = ι x
    rw [if_neg]
    intro e
    subst e
    rw [show memN x pins = true from memN_iff.2 hx] at hp
    cases hp⟩
inductive RenL (k k' : Nat) : Sto → Sto → Prop where
  | nil : RenL k k' [] []
  | same {x : Nat} {v : SV} {σ σ' : Sto} (hx : Nat.beq x k = false) (h : RenL k k' σ σ') : RenL k k' ((x, v) :: σ) ((x, v) :: σ')
  | box {x : Nat} {cs cs' : List AV} {σ σ' : Sto} (hx : Nat.beq x k = false) (hc : RenC k k' cs cs') (h : RenL k k' σ σ') : RenL k k' ((x, .live (.box cs)) :: σ) ((x, .live (.box cs')) :: σ')
  | kill {v : SV} {σ σ' : Sto} (h : RenL k k' σ σ') : RenL k k' ((k, v) :: σ) ((k, .dead) :: σ')
inductive RenT (k k' : Nat) (B : SV) : Sto → Sto → Prop where
  | here {σ σ' : Sto} (h : RenL k k' σ σ') : RenT k k' B σ ((k', B) :: σ')
  | same {x : Nat} {v : SV} {σ σ' : Sto} (hx : Nat.beq x k = false) (hx' : Nat.beq x k' = false) (h : RenT k k' B σ σ') : RenT k k' B ((x, v) :: σ) ((x, v) :: σ')
theorem beq_ne {a b : Nat} (h : Nat.beq a b = false) : a ≠ b := fun e => by subst e; rw [Nat.beq_refl] at h; cases h
theorem RenL.get {k k' : Nat} {σ σ' : Sto} (h : RenL k k' σ σ') : (sget σ k ≠ .free → sget σ' k = .dead) ∧ ∀ x, x ≠ k → SVn k k' (sget σ x) (sget σ' x) := by
  induction h with
  | nil => exact ⟨fun h => absurd rfl h, fun _ _ => .inl rfl⟩
  | same hx h ih =>
    refine ⟨?_, fun x hxk => ?_⟩
    · rw [sg1, sg1, if_neg (beq_ne hx).symm, if_neg (beq_ne hx).symm]; exact ih.1
    · rw [sg1, sg1]; split; exact .inl rfl; exact ih.2 x hxk
  | box hx hc h ih =>
    refine ⟨?_, fun x hxk => ?_⟩
    · rw [sg1, sg1, if_neg (beq_ne hx).symm, if_neg (beq_ne hx).symm]; exact ih.1
    · rw [sg1, sg1]; split; exact .inr ⟨_, _, rfl, rfl, hc⟩; exact ih.2 x hxk
  | kill h ih =>
    refine ⟨fun _ => by rw [sg1, if_pos rfl], fun x hxk => ?_⟩
    rw [sg1, sg1, if_neg hxk, if_neg hxk]; exact ih.2 x hxk
theorem RenT.get {k k' : Nat} {B : SV} {σ σ' : Sto} (hne : k ≠ k') (h : RenT k k' B σ σ') : sget σ' k' = B ∧ (sget σ k ≠ .free → sget σ' k = .dead) ∧ ∀ x, x ≠ k → x ≠ k' → SVn k k' (sget σ x) (sget σ' x) := by
  induction h with
  | here h =>
    refine ⟨by rw [sg1, if_pos rfl], ?_, fun x h1 h2 => ?_⟩
    · rw [sg1, if_neg hne]; exact h.get.1
    · rw [sg1, if_neg h2]; exact h.get.2 x h1
  | same hx hx' h ih =>
    refine ⟨?_, ?_, fun x h1 h2 => ?_⟩
    · rw [sg1, if_neg (beq_ne hx').symm]; exact ih.1
    · rw [sg1, sg1, if_neg (beq_ne hx).symm, if_neg (beq_ne hx).symm]; exact ih.2.1
    · rw [sg1, sg1]; split; exact .inl rfl; exact ih.2.2 x h1 h2
theorem StLe.renT {pins : List Nat} {k k' s : Nat} {es : List (List AV)} {E : Env} {σ σ' : Sto} (hp : memN k' pins = false) (hne : k ≠ k') (hf : sget σ k' = .free) (hk : sget σ k = .live (.arr s es)) (h : RenT k k' (.live (.arr s es)) σ σ') : StLe pins (E, σ) (E, σ') :=
  have g := h.get hne
  StLe.ren hp ⟨hne, hf, ⟨s, es, hk, g.1⟩, g.2.1 (by rw [hk]; exact fun e => by cases e), g.2.2⟩
end Go.Ab
namespace Go.Ab
open Go.Proofs Sn
set_option maxRecDepth 100000
set_option linter.unnecessarySimpa false
set_option linter.unusedSimpArgs false
set_option linter.unusedVariables false
set_option maxHeartbeats 4000000
theorem pre1 {j n : Nat} (h : n ≤ 1048576) (hj : j + 1 ≤ n) : IntKind.i64.wrap (((j + 1 : Nat) : Int) - 1) = (j : Int) := by rw [IntWalk.i64_in _ (by omega)]; omega
theorem c143 (S : List ByteArray) (hS : Rises cmpS S) (hl : S.length ≤ 1048576) : ACall cx.P 143 [.own 1 32 0 (S.map encT).length .opn] [(32, .live (.arr 1 (S.map encT)))] (.own 1 32 0 ((sortD cmpS S).map encT).length .opn) [(32, .live (.arr 1 ((sortD cmpS S).map encT)))] := acallA [] Tryz.f143 (by kernel_rfl) (by kernel_rfl) rfl <| by
  have hE : (S.map encT).length = S.length := List.length_map _
  conv => whnf
  refine ⟨fun w1 => ?_, fun w1 => ?_⟩
  · have w1 : S.length < 2 := by have := of_decide_eq_true w1; omega
    conv => whnf
    rw [show sortD cmpS S = S from by
      rcases S with _ | ⟨a, _ | ⟨b, S⟩⟩
      · rfl
      · rfl
      · exact absurd w1 (by simp only [List.length_cons]; omega)]
    exact .of rfl
  · have w1 : ¬ S.length < 2 := by have := of_decide_eq_false w1; omega
    conv => whnf
    refine .inr (.inl ⟨[0, 3], Nat, fun j => ([(0, .own 1 32 0 (S.map encT).length .opn), (3, .int .i64 ((j + 1 : Nat) : Int))], [(32, .live (.arr 1 (S.map encT)))]), fun j => j + 1 ≤ S.length ∧ sortD cmpS (S.take (j + 1)) = S.take (j + 1), fun j => S.length - j, ?_, fun j hj => ?_⟩)
    · conv => whnf
      refine ⟨0, .of rfl, by omega, ?_⟩
      obtain ⟨a, ha⟩ := at_ex (show 0 < S.length by omega)
      rw [snoc_take ha]
      rfl
    · obtain ⟨hj1, hj2⟩ := hj
      conv => whnf
      refine ⟨fun w2 => ?_, fun w2 => ?_⟩
      · have w2 : j + 1 < S.length := by have := of_decide_eq_true w2; omega
        obtain ⟨x, hx⟩ := at_ex w2
        obtain ⟨y, hy⟩ := at_ex (show j < S.length by omega)
        have hpv := pre1 hl hj1
        have hyb : 0 ≤ IntKind.i64.wrap (((j + 1 : Nat) : Int) - 1) ∧ IntKind.i64.wrap (((j + 1 : Nat) : Int) - 1) < ((S.map encT).length : Int) := by rw [hpv]; omega
        have hyw : (S.map encT)[0 + (IntKind.i64.wrap (((j + 1 : Nat) : Int) - 1)).toNat]? = some (encT y) := by rw [hpv]; exact map_at0 hy
        have hr := rises_take hS (j + 1 + 1)
        rw [snoc_take hx, snoc_take hy] at hr
        conv => whnf
        refine ⟨⟨Int.natCast_nonneg _, by omega⟩, ?_⟩
        conv => whnf
        conv => whnf
        refine ⟨_, map_at0 hx, ?_⟩
        conv => whnf
        conv => whnf
        refine ⟨hyb, ?_⟩
        conv => whnf
        conv => whnf
        refine ⟨_, hyw, ?_⟩
        conv => whnf
        conv => whnf
        refine ⟨by kernel_rfl, ?_⟩
        conv => whnf
        conv => whnf
        refine ⟨fun w3 => ?_, fun w3 => ?_⟩
        · have hxy : x = y := (sEq_iff _ _).1 w3
          obtain ⟨k0, hk0⟩ : ∃ k0, k0 = j + 1 := ⟨_, rfl⟩
          rw [← hk0] at hx w2 hj2 ⊢
          conv => whnf
          refine ⟨⟨Int.natCast_nonneg _, by omega⟩, ?_⟩
          conv => whnf
          conv => whnf
          refine .inr (.inl ⟨[0, 3, 4, 5], List ByteArray × Nat × Nat, fun a => ([(0, .own 1 32 0 (S.map encT).length .opn), (3, .int .i64 a.2.1), (4, .own 1 32 (0 + k0) ((S.map encT).length - k0) .opn), (5, .int .i64 ((a.2.2 + 1 : Nat) : Int))], [(32, .live (.arr 1 (a.1.map encT)))]), fun a => a.1.length = S.length ∧ a.2.1 ≤ k0 + a.2.2 ∧ k0 + a.2.2 + 1 ≤ S.length ∧ a.1.take a.2.1 = sortD cmpS (S.take (k0 + a.2.2 + 1)) ∧ a.1.drop (k0 + a.2.2) = S.drop (k0 + a.2.2), fun a => S.length - a.2.2, ?_, fun a ha => ?_⟩)
          · conv => whnf
            refine ⟨(S, k0, 0), .of (by dsimp only; rw [hk0]; rfl), rfl, Nat.le_refl _, w2, ?_, rfl⟩
            dsimp only
            rw [Nat.add_zero, snoc_take hx, sortD_old, hj2]
            rw [hk0, snoc_take hy, hxy]
            exact List.mem_append.2 (.inr (List.mem_singleton.2 rfl))
          · obtain ⟨A, k, i⟩ := a
            obtain ⟨h1, h2, h3, h4, h5⟩ := ha
            dsimp only at h1 h2 h3 h4 h5 ⊢
            have hA : (A.map encT).length = A.length := List.length_map _
            conv => whnf
            refine ⟨fun w4 => ?_, fun w4 => ?_⟩
            · have w4 : k0 + i + 1 < S.length := by have := of_decide_eq_true w4; omega
              obtain ⟨u, hu⟩ := at_ex w4
              obtain ⟨v, hv⟩ := at_ex (show k0 + i < S.length by omega)
              have hAu : A[0 + k0 + (i + 1)]? = some u := by
                have e1 : (A.drop (k0 + i))[1]? = (S.drop (k0 + i))[1]? := by rw [h5]
                rw [List.getElem?_drop, List.getElem?_drop] at e1
                rw [show 0 + k0 + (i + 1) = k0 + i + 1 by omega]
                exact e1.trans hu
              have hAv : A[0 + k0 + i]? = some v := by
                have e1 : (A.drop (k0 + i))[0]? = (S.drop (k0 + i))[0]? := by rw [h5]
                rw [List.getElem?_drop, List.getElem?_drop] at e1
                rw [Nat.zero_add]
                exact e1.trans hv
              have hpi := pre1 (j := i) hl (by omega)
              have hvb : 0 ≤ IntKind.i64.wrap (((i + 1 : Nat) : Int) - 1) ∧ IntKind.i64.wrap (((i + 1 : Nat) : Int) - 1) < (((S.map encT).length - k0 : Nat) : Int) := by rw [hpi]; omega
              have hvw : (A.map encT)[0 + k0 + (IntKind.i64.wrap (((i + 1 : Nat) : Int) - 1)).toNat]? = some (encT v) := by rw [hpi]; exact map_at hAv
              have huw : (A.map encT)[0 + k0 + (((i + 1 : Nat) : Int)).toNat]? = some (encT u) := map_at hAu
              have hr := rises_take hS (k0 + i + 1 + 1)
              rw [snoc_take hu, snoc_take hv] at hr
              have hdr : A.drop (k0 + (i + 1)) = S.drop (k0 + (i + 1)) := by
                have := congrArg (List.drop 1) h5
                rw [List.drop_drop, List.drop_drop] at this
                exact this
              conv => whnf
              refine ⟨⟨Int.natCast_nonneg _, by omega⟩, ?_⟩
              conv => whnf
              conv => whnf
              refine ⟨_, huw, ?_⟩
              conv => whnf
              conv => whnf
              refine ⟨hvb, ?_⟩
              conv => whnf
              conv => whnf
              refine ⟨_, hvw, ?_⟩
              conv => whnf
              conv => whnf
              refine ⟨by kernel_rfl, ?_⟩
              conv => whnf
              conv => whnf
              refine ⟨fun w5 => ?_, fun w5 => ?_⟩
              · have huv : u ≠ v := seN w5
                obtain ⟨z, hz⟩ := at_ex (show k < A.length by omega)
                conv => whnf
                refine ⟨⟨Int.natCast_nonneg _, by omega⟩, ?_⟩
                conv => whnf
                conv => whnf
                refine ⟨_, huw, ?_⟩
                conv => whnf
                conv => whnf
                refine ⟨⟨Int.natCast_nonneg _, by omega⟩, ?_⟩
                conv => whnf
                conv => whnf
                refine ⟨_, map_at0 hz, ?_⟩
                conv => whnf
                conv => whnf
                refine ⟨(A.set k u, k + 1, i + 1), ?_, ⟨by dsimp only; rw [List.length_set, h1], by dsimp only; omega, by dsimp only; omega, ?_, ?_⟩, by show S.length - (i + 1) < S.length - i; omega⟩
                · dsimp only
                  rw [up1 (show k < S.length by omega) (by omega), up1 (show i + 1 < S.length by omega) (by omega), List.map_set]
                  simp only [Nat.zero_add, Int.toNat_natCast]
                  exact .of rfl
                · dsimp only
                  have hs : (A.set k u)[k]? = some u := by rw [List.getElem?_set_self (by omega)]
                  rw [snoc_take hs, List.take_set, List.set_eq_of_length_le (by rw [List.length_take]; omega), h4, show k0 + (i + 1) + 1 = k0 + i + 1 + 1 by omega, snoc_take hu, sortD_new (by rw [snoc_take hv]; exact hr)]
                  rw [snoc_take hv]
                  exact fun h => huv ((rises_last hr).1 h)
                · dsimp only
                  rw [List.drop_set_of_lt (by omega)]
                  exact hdr
              · have huv : u = v := seY w5
                conv => whnf
                refine ⟨(A, k, i + 1), .of (by dsimp only; rw [up1 (show i + 1 < S.length by omega) (by omega)]), ⟨h1, by dsimp only; omega, by dsimp only; omega, ?_, hdr⟩, by show S.length - (i + 1) < S.length - i; omega⟩
                dsimp only
                rw [h4, show k0 + (i + 1) + 1 = k0 + i + 1 + 1 by omega, snoc_take hu, sortD_old]
                rw [snoc_take hv, huv]
                exact List.mem_append.2 (.inr (List.mem_singleton.2 rfl))
            · have w4 : ¬ k0 + i + 1 < S.length := by have := of_decide_eq_false w4; omega
              have hend : S.take (k0 + i + 1) = S := List.take_of_length_le (by omega)
              rw [hend] at h4
              conv => whnf
              refine ⟨⟨Int.natCast_nonneg _, by omega⟩, ?_⟩
              conv => whnf
              conv => whnf
              refine ⟨by simp only [Int.toNat_natCast]; omega, ?_⟩
              conv => whnf
              conv => whnf
              refine ⟨⟨Int.natCast_nonneg _, by omega⟩, ?_⟩
              conv => whnf
              conv => whnf
              have e : (sortD cmpS S).map encT = (A.map encT).take k := by rw [← h4, List.map_take]
              have el : ((sortD cmpS S).map encT).length = k := by rw [e, List.length_take]; omega
              rw [el, e]
              simp only [Int.toNat_natCast, Nat.zero_add]
              exact .trans (.le (.cons _ _ _ _ _ .opn <| .refl _) (.refl _)) (.cut (.cut (fun j e h => by
                rw [List.getElem?_append_left (List.getElem?_eq_some_iff.1 h).1]
                exact h) .nil))
        · have hxy : x ≠ y := fun e => by rw [(sEq_iff _ _).2 e] at w3; cases w3
          conv => whnf
          refine ⟨j + 1, ?_, ⟨w2, ?_⟩, by show S.length - (j + 1) < S.length - j; omega⟩
          · dsimp only
            rw [up1 w2 (by omega)]
            exact .of rfl
          · rw [snoc_take hx, sortD_new (by rw [snoc_take hy]; exact hr), hj2]
            rw [snoc_take hy]
            exact fun h => hxy ((rises_last hr).1 h)
      · have w2 : ¬ j + 1 < S.length := by have := of_decide_eq_false w2; omega
        rw [List.take_of_length_le (by omega)] at hj2
        conv => whnf
        rw [hj2]
        exact .of rfl
end Go.Ab
namespace Go.Ab
open Go.Proofs Sn
set_option maxRecDepth 100000
set_option linter.unnecessarySimpa false
set_option linter.unusedSimpArgs false
set_option linter.unusedVariables false
set_option maxHeartbeats 4000000
def encL (v : Lo) : List AV := .bool v.1 :: enc47 v.2.1
theorem c144 (f : List ByteArray) (m : List S47) (id : ByteArray) (hm : m.length ≤ 1024) : PCall cx.P 144 [encM f m, .str id] (.agg (encL (loc (f, m) id))) := pcallA [] Tryz.f144 (by kernel_rfl) (by kernel_rfl) <| by
  have h151 := c151 f m id (by omega)
  have hE : (m.map enc47).length = m.length := List.length_map _
  cases hh : hasI m id with
  | false =>
    rw [place_no hh] at h151
    have e : encL (loc (f, m) id) = .bool false :: enc47 z47 := by show .bool (hasI m id) :: enc47 (getI m id) = _; rw [hh, getI_none hh]
    rw [e]
    unfold encM at h151 ⊢
    conv => whnf
    refine ⟨_, h151, ?_⟩
    conv => whnf
    conv => whnf
    refine ⟨fun w1 => ?_, fun w1 => ?_⟩
    · conv => whnf
      exact .agg rfl fun j x y hx hy => by
        match j with
        | 0 => cases hx; cases hy; exact .lit rfl
        | 1 => cases hx; cases hy; exact .refl
        | 2 => cases hx; cases hy; exact .refl
        | 3 => cases hx; cases hy; exact .refl
        | 4 => cases hx; cases hy; exact .lit rfl
        | 5 => cases hx; cases hy; exact .refl
        | 6 => cases hx; cases hy; exact .nils
        | 7 => cases hx; cases hy; exact .nils
        | j + 8 => simp at hx
    · exact absurd w1 (by decide)
  | true =>
    obtain ⟨i, hi, hx⟩ := place_has hh
    have hil := (List.getElem?_eq_some_iff.1 hx).1
    rw [hi] at h151
    have e : encL (loc (f, m) id) = .bool true :: enc47 (getI m id) := by show .bool (hasI m id) :: enc47 (getI m id) = _; rw [hh]
    rw [e]
    unfold encM at h151 ⊢
    conv => whnf
    refine ⟨_, h151, ?_⟩
    conv => whnf
    conv => whnf
    refine ⟨fun w1 => ?_, fun w1 => ?_⟩
    · have := of_decide_eq_true w1
      omega
    · conv => whnf
      refine ⟨⟨Int.natCast_nonneg _, by omega⟩, ?_⟩
      conv => whnf
      conv => whnf
      refine ⟨_, map_at hx, ?_⟩
      conv => whnf
      conv => whnf
      exact .agg rfl fun j x y hx hy => by
        match j with
        | 0 => cases hx; cases hy; exact .lit rfl
        | 1 => cases hx; cases hy; exact .refl
        | 2 => cases hx; cases hy; exact .refl
        | 3 => cases hx; cases hy; exact .refl
        | 4 => cases hx; cases hy; exact .refl
        | 5 => cases hx; cases hy; exact .refl
        | 6 => cases hx; cases hy; exact .refl
        | 7 => cases hx; cases hy; exact .refl
        | j + 8 => simp at hx
def CH : List (List AV) := [[.int .i64 1, .fn 197 [] [], .fn 198 [] []], [.int .i64 2, .fn 199 [] [], .fn 200 [] []], [.int .i64 3, .fn 201 [] [], .fn 202 [] []], [.int .i64 4, .fn 203 [] [], .fn 204 [] []]]
theorem c145 : PCall cx.P 145 [] (.row 3 CH) := pcallA [] Tryz.f145 (by kernel_rfl) (by kernel_rfl) <| by
  conv => whnf
  refine ⟨by decide, ?_⟩
  conv => whnf
  conv => whnf
  exact .of rfl
theorem c197 (u v : Lo) : PCall cx.P 197 [.agg (encL u), .agg (encL v)] (.bool (sm 1 u v)) := pcallA [] Tryz.f197 (by kernel_rfl) (by kernel_rfl) <| by
  have key : sm 1 u v = true ↔ u.1 = v.1 ∧ u.2.1.f1 = v.2.1.f1 ∧ u.2.1.f2 = v.2.1.f2 ∧ u.2.1.f4 = v.2.1.f4 := by
    rw [sm_iff, cmpn_1, cmpn_1, Prod.mk.injEq, Prod.mk.injEq, S47.mk.injEq]
    simp
  conv => whnf
  refine ⟨fun w1 => ?_, fun w1 => ?_⟩
  · conv => whnf
    refine ⟨fun w2 => ?_, fun w2 => ?_⟩
    · conv => whnf
      refine ⟨fun w3 => ?_, fun w3 => ?_⟩
      · conv => whnf
        exact .bool (bool_of (by rw [key, beq_iff_eq]; exact ⟨fun h => ⟨eq_of_beq w1, eq_of_beq w2, (sEq_iff _ _).1 w3, h⟩, fun h => h.2.2.2⟩))
      · conv => whnf
        exact .lit (by rw [eq_comm, ← Bool.not_eq_true, key]; exact fun h => by rw [(sEq_iff _ _).2 h.2.2.1] at w3; cases w3)
    · conv => whnf
      exact .lit (by rw [eq_comm, ← Bool.not_eq_true, key]; exact fun h => ne_of_beq w2 h.2.1)
  · conv => whnf
    exact .lit (by rw [eq_comm, ← Bool.not_eq_true, key]; exact fun h => by rw [h.1, beq_self_eq_true] at w1; cases w1)
theorem c199 (u v : Lo) : PCall cx.P 199 [.agg (encL u), .agg (encL v)] (.bool (sm 2 u v)) := pcallA [] Tryz.f199 (by kernel_rfl) (by kernel_rfl) <| by
  conv => whnf
  exact .bool (bool_of (by rw [sm_iff, cmpn_2, cmpn_2, Prod.mk.injEq, Prod.mk.injEq, S47.mk.injEq]; simp))
theorem c201 (u v : Lo) (hu : Sz47 u.2.1) (hv : Sz47 v.2.1) : PCall cx.P 201 [.agg (encL u), .agg (encL v)] (.bool (sm 3 u v)) := pcallA [] Tryz.f201 (by kernel_rfl) (by kernel_rfl) <| by
  have h := c140 u.2.1.f5 v.2.1.f5 hu.1.1 hv.1.1 hu.1.2 hv.1.2
  conv => whnf
  refine ⟨_, h, ?_⟩
  conv => whnf
  conv => whnf
  exact .bool (bool_of (by rw [sm_iff, cmpn_3, cmpn_3, Prod.mk.injEq, Prod.mk.injEq, S47.mk.injEq, eqq_iff]; simp))
theorem c203 (u v : Lo) (hu : Sz47 u.2.1) (hv : Sz47 v.2.1) : PCall cx.P 203 [.agg (encL u), .agg (encL v)] (.bool (sm 4 u v)) := pcallA [] Tryz.f203 (by kernel_rfl) (by kernel_rfl) <| by
  have h := c140 u.2.1.f6 v.2.1.f6 hu.2.1 hv.2.1 hu.2.2 hv.2.2
  conv => whnf
  refine ⟨_, h, ?_⟩
  conv => whnf
  conv => whnf
  exact .bool (bool_of (by rw [sm_iff, cmpn_4, cmpn_4, Prod.mk.injEq, Prod.mk.injEq, S47.mk.injEq, eqq_iff]; simp))
theorem c198 (v : Lo) : PCall cx.P 198 [.agg (encL v)] (.agg (enc47 (cmpn 1 v).2.1)) := pcallA [] Tryz.f198 (by kernel_rfl) (by kernel_rfl) <| by
  conv => whnf
  exact .it (.lit rfl) .nils .nils
theorem c200 (v : Lo) : PCall cx.P 200 [.agg (encL v)] (.agg (enc47 (cmpn 2 v).2.1)) := pcallA [] Tryz.f200 (by kernel_rfl) (by kernel_rfl) <| by
  conv => whnf
  exact .it .refl .nils .nils
theorem c202 (v : Lo) : PCall cx.P 202 [.agg (encL v)] (.agg (enc47 (cmpn 3 v).2.1)) := pcallA [] Tryz.f202 (by kernel_rfl) (by kernel_rfl) <| by
  conv => whnf
  exact .it (.lit rfl) .refl .nils
theorem c204 (v : Lo) : PCall cx.P 204 [.agg (encL v)] (.agg (enc47 (cmpn 4 v).2.1)) := pcallA [] Tryz.f204 (by kernel_rfl) (by kernel_rfl) <| by
  conv => whnf
  exact .it (.lit rfl) .nils .refl
end Go.Ab
namespace Go.Ab
open Go.Proofs Sn
set_option maxRecDepth 100000
set_option linter.unnecessarySimpa false
set_option linter.unusedSimpArgs false
set_option linter.unusedVariables false
set_option maxHeartbeats 4000000
def mb (o a b : St) (x y : AV) : SV := .live (.box [.row 1 (o.1.map encT), .row 7 (o.2.map enc47), .row 1 (a.1.map encT), .row 7 (a.2.map enc47), .row 1 (b.1.map encT), .row 7 (b.2.map enc47), x, y])
theorem c96 (o a b : St) (ho : o.1.length ≤ 1024 ∧ o.2.length ≤ 1024) (ha : a.1.length ≤ 1024 ∧ a.2.length ≤ 1024) (hb : b.1.length ≤ 1024 ∧ b.2.length ≤ 1024) : ACall cx.P 96 [.bptr 32 0] [(32, mb o a b .nils .nils)] (.own 1 96 0 ((nm3 o a b).map encT).length .opn) [(96, .live (.arr 1 ((nm3 o a b).map encT))), (32, mb o a b .nils .nils)] := acallA [] Tryz.f96 (by kernel_rfl) (by kernel_rfl) rfl <| by
  obtain ⟨L, hL⟩ : ∃ L : List St, L = [o, a, b] := ⟨_, rfl⟩
  have hLl : L.length = 3 := by rw [hL]; rfl
  have hm : ∀ m ∈ L, m.1.length ≤ 1024 ∧ m.2.length ≤ 1024 := fun m h => by
    rw [hL] at h
    simp only [List.mem_cons, List.not_mem_nil, or_false] at h
    rcases h with rfl | rfl | rfl <;> assumption
  have hN : nm3 o a b = namesOf L := by rw [hL]; rfl
  rw [hN]
  have hRow : [[AV.row 1 (o.1.map encT), AV.row 7 (o.2.map enc47)], [AV.row 1 (a.1.map encT), AV.row 7 (a.2.map enc47)], [AV.row 1 (b.1.map encT), AV.row 7 (b.2.map enc47)]] = L.map encP := by rw [hL]; rfl
  have hE : (L.map encP).length = L.length := List.length_map _
  obtain ⟨G, hG⟩ : ∃ G : (List ByteArray × List S47) → List ByteArray, G = fun m => m.1 ++ m.2.map S47.f0 := ⟨_, rfl⟩
  have hGl : ∀ m ∈ L, (G m).length ≤ 2048 := fun m h => by
    rw [hG]
    show (m.1 ++ m.2.map S47.f0).length ≤ 2048
    rw [List.length_append, List.length_map]
    have := hm m h
    omega
  have hFl : ∀ l : List (List ByteArray × List S47), (∀ m ∈ l, m ∈ L) → (l.flatMap G).length ≤ 2048 * l.length := fun l => by
    induction l with
    | nil => intro _; simp
    | cons m l ih =>
      intro h
      rw [List.flatMap_cons, List.length_append, List.length_cons]
      have h1 := hGl m (h m (List.mem_cons_self ..))
      have h2 := ih fun x hx => h x (List.mem_cons_of_mem _ hx)
      omega
  have hTl : ∀ j, ((L.take j).flatMap G).length ≤ 6144 := fun j => by
    have h := hFl (L.take j) fun m h => List.mem_of_mem_take h
    rw [List.length_take] at h
    omega
  conv => whnf
  refine ⟨by kernel_rfl, ?_⟩
  conv => whnf
  conv => whnf
  refine .inr (.inl ⟨[3, 20, 21, 22], Nat, fun j => ([(3, .own 1 208 0 (((L.take j).flatMap G).map encT).length .opn), (20, .own 2 1296 0 3 .full), (21, .int .i64 3), (22, .int .i64 j)], [(1296, .live (.arr 2 (L.map encP))), (208, .live (.arr 1 (((L.take j).flatMap G).map encT))), (32, mb o a b .nils .nils)]), fun j => j ≤ L.length, fun j => L.length - j, ?_, fun j hj => ?_⟩)
  · conv => whnf
    refine ⟨0, ?_, Nat.zero_le _⟩
    dsimp only
    rw [← hRow]
    exact .nil rfl rfl (.chg <| .same <| .same <| .same .nil) (.there rfl .here)
  · have hj : j ≤ L.length := hj
    have hTe : (((L.take j).flatMap G).map encT).length = ((L.take j).flatMap G).length := List.length_map _
    have hTb := hTl j
    unfold mb
    conv => whnf
    refine ⟨fun w1 => ?_, fun w1 => ?_⟩
    · have w1 : j < L.length := by have := of_decide_eq_true w1; omega
      obtain ⟨m, hmj⟩ := at_ex w1
      have hml := hm m (List.mem_of_getElem? hmj)
      have hme : (m.1.map encT).length = m.1.length := List.length_map _
      have hme2 : (m.2.map enc47).length = m.2.length := List.length_map _
      obtain ⟨Z, hZ⟩ : ∃ Z : Nat → List ByteArray, Z = fun k => (L.take j).flatMap G ++ m.1 ++ (m.2.take k).map S47.f0 := ⟨_, rfl⟩
      have hZb : ∀ k, (Z k).length ≤ 9216 := fun k => by
        rw [hZ]
        show ((L.take j).flatMap G ++ m.1 ++ (m.2.take k).map S47.f0).length ≤ _
        rw [List.length_append, List.length_append, List.length_map, List.length_take]
        omega
      conv => whnf
      refine ⟨⟨Int.natCast_nonneg _, by omega⟩, ?_⟩
      conv => whnf
      conv => whnf
      refine ⟨_, map_at0 hmj, ?_⟩
      conv => whnf
      conv => whnf
      refine ⟨⟨Nat.zero_add _, by show (_ + _) * 16 ≤ 2 ^ 47; omega⟩, ?_⟩
      conv => whnf
      conv => whnf
      refine .inr (.inl ⟨[3, 20, 21, 22, 31, 32, 33], Nat, fun k => ([(3, .own 1 208 0 ((Z k).map encT).length .opn), (20, .own 2 1296 0 3 .full), (21, .int .i64 3), (22, .int .i64 j), (31, .row 7 (m.2.map enc47)), (32, .int .i64 m.2.length), (33, .int .i64 k)], [(1296, .live (.arr 2 (L.map encP))), (208, .live (.arr 1 ((Z k).map encT))), (32, mb o a b .nils .nils)]), fun k => k ≤ m.2.length, fun k => m.2.length - k, ?_, fun k hk => ?_⟩)
      · conv => whnf
        refine ⟨0, ?_, Nat.zero_le _⟩
        dsimp only
        rw [show Z 0 = (L.take j).flatMap G ++ m.1 from by rw [hZ]; exact List.append_nil _, List.map_append, List.length_append, ← hme2]
        exact .of rfl
      · have hk : k ≤ m.2.length := hk
        have hZe : ((Z k).map encT).length = (Z k).length := List.length_map _
        have hZb := hZb k
        unfold mb
        conv => whnf
        refine ⟨fun w2 => ?_, fun w2 => ?_⟩
        · replace w2 := lti w2
          obtain ⟨u, hu⟩ := at_ex w2
          conv => whnf
          refine ⟨⟨Int.natCast_nonneg _, by omega⟩, ?_⟩
          conv => whnf
          conv => whnf
          refine ⟨_, map_at hu, ?_⟩
          conv => whnf
          conv => whnf
          refine ⟨by simpa using by omega, ?_⟩
          conv => whnf
          conv => whnf
          refine ⟨by simpa using by omega, ?_⟩
          conv => whnf
          conv => whnf
          refine ⟨k + 1, ?_, w2, by show m.2.length - (k + 1) < m.2.length - k; omega⟩
          dsimp only
          have hnx : Z (k + 1) = Z k ++ [u.f0] := by
            rw [hZ]
            show _ ++ (m.2.take (k + 1)).map S47.f0 = _ ++ (m.2.take k).map S47.f0 ++ _
            rw [snoc_take hu, List.map_append, List.append_assoc _ _ [u.f0]]
            rfl
          rw [hnx, up1 w2 (by omega), List.map_append, List.length_append]
          exact .of rfl
        · replace w2 := nlti w2
          conv => whnf
          refine ⟨j + 1, ?_, w1, by show L.length - (j + 1) < L.length - j; omega⟩
          dsimp only
          have hnx : (L.take (j + 1)).flatMap G = Z k := by
            rw [hZ]
            show _ = (L.take j).flatMap G ++ m.1 ++ (m.2.take k).map S47.f0
            rw [snoc_take hmj, List.flatMap_append, List.append_assoc, List.take_of_length_le (by omega : m.2.length ≤ k)]
            congr 1
            rw [hG]
            exact List.append_nil _
          rw [hnx, up1 w1 (by omega)]
          exact .of rfl
    · have w1 : ¬ j < L.length := by have := of_decide_eq_false w1; omega
      have hT : (L.take j).flatMap G = L.flatMap G := by rw [List.take_of_length_le (by omega)]
      have hSl : (sortL cmpS ((L.take j).flatMap G)).length ≤ 6144 := by rw [sortL_length]; exact hTb
      have hSn : sortD cmpS (sortL cmpS ((L.take j).flatMap G)) = namesOf L := by
        unfold namesOf
        refine sortD_of_mem isCmp_s fun a => ?_
        rw [(sortL_perm _).mem_iff, hT, hG]
      have h79 := c79 ((L.take j).flatMap G) (by omega)
      have h143 := c143 (sortL cmpS ((L.take j).flatMap G)) (sortL_rises isCmp_s _) (by omega)
      rw [hSn] at h143
      rw [List.length_map, sortL_length, ← List.length_map (f := encT)] at h143
      conv => whnf
      refine ⟨_, _, h79, ?_⟩
      conv => whnf
      conv => whnf
      refine ⟨_, _, h143, ?_⟩
      conv => whnf
      conv => whnf
      exact .of rfl
end Go.Ab
namespace Go.Ab
open Go.Proofs Sn
set_option maxRecDepth 100000
set_option linter.unnecessarySimpa false
set_option linter.unusedSimpArgs false
set_option linter.unusedVariables false
set_option maxHeartbeats 4000000
def enc72 (c : S72) : List AV := [.str c.f0, .int .i64 c.f1]
def mgI (o a b : St) (E : List S62) (C : List S72) : Sto := [(40, .live (.arr 2 (C.map enc72))), (39, .live (.arr 10 (E.map enc62))), (32, mb o a b (.own 10 39 0 (E.map enc62).length .opn) (.own 2 40 0 (C.map enc72).length .opn))]
def mgO (o a b : St) (E : List S62) (C : List S72) : Sto := [(55, .live (.arr 2 (C.map enc72))), (54, .live (.arr 10 (E.map enc62))), (32, mb o a b (.own 10 54 0 (E.map enc62).length .opn) (.own 2 55 0 (C.map enc72).length .opn)), (39, .dead), (40, .dead)]
def mgA (o a b : St) (E : List S62) (C : List S72) : Sto := [(54, .live (.arr 10 (E.map enc62))), (32, mb o a b (.own 10 54 0 (E.map enc62).length .opn) (.own 2 40 0 (C.map enc72).length .opn)), (39, .dead), (40, .live (.arr 2 (C.map enc72)))]
def mgN (o a b : St) (E : List S62) (C : List S72) : Sto := [(32, mb o a b (.own 10 39 0 (E.map enc62).length .opn) (.own 2 40 0 (C.map enc72).length .opn)), (39, .live (.arr 10 (E.map enc62))), (40, .live (.arr 2 (C.map enc72)))]
theorem ren_6 {k k' : Nat} {r0 r1 r2 r3 r4 r5 y : AV} {s i n : Nat} {q : Q} : RenC k k' [r0, r1, r2, r3, r4, r5, .own s k i n q, y] [r0, r1, r2, r3, r4, r5, .own s k' i n q, y] := .same <| .same <| .same <| .same <| .same <| .same <| .chg <| .same .nil
theorem ren_7 {k k' : Nat} {r0 r1 r2 r3 r4 r5 y : AV} {s i n : Nat} {q : Q} : RenC k k' [r0, r1, r2, r3, r4, r5, y, .own s k i n q] [r0, r1, r2, r3, r4, r5, y, .own s k' i n q] := .same <| .same <| .same <| .same <| .same <| .same <| .same <| .chg .nil
theorem mgA_O {o a b : St} {E : List S62} {C : List S72} {V : Env} : StLe [40, 39, 32] (V, mgA o a b E C) (V, mgO o a b E C) :=
  .renT (k := 40) (k' := 55) rfl (by decide) rfl rfl (.here (.same rfl (.box rfl ren_7 (.same rfl (.kill .nil)))))
theorem mgN_A {o a b : St} {E : List S62} {C : List S72} {V : Env} : StLe [40, 39, 32] (V, mgN o a b E C) (V, mgA o a b E C) :=
  .renT (k := 39) (k' := 54) rfl (by decide) rfl rfl (.here (.box rfl ren_6 (.kill (.same rfl .nil))))
theorem c98 (o a b : St) (ho : o.1.length ≤ 1024) (ha : a.1.length ≤ 1024) (hb : b.1.length ≤ 1024) (E : List S62) (C : List S72) (hE : E.length ≤ 1024) (hC : C.length ≤ 1024) (id : ByteArray) : ACall cx.P 98 [.bptr 32 0, .str id] (mgI o a b E C) (.tup []) (mgO o a b (E ++ eF (hasS o.1 id) (hasS a.1 id) (hasS b.1 id) id) C) := acallA [] Tryz.f98 (by kernel_rfl) (by kernel_rfl) rfl <| by
  have h1 := c92 o.1 id (by omega)
  have h2 := c92 a.1 id (by omega)
  have h3 := c92 b.1 id (by omega)
  have hEe : (E.map enc62).length = E.length := List.length_map _
  have hCe : (C.map enc72).length = C.length := List.length_map _
  unfold mgI mb
  generalize hasS o.1 id = x at h1 ⊢
  generalize hasS a.1 id = y at h2 ⊢
  generalize hasS b.1 id = z at h3 ⊢
  replace h1 := h1.to (.blit rfl)
  replace h2 := h2.to (.blit rfl)
  replace h3 := h3.to (.blit rfl)
  conv => whnf
  refine ⟨_, h1, ?_⟩
  conv => whnf
  conv => whnf
  refine ⟨_, h2, ?_⟩
  conv => whnf
  conv => whnf
  refine ⟨_, h3, ?_⟩
  conv => whnf
  conv => whnf
  refine ⟨by kernel_rfl, ?_⟩
  conv => whnf
  conv => whnf
  refine ⟨fun w1 => ?_, fun w1 => ?_⟩
  · have e1 : y = x := eq_of_beq w1
    subst e1
    conv => whnf
    refine ⟨fun w2 => ?_, fun w2 => ?_⟩
    · have hcf : eF y y z id = [⟨id, 5, z, only id⟩] := by
        have hz : (z != y) = true := w2
        unfold eF cf
        rw [beq_self_eq_true, cond_true, hz]; rfl
      rw [hcf]
      conv => whnf
      refine ⟨by simpa using by omega, ?_⟩
      conv => whnf
      conv => whnf
      refine ⟨by simpa using by omega, ?_⟩
      conv => whnf
      conv => whnf
      have hA : StLe [40, 39, 32] ([(0, .tup [])], mgA o a b (E ++ [⟨id, 5, z, only id⟩]) C) ([(0, .tup [])], mgO o a b (E ++ [⟨id, 5, z, only id⟩]) C) := mgA_O
      refine .trans ?_ hA
      unfold mgA mb
      rw [List.map_append, List.length_append]
      exact .le (.refl _) (.cons _ _ _ _ _ (.rows (.app (.refl _) (.cons (by repeat (first | exact .nil | refine .cons (by first | exact .refl | exact .lit rfl | exact .nils) ?_)) .nil))) (.refl _))
    · have hcf : eF y y z id = [] := by
        have hz : (z != y) = false := w2
        unfold eF cf
        rw [beq_self_eq_true, cond_true, hz]; rfl
      rw [hcf, List.append_nil]
      conv => whnf
      exact .trans (q := ([(0, .tup [])], mgN o a b E C)) (.of rfl) (.trans (mgN_A (o := o) (a := a) (b := b) (E := E) (C := C) (V := [(0, .tup [])])) mgA_O)
  · have e1 : (y == x) = false := w1
    conv => whnf
    refine ⟨fun w2 => ?_, fun w2 => ?_⟩
    · have hcf : eF x y z id = [⟨id, 5, y, only id⟩] := by
        have hz : (y != x) = true := w2
        unfold eF cf
        rw [e1, cond_false, hz]; rfl
      rw [hcf]
      conv => whnf
      refine ⟨by simpa using by omega, ?_⟩
      conv => whnf
      conv => whnf
      refine ⟨by simpa using by omega, ?_⟩
      conv => whnf
      conv => whnf
      have hA : StLe [40, 39, 32] ([(0, .tup [])], mgA o a b (E ++ [⟨id, 5, y, only id⟩]) C) ([(0, .tup [])], mgO o a b (E ++ [⟨id, 5, y, only id⟩]) C) := mgA_O
      refine .trans ?_ hA
      unfold mgA mb
      rw [List.map_append, List.length_append]
      exact .le (.refl _) (.cons _ _ _ _ _ (.rows (.app (.refl _) (.cons (by repeat (first | exact .nil | refine .cons (by first | exact .refl | exact .lit rfl | exact .nils) ?_)) .nil))) (.refl _))
    · have hz : (y != x) = false := w2
      rw [bne, e1] at hz
      cases hz
end Go.Ab
namespace Go.Ab
open Go.Proofs Sn
set_option maxRecDepth 100000
set_option linter.unnecessarySimpa false
set_option linter.unusedSimpArgs false
set_option linter.unusedVariables false
set_option maxHeartbeats 40000000
theorem ch_a {k : Int} {o a b : Lo} (h : sm k b o = true) : ch k o a b = some a := by unfold ch; rw [h]; rfl
theorem ch_b {k : Int} {o a b : Lo} (h : sm k b o = false) (h' : (sm k a o || sm k a b) = true) : ch k o a b = some b := by unfold ch; rw [h, h']; rfl
theorem ch_n {k : Int} {o a b : Lo} (h : sm k b o = false) (h' : (sm k a o || sm k a b) = false) : ch k o a b = none := by unfold ch; rw [h, h']; rfl
noncomputable def eU (o a b : Lo) (id : ByteArray) : Nat → List S62
  | 0 => []
  | 1 => eh o a b id
  | 2 => eh o a b id ++ ek 2 (g2 id) o a b id
  | 3 => eh o a b id ++ ek 2 (g2 id) o a b id ++ ek 3 (g3 id) o a b id
  | _ => eh o a b id ++ ek 2 (g2 id) o a b id ++ ek 3 (g3 id) o a b id ++ ek 4 (g4 id) o a b id
noncomputable def cU (o a b : Lo) (id : ByteArray) : Nat → List S72
  | 0 => []
  | 1 => cl1 1 o a b id
  | 2 => cl1 1 o a b id ++ cl1 2 o a b id
  | 3 => cl1 1 o a b id ++ cl1 2 o a b id ++ cl1 3 o a b id
  | _ => cl1 1 o a b id ++ cl1 2 o a b id ++ cl1 3 o a b id ++ cl1 4 o a b id
noncomputable def th (o a b : Lo) : Nat → Bool
  | 0 => false
  | _ + 1 => eq1 o a b
theorem bif_len {c : Bool} {x : S62} : (bif c then [] else [x]).length ≤ 1 := by cases c <;> simp
theorem eh_len (o a b : Lo) (id : ByteArray) : (eh o a b id).length ≤ 1 := by
  unfold eh
  cases ch 1 o a b with
  | none => simp
  | some c => exact bif_len
theorem ek_len (k : Int) (g : S47 → S47) (o a b : Lo) (id : ByteArray) : (ek k g o a b id).length ≤ 1 := by
  unfold ek
  cases ch k o a b with
  | none => simp
  | some c => exact bif_len
theorem cl1_len (k : Int) (o a b : Lo) (id : ByteArray) : (cl1 k o a b id).length ≤ 1 := by
  unfold cl1
  cases ch k o a b <;> simp
theorem eU_len (o a b : Lo) (id : ByteArray) (i : Nat) : (eU o a b id i).length ≤ 4 := by
  have h1 := eh_len o a b id
  have h2 := ek_len 2 (g2 id) o a b id
  have h3 := ek_len 3 (g3 id) o a b id
  have h4 := ek_len 4 (g4 id) o a b id
  unfold eU
  split <;> (try simp only [List.length_append, List.length_nil]) <;> omega
theorem cU_len (o a b : Lo) (id : ByteArray) (i : Nat) : (cU o a b id i).length ≤ 4 := by
  have h1 := cl1_len 1 o a b id
  have h2 := cl1_len 2 o a b id
  have h3 := cl1_len 3 o a b id
  have h4 := cl1_len 4 o a b id
  unfold cU
  split <;> (try simp only [List.length_append, List.length_nil]) <;> omega
theorem nxE {o a b : Lo} {id : ByteArray} {E : List S62} {i : Nat} {p : List S62} (h : eU o a b id (i + 1) = eU o a b id i ++ p) : E ++ eU o a b id (i + 1) = (E ++ eU o a b id i) ++ p := by rw [h, List.append_assoc]
theorem nxC {o a b : Lo} {id : ByteArray} {C : List S72} {i : Nat} {p : List S72} (h : cU o a b id (i + 1) = cU o a b id i ++ p) : C ++ cU o a b id (i + 1) = (C ++ cU o a b id i) ++ p := by rw [h, List.append_assoc]
theorem eU_st1 {u v w : Lo} {id : ByteArray} (h : eh u v w id = []) : eU u v w id 0 = eU u v w id 1 := h.symm
theorem eU_st1' {u v w : Lo} {id : ByteArray} {p : List S62} (h : eh u v w id = p) : eU u v w id 1 = eU u v w id 0 ++ p := h
theorem cU_st1 {u v w : Lo} {id : ByteArray} (h : cl1 1 u v w id = []) : cU u v w id 0 = cU u v w id 1 := h.symm
theorem cU_st1' {u v w : Lo} {id : ByteArray} {p : List S72} (h : cl1 1 u v w id = p) : cU u v w id 1 = cU u v w id 0 ++ p := h
theorem eU_st2 {u v w : Lo} {id : ByteArray} (h : ek 2 (g2 id) u v w id = []) : eU u v w id 1 = eU u v w id 2 := by show _ = eU u v w id 1 ++ ek 2 (g2 id) u v w id; rw [h, List.append_nil]
theorem eU_st2' {u v w : Lo} {id : ByteArray} {p : List S62} (h : ek 2 (g2 id) u v w id = p) : eU u v w id 2 = eU u v w id 1 ++ p := by show eU u v w id 1 ++ ek 2 (g2 id) u v w id = _; rw [h]
theorem cU_st2 {u v w : Lo} {id : ByteArray} (h : cl1 2 u v w id = []) : cU u v w id 1 = cU u v w id 2 := by show _ = cU u v w id 1 ++ cl1 2 u v w id; rw [h, List.append_nil]
theorem cU_st2' {u v w : Lo} {id : ByteArray} {p : List S72} (h : cl1 2 u v w id = p) : cU u v w id 2 = cU u v w id 1 ++ p := by show cU u v w id 1 ++ cl1 2 u v w id = _; rw [h]
theorem eU_st3 {u v w : Lo} {id : ByteArray} (h : ek 3 (g3 id) u v w id = []) : eU u v w id 2 = eU u v w id 3 := by show _ = eU u v w id 2 ++ ek 3 (g3 id) u v w id; rw [h, List.append_nil]
theorem eU_st3' {u v w : Lo} {id : ByteArray} {p : List S62} (h : ek 3 (g3 id) u v w id = p) : eU u v w id 3 = eU u v w id 2 ++ p := by show eU u v w id 2 ++ ek 3 (g3 id) u v w id = _; rw [h]
theorem cU_st3 {u v w : Lo} {id : ByteArray} (h : cl1 3 u v w id = []) : cU u v w id 2 = cU u v w id 3 := by show _ = cU u v w id 2 ++ cl1 3 u v w id; rw [h, List.append_nil]
theorem cU_st3' {u v w : Lo} {id : ByteArray} {p : List S72} (h : cl1 3 u v w id = p) : cU u v w id 3 = cU u v w id 2 ++ p := by show cU u v w id 2 ++ cl1 3 u v w id = _; rw [h]
theorem eU_st4 {u v w : Lo} {id : ByteArray} (h : ek 4 (g4 id) u v w id = []) : eU u v w id 3 = eU u v w id 4 := by show _ = eU u v w id 3 ++ ek 4 (g4 id) u v w id; rw [h, List.append_nil]
theorem eU_st4' {u v w : Lo} {id : ByteArray} {p : List S62} (h : ek 4 (g4 id) u v w id = p) : eU u v w id 4 = eU u v w id 3 ++ p := by show eU u v w id 3 ++ ek 4 (g4 id) u v w id = _; rw [h]
theorem cU_st4 {u v w : Lo} {id : ByteArray} (h : cl1 4 u v w id = []) : cU u v w id 3 = cU u v w id 4 := by show _ = cU u v w id 3 ++ cl1 4 u v w id; rw [h, List.append_nil]
theorem cU_st4' {u v w : Lo} {id : ByteArray} {p : List S72} (h : cl1 4 u v w id = p) : cU u v w id 4 = cU u v w id 3 ++ p := by show cU u v w id 3 ++ cl1 4 u v w id = _; rw [h]
theorem c97 (o a b : St) (ho : SzM o.1 o.2) (ha : SzM a.1 a.2) (hb : SzM b.1 b.2) (hol : o.2.length ≤ 1024) (hal : a.2.length ≤ 1024) (hbl : b.2.length ≤ 1024) (E : List S62) (C : List S72) (hE : E.length ≤ 1024) (hC : C.length ≤ 1024) (id : ByteArray) : ACall cx.P 97 [.bptr 32 0, .str id] (mgI o a b E C) (.tup []) (mgO o a b (E ++ eA (loc o id) (loc a id) (loc b id) id) (C ++ clA (loc o id) (loc a id) (loc b id) id)) := acallA [] Tryz.f97 (by kernel_rfl) (by kernel_rfl) rfl <| by
  have h1 := c144 o.1 o.2 id hol
  have h2 := c144 a.1 a.2 id hal
  have h3 := c144 b.1 b.2 id hbl
  have z1 : Sz47 (loc (o.1, o.2) id).2.1 := ho.getI id
  have z2 : Sz47 (loc (a.1, a.2) id).2.1 := ha.getI id
  have z3 : Sz47 (loc (b.1, b.2) id).2.1 := hb.getI id
  have hEe : (E.map enc62).length = E.length := List.length_map _
  have hCe : (C.map enc72).length = C.length := List.length_map _
  have e1 : eA (loc o id) (loc a id) (loc b id) id = eU (loc o id) (loc a id) (loc b id) id 4 := by unfold eA eU; simp only [List.append_assoc]
  have e2 : clA (loc o id) (loc a id) (loc b id) id = cU (loc o id) (loc a id) (loc b id) id 4 := by unfold clA cU; simp only [List.append_assoc]
  rw [e1, e2]
  obtain ⟨u, hu⟩ : ∃ u, u = loc o id := ⟨_, rfl⟩
  obtain ⟨v, hv⟩ : ∃ v, v = loc a id := ⟨_, rfl⟩
  obtain ⟨w, hw⟩ : ∃ w, w = loc b id := ⟨_, rfl⟩
  rw [← hu, ← hv, ← hw]
  replace h1 : PCall cx.P 144 [encM o.1 o.2, .str id] (.agg (encL u)) := hu ▸ h1
  replace h2 : PCall cx.P 144 [encM a.1 a.2, .str id] (.agg (encL v)) := hv ▸ h2
  replace h3 : PCall cx.P 144 [encM b.1 b.2, .str id] (.agg (encL w)) := hw ▸ h3
  replace z1 : Sz47 u.2.1 := hu ▸ z1
  replace z2 : Sz47 v.2.1 := hv ▸ z2
  replace z3 : Sz47 w.2.1 := hw ▸ z3
  clear hu hv hw e1 e2
  unfold mgI mb
  unfold encM at h1 h2 h3
  conv => whnf
  refine ⟨_, h1, ?_⟩
  conv => whnf
  conv => whnf
  refine ⟨_, h2, ?_⟩
  conv => whnf
  conv => whnf
  refine ⟨_, h3, ?_⟩
  conv => whnf
  conv => whnf
  refine ⟨by kernel_rfl, ?_⟩
  conv => whnf
  conv => whnf
  refine ⟨_, c145, ?_⟩
  conv => whnf
  conv => whnf
  refine .inr (.inl ⟨[0, 1, 4, 5, 6, 7, 30, 31, 32], Nat × List S62 × List S72 × Bool, fun x => ([(0, .bptr 32 0), (1, .str id), (4, .bptr 272 0), (5, .bptr 336 0), (6, .bptr 400 0), (7, .bool x.2.2.2), (30, .row 3 CH), (31, .int .i64 4), (32, .int .i64 x.1)],
    [(400, .live (.box (encL w))), (336, .live (.box (encL v))), (272, .live (.box (encL u))), (55, .live (.arr 2 (x.2.2.1.map enc72))), (54, .live (.arr 10 (x.2.1.map enc62))), (32, mb o a b (.own 10 54 0 (x.2.1.map enc62).length .opn) (.own 2 55 0 (x.2.2.1.map enc72).length .opn)), (39, .dead), (40, .dead)]), fun x => x.1 ≤ 4 ∧ x.2.1 = E ++ eU u v w id x.1 ∧ x.2.2.1 = C ++ cU u v w id x.1 ∧ x.2.2.2 = th u v w x.1, fun x => 4 - x.1, ?_, ?_⟩)
  · conv => whnf
    refine ⟨(0, E, C, false), ?_, Nat.zero_le _, (List.append_nil _).symm, (List.append_nil _).symm, rfl⟩
    dsimp only
    refine .trans (.le (E' := [(0, .bptr 32 0), (1, .str id), (4, .bptr 272 0), (5, .bptr 336 0), (6, .bptr 400 0), (7, .bool false), (30, .row 3 CH), (31, .int .i64 4), (32, .int .i64 0)]) (.cons _ _ _ _ _ .refl <| .cons _ _ _ _ _ .refl <| .cons _ _ _ _ _ .refl <| .cons _ _ _ _ _ .refl <| .cons _ _ _ _ _ .refl <| .cons _ _ _ _ _ (.lit rfl) <| .refl _) (.refl _)) ?_
    exact .trans (.renT (k := 39) (k' := 54) rfl (by decide) rfl rfl (.same rfl rfl (.same rfl rfl (.same rfl rfl (.here (.box rfl ren_6 (.kill (.same rfl .nil)))))))) (.renT (k := 40) (k' := 55) rfl (by decide) rfl rfl (.same rfl rfl (.same rfl rfl (.same rfl rfl (.here (.same rfl (.box rfl ren_7 (.same rfl (.kill .nil)))))))))
  · rintro ⟨i, E', C', tb⟩ ⟨hi, hE1, hC1, hth⟩
    dsimp only at hi hE1 hC1 hth
    have hii : i = 0 ∨ i = 1 ∨ i = 2 ∨ i = 3 ∨ i = 4 := by omega
    have hEE : (E'.map enc62).length ≤ 1028 := by have hEl := eU_len u v w id i; rw [List.length_map, hE1, List.length_append]; omega
    have hCC : (C'.map enc72).length ≤ 1028 := by have hCl := cU_len u v w id i; rw [List.length_map, hC1, List.length_append]; omega
    rcases hii with rfl | rfl | rfl | rfl | rfl
    · replace hth : tb = false := hth
      subst hth
      have hs1 := c197 w u
      have hs2 := c197 v u
      have hs3 := c197 v w
      dsimp only
      unfold mb
      conv => whnf
      refine ⟨fun w0 => ?_, fun w0 => ?_⟩
      rotate_left
      · exact absurd w0 (by decide)
      conv => whnf
      refine ⟨⟨Int.natCast_nonneg _, by decide⟩, ?_⟩
      conv => whnf
      conv => whnf
      refine ⟨_, rfl, ?_⟩
      conv => whnf
      conv => whnf
      refine Or.elim (Bool.eq_false_or_eq_true (sm 1 w u)) (fun e1 => ?_) (fun e1 => ?_)
      · skip
        have hch := ch_a (a := v) e1
        have hc : cl1 1 u v w id = [] := by unfold cl1; rw [hch]
        have hth1 : th u v w 1 = v.1 := by show eq1 u v w = _; unfold eq1; rw [hch]
        rw [e1] at hs1
        replace hs1 := hs1.to (.blit rfl)
        refine ⟨_, hs1, ?_⟩
        conv => whnf
        conv => whnf
        refine ⟨fun w2 => ?_, fun w2 => ?_⟩
        rotate_left
        · exact absurd w2 (by decide)
        conv => whnf
        refine Or.elim (Bool.eq_false_or_eq_true (sm 1 v u)) (fun e2 => ?_) (fun e2 => ?_)
        · skip
          rw [e2] at hs2
          replace hs2 := hs2.to (.blit rfl)
          have hp : eh u v w id = [] := by unfold eh; rw [hch]; simp only [e2, Bool.true_or, cond_true]
          refine ⟨_, hs2, ?_⟩
          conv => whnf
          conv => whnf
          refine ⟨(1, E', C', th u v w 1), ?_, ⟨(by omega : (1 : Nat) ≤ 4), hE1.trans (congrArg (E ++ ·) (eU_st1 hp)), hC1.trans (congrArg (C ++ ·) (cU_st1 hc)), rfl⟩, (by omega : 4 - (1 : Nat) < 4 - 0)⟩
          dsimp only
          rw [hth1]
          exact .of rfl
        · skip
          rw [e2] at hs2
          replace hs2 := hs2.to (.blit rfl)
          refine ⟨_, hs2, ?_⟩
          conv => whnf
          conv => whnf
          refine ⟨fun w3 => ?_, fun w3 => ?_⟩
          · exact absurd w3 (by decide)
          conv => whnf
          have hp : eh u v w id = [⟨id, 1, v.1, ⟨id, v.2.1.f1, v.2.1.f2, false, v.2.1.f4, [], []⟩⟩] := by unfold eh; rw [hch]; simp only [e2, cond_false]
          conv => whnf
          refine ⟨fun w5 => ?_, fun w5 => ?_⟩
          · exact absurd w5 (by decide)
          conv => whnf
          refine ⟨_, c198 v, ?_⟩
          conv => whnf
          conv => whnf
          refine ⟨by kernel_rfl, ?_⟩
          conv => whnf
          conv => whnf
          refine ⟨by simpa using by omega, ?_⟩
          conv => whnf
          conv => whnf
          refine ⟨⟨Nat.zero_add _, by show (_ + 1) * 136 ≤ 2 ^ 47; omega⟩, ?_⟩
          conv => whnf
          conv => whnf
          refine ⟨by kernel_rfl, ?_⟩
          conv => whnf
          conv => whnf
          refine ⟨(1, E' ++ [⟨id, 1, v.1, ⟨id, v.2.1.f1, v.2.1.f2, false, v.2.1.f4, [], []⟩⟩], C', th u v w 1), ?_, ⟨(by omega : (1 : Nat) ≤ 4), by rw [hE1]; exact (nxE (i := 0) (eU_st1' hp)).symm, hC1.trans (congrArg (C ++ ·) (cU_st1 hc)), rfl⟩, (by omega : 4 - (1 : Nat) < 4 - 0)⟩
          dsimp only
          rw [hth1]
          rw [List.map_append (f := enc62), List.length_append]
          exact .le (.refl _) (.cons _ _ _ _ _ (.refl _) <| .cons _ _ _ _ _ (.refl _) <| .cons _ _ _ _ _ (.refl _) <| .cons _ _ _ _ _ (.refl _) <| .cons _ _ _ _ _ (.rows (.app (.refl _) (.cons (by repeat (first | exact .nil | refine .cons (by first | exact .refl | exact .lit rfl | exact .nils) ?_)) .nil))) (.refl _))
      · skip
        rw [e1] at hs1
        replace hs1 := hs1.to (.blit rfl)
        refine ⟨_, hs1, ?_⟩
        conv => whnf
        conv => whnf
        refine Or.elim (Bool.eq_false_or_eq_true (sm 1 v u)) (fun e2 => ?_) (fun e2 => ?_)
        · skip
          have hch := ch_b (a := v) (b := w) e1 (by rw [e2]; rfl)
          have hc : cl1 1 u v w id = [] := by unfold cl1; rw [hch]
          have hth1 : th u v w 1 = w.1 := by show eq1 u v w = _; unfold eq1; rw [hch]
          rw [e2] at hs2
          replace hs2 := hs2.to (.blit rfl)
          refine ⟨_, hs2, ?_⟩
          conv => whnf
          conv => whnf
          refine ⟨fun w2 => ?_, fun w2 => ?_⟩
          rotate_left
          · exact absurd w2 (by decide)
          conv => whnf
          refine ⟨_, hs1, ?_⟩
          conv => whnf
          conv => whnf
          refine ⟨fun w3 => ?_, fun w3 => ?_⟩
          · exact absurd w3 (by decide)
          conv => whnf
          have hp : eh u v w id = [⟨id, 1, w.1, ⟨id, w.2.1.f1, w.2.1.f2, false, w.2.1.f4, [], []⟩⟩] := by unfold eh; rw [hch]; simp only [e1, cond_false]
          conv => whnf
          refine ⟨fun w5 => ?_, fun w5 => ?_⟩
          · exact absurd w5 (by decide)
          conv => whnf
          refine ⟨_, c198 w, ?_⟩
          conv => whnf
          conv => whnf
          refine ⟨by kernel_rfl, ?_⟩
          conv => whnf
          conv => whnf
          refine ⟨by simpa using by omega, ?_⟩
          conv => whnf
          conv => whnf
          refine ⟨⟨Nat.zero_add _, by show (_ + 1) * 136 ≤ 2 ^ 47; omega⟩, ?_⟩
          conv => whnf
          conv => whnf
          refine ⟨by kernel_rfl, ?_⟩
          conv => whnf
          conv => whnf
          refine ⟨(1, E' ++ [⟨id, 1, w.1, ⟨id, w.2.1.f1, w.2.1.f2, false, w.2.1.f4, [], []⟩⟩], C', th u v w 1), ?_, ⟨(by omega : (1 : Nat) ≤ 4), by rw [hE1]; exact (nxE (i := 0) (eU_st1' hp)).symm, hC1.trans (congrArg (C ++ ·) (cU_st1 hc)), rfl⟩, (by omega : 4 - (1 : Nat) < 4 - 0)⟩
          dsimp only
          rw [hth1]
          rw [List.map_append (f := enc62), List.length_append]
          exact .le (.refl _) (.cons _ _ _ _ _ (.refl _) <| .cons _ _ _ _ _ (.refl _) <| .cons _ _ _ _ _ (.refl _) <| .cons _ _ _ _ _ (.refl _) <| .cons _ _ _ _ _ (.rows (.app (.refl _) (.cons (by repeat (first | exact .nil | refine .cons (by first | exact .refl | exact .lit rfl | exact .nils) ?_)) .nil))) (.refl _))
        · skip
          rw [e2] at hs2
          replace hs2 := hs2.to (.blit rfl)
          refine ⟨_, hs2, ?_⟩
          conv => whnf
          conv => whnf
          refine Or.elim (Bool.eq_false_or_eq_true (sm 1 v w)) (fun e3 => ?_) (fun e3 => ?_)
          · skip
            have hch := ch_b (a := v) (b := w) e1 (by rw [e2, e3]; rfl)
            have hc : cl1 1 u v w id = [] := by unfold cl1; rw [hch]
            have hth1 : th u v w 1 = w.1 := by show eq1 u v w = _; unfold eq1; rw [hch]
            rw [e3] at hs3
            replace hs3 := hs3.to (.blit rfl)
            refine ⟨_, hs3, ?_⟩
            conv => whnf
            conv => whnf
            refine ⟨fun w2 => ?_, fun w2 => ?_⟩
            rotate_left
            · exact absurd w2 (by decide)
            conv => whnf
            refine ⟨_, hs1, ?_⟩
            conv => whnf
            conv => whnf
            refine ⟨fun w3 => ?_, fun w3 => ?_⟩
            · exact absurd w3 (by decide)
            conv => whnf
            have hp : eh u v w id = [⟨id, 1, w.1, ⟨id, w.2.1.f1, w.2.1.f2, false, w.2.1.f4, [], []⟩⟩] := by unfold eh; rw [hch]; simp only [e1, cond_false]
            conv => whnf
            refine ⟨fun w5 => ?_, fun w5 => ?_⟩
            · exact absurd w5 (by decide)
            conv => whnf
            refine ⟨_, c198 w, ?_⟩
            conv => whnf
            conv => whnf
            refine ⟨by kernel_rfl, ?_⟩
            conv => whnf
            conv => whnf
            refine ⟨by simpa using by omega, ?_⟩
            conv => whnf
            conv => whnf
            refine ⟨⟨Nat.zero_add _, by show (_ + 1) * 136 ≤ 2 ^ 47; omega⟩, ?_⟩
            conv => whnf
            conv => whnf
            refine ⟨by kernel_rfl, ?_⟩
            conv => whnf
            conv => whnf
            refine ⟨(1, E' ++ [⟨id, 1, w.1, ⟨id, w.2.1.f1, w.2.1.f2, false, w.2.1.f4, [], []⟩⟩], C', th u v w 1), ?_, ⟨(by omega : (1 : Nat) ≤ 4), by rw [hE1]; exact (nxE (i := 0) (eU_st1' hp)).symm, hC1.trans (congrArg (C ++ ·) (cU_st1 hc)), rfl⟩, (by omega : 4 - (1 : Nat) < 4 - 0)⟩
            dsimp only
            rw [hth1]
            rw [List.map_append (f := enc62), List.length_append]
            exact .le (.refl _) (.cons _ _ _ _ _ (.refl _) <| .cons _ _ _ _ _ (.refl _) <| .cons _ _ _ _ _ (.refl _) <| .cons _ _ _ _ _ (.refl _) <| .cons _ _ _ _ _ (.rows (.app (.refl _) (.cons (by repeat (first | exact .nil | refine .cons (by first | exact .refl | exact .lit rfl | exact .nils) ?_)) .nil))) (.refl _))
          · skip
            have hch := ch_n (a := v) (b := w) e1 (by rw [e2, e3]; rfl)
            have hc : cl1 1 u v w id = [⟨id, 1⟩] := by unfold cl1; rw [hch]
            have hp : eh u v w id = [] := by unfold eh; rw [hch]
            have hth1 : th u v w 1 = false := by show eq1 u v w = _; unfold eq1; rw [hch]
            rw [e3] at hs3
            replace hs3 := hs3.to (.blit rfl)
            refine ⟨_, hs3, ?_⟩
            conv => whnf
            conv => whnf
            refine ⟨by simpa using by omega, ?_⟩
            conv => whnf
            conv => whnf
            refine ⟨⟨Nat.zero_add _, by show (_ + 1) * 24 ≤ 2 ^ 47; omega⟩, ?_⟩
            conv => whnf
            conv => whnf
            refine ⟨by kernel_rfl, ?_⟩
            conv => whnf
            conv => whnf
            refine ⟨(1, E', C' ++ [⟨id, 1⟩], th u v w 1), ?_, ⟨(by omega : (1 : Nat) ≤ 4), hE1.trans (congrArg (E ++ ·) (eU_st1 hp)), by rw [hC1]; exact (nxC (i := 0) (cU_st1' hc)).symm, rfl⟩, (by omega : 4 - (1 : Nat) < 4 - 0)⟩
            dsimp only
            rw [hth1]
            rw [List.map_append (f := enc72), List.length_append]
            exact .of rfl
    · have hs1 := c199 w u
      have hs2 := c199 v u
      have hs3 := c199 v w
      dsimp only
      unfold mb
      conv => whnf
      refine ⟨fun w0 => ?_, fun w0 => ?_⟩
      rotate_left
      · exact absurd w0 (by decide)
      conv => whnf
      refine ⟨⟨Int.natCast_nonneg _, by decide⟩, ?_⟩
      conv => whnf
      conv => whnf
      refine ⟨_, rfl, ?_⟩
      conv => whnf
      conv => whnf
      refine Or.elim (Bool.eq_false_or_eq_true (sm 2 w u)) (fun e1 => ?_) (fun e1 => ?_)
      · skip
        have hch := ch_a (a := v) e1
        have hc : cl1 2 u v w id = [] := by unfold cl1; rw [hch]
        rw [e1] at hs1
        replace hs1 := hs1.to (.blit rfl)
        refine ⟨_, hs1, ?_⟩
        conv => whnf
        conv => whnf
        refine ⟨fun w2 => ?_, fun w2 => ?_⟩
        · exact absurd w2 (by decide)
        conv => whnf
        refine Or.elim (Bool.eq_false_or_eq_true (sm 2 v u)) (fun e2 => ?_) (fun e2 => ?_)
        · skip
          rw [e2] at hs2
          replace hs2 := hs2.to (.blit rfl)
          have hp : ek 2 (g2 id) u v w id = [] := by unfold ek; rw [hch]; simp only [e2, Bool.true_or, cond_true]
          refine ⟨_, hs2, ?_⟩
          conv => whnf
          conv => whnf
          refine ⟨(2, E', C', tb), ?_, ⟨(by omega : (2 : Nat) ≤ 4), hE1.trans (congrArg (E ++ ·) (eU_st2 hp)), hC1.trans (congrArg (C ++ ·) (cU_st2 hc)), hth⟩, (by omega : 4 - (2 : Nat) < 4 - 1)⟩
          dsimp only
          exact .of rfl
        · skip
          rw [e2] at hs2
          replace hs2 := hs2.to (.blit rfl)
          refine ⟨_, hs2, ?_⟩
          conv => whnf
          conv => whnf
          refine ⟨fun w3 => ?_, fun w3 => ?_⟩
          rotate_left
          · exact absurd w3 (by decide)
          conv => whnf
          refine ⟨fun w4 => ?_, fun w4 => ?_⟩
          · have hq : eq1 u v w = false := hth.symm.trans (by simpa using w4)
            have hp : ek 2 (g2 id) u v w id = [] := by unfold ek; rw [hch]; simp only [hq, Bool.not_false, Bool.or_true, cond_true]
            conv => whnf
            refine ⟨(2, E', C', tb), ?_, ⟨(by omega : (2 : Nat) ≤ 4), hE1.trans (congrArg (E ++ ·) (eU_st2 hp)), hC1.trans (congrArg (C ++ ·) (cU_st2 hc)), hth⟩, (by omega : 4 - (2 : Nat) < 4 - 1)⟩
            dsimp only
            exact .of rfl
          have hq : eq1 u v w = true := hth.symm.trans (by simpa using w4)
          have hp : ek 2 (g2 id) u v w id = [⟨id, 2, true, g2 id v.2.1⟩] := by unfold ek; rw [hch]; simp only [e2, hq, Bool.not_true, Bool.or_false, cond_false]
          conv => whnf
          refine ⟨fun w5 => ?_, fun w5 => ?_⟩
          rotate_left
          · exact absurd w5 (by decide)
          conv => whnf
          refine ⟨_, c200 v, ?_⟩
          conv => whnf
          conv => whnf
          refine ⟨by kernel_rfl, ?_⟩
          conv => whnf
          conv => whnf
          refine ⟨by simpa using by omega, ?_⟩
          conv => whnf
          conv => whnf
          refine ⟨⟨Nat.zero_add _, by show (_ + 1) * 136 ≤ 2 ^ 47; omega⟩, ?_⟩
          conv => whnf
          conv => whnf
          refine ⟨by kernel_rfl, ?_⟩
          conv => whnf
          conv => whnf
          refine ⟨(2, E' ++ [⟨id, 2, true, g2 id v.2.1⟩], C', tb), ?_, ⟨(by omega : (2 : Nat) ≤ 4), by rw [hE1]; exact (nxE (i := 1) (eU_st2' hp)).symm, hC1.trans (congrArg (C ++ ·) (cU_st2 hc)), hth⟩, (by omega : 4 - (2 : Nat) < 4 - 1)⟩
          dsimp only
          rw [List.map_append (f := enc62), List.length_append]
          exact .le (.refl _) (.cons _ _ _ _ _ (.refl _) <| .cons _ _ _ _ _ (.refl _) <| .cons _ _ _ _ _ (.refl _) <| .cons _ _ _ _ _ (.refl _) <| .cons _ _ _ _ _ (.rows (.app (.refl _) (.cons (by repeat (first | exact .nil | refine .cons (by first | exact .refl | exact .lit rfl | exact .nils) ?_)) .nil))) (.refl _))
      · skip
        rw [e1] at hs1
        replace hs1 := hs1.to (.blit rfl)
        refine ⟨_, hs1, ?_⟩
        conv => whnf
        conv => whnf
        refine Or.elim (Bool.eq_false_or_eq_true (sm 2 v u)) (fun e2 => ?_) (fun e2 => ?_)
        · skip
          have hch := ch_b (a := v) (b := w) e1 (by rw [e2]; rfl)
          have hc : cl1 2 u v w id = [] := by unfold cl1; rw [hch]
          rw [e2] at hs2
          replace hs2 := hs2.to (.blit rfl)
          refine ⟨_, hs2, ?_⟩
          conv => whnf
          conv => whnf
          refine ⟨fun w2 => ?_, fun w2 => ?_⟩
          · exact absurd w2 (by decide)
          conv => whnf
          refine ⟨_, hs1, ?_⟩
          conv => whnf
          conv => whnf
          refine ⟨fun w3 => ?_, fun w3 => ?_⟩
          rotate_left
          · exact absurd w3 (by decide)
          conv => whnf
          refine ⟨fun w4 => ?_, fun w4 => ?_⟩
          · have hq : eq1 u v w = false := hth.symm.trans (by simpa using w4)
            have hp : ek 2 (g2 id) u v w id = [] := by unfold ek; rw [hch]; simp only [hq, Bool.not_false, Bool.or_true, cond_true]
            conv => whnf
            refine ⟨(2, E', C', tb), ?_, ⟨(by omega : (2 : Nat) ≤ 4), hE1.trans (congrArg (E ++ ·) (eU_st2 hp)), hC1.trans (congrArg (C ++ ·) (cU_st2 hc)), hth⟩, (by omega : 4 - (2 : Nat) < 4 - 1)⟩
            dsimp only
            exact .of rfl
          have hq : eq1 u v w = true := hth.symm.trans (by simpa using w4)
          have hp : ek 2 (g2 id) u v w id = [⟨id, 2, true, g2 id w.2.1⟩] := by unfold ek; rw [hch]; simp only [e1, hq, Bool.not_true, Bool.or_false, cond_false]
          conv => whnf
          refine ⟨fun w5 => ?_, fun w5 => ?_⟩
          rotate_left
          · exact absurd w5 (by decide)
          conv => whnf
          refine ⟨_, c200 w, ?_⟩
          conv => whnf
          conv => whnf
          refine ⟨by kernel_rfl, ?_⟩
          conv => whnf
          conv => whnf
          refine ⟨by simpa using by omega, ?_⟩
          conv => whnf
          conv => whnf
          refine ⟨⟨Nat.zero_add _, by show (_ + 1) * 136 ≤ 2 ^ 47; omega⟩, ?_⟩
          conv => whnf
          conv => whnf
          refine ⟨by kernel_rfl, ?_⟩
          conv => whnf
          conv => whnf
          refine ⟨(2, E' ++ [⟨id, 2, true, g2 id w.2.1⟩], C', tb), ?_, ⟨(by omega : (2 : Nat) ≤ 4), by rw [hE1]; exact (nxE (i := 1) (eU_st2' hp)).symm, hC1.trans (congrArg (C ++ ·) (cU_st2 hc)), hth⟩, (by omega : 4 - (2 : Nat) < 4 - 1)⟩
          dsimp only
          rw [List.map_append (f := enc62), List.length_append]
          exact .le (.refl _) (.cons _ _ _ _ _ (.refl _) <| .cons _ _ _ _ _ (.refl _) <| .cons _ _ _ _ _ (.refl _) <| .cons _ _ _ _ _ (.refl _) <| .cons _ _ _ _ _ (.rows (.app (.refl _) (.cons (by repeat (first | exact .nil | refine .cons (by first | exact .refl | exact .lit rfl | exact .nils) ?_)) .nil))) (.refl _))
        · skip
          rw [e2] at hs2
          replace hs2 := hs2.to (.blit rfl)
          refine ⟨_, hs2, ?_⟩
          conv => whnf
          conv => whnf
          refine Or.elim (Bool.eq_false_or_eq_true (sm 2 v w)) (fun e3 => ?_) (fun e3 => ?_)
          · skip
            have hch := ch_b (a := v) (b := w) e1 (by rw [e2, e3]; rfl)
            have hc : cl1 2 u v w id = [] := by unfold cl1; rw [hch]
            rw [e3] at hs3
            replace hs3 := hs3.to (.blit rfl)
            refine ⟨_, hs3, ?_⟩
            conv => whnf
            conv => whnf
            refine ⟨fun w2 => ?_, fun w2 => ?_⟩
            · exact absurd w2 (by decide)
            conv => whnf
            refine ⟨_, hs1, ?_⟩
            conv => whnf
            conv => whnf
            refine ⟨fun w3 => ?_, fun w3 => ?_⟩
            rotate_left
            · exact absurd w3 (by decide)
            conv => whnf
            refine ⟨fun w4 => ?_, fun w4 => ?_⟩
            · have hq : eq1 u v w = false := hth.symm.trans (by simpa using w4)
              have hp : ek 2 (g2 id) u v w id = [] := by unfold ek; rw [hch]; simp only [hq, Bool.not_false, Bool.or_true, cond_true]
              conv => whnf
              refine ⟨(2, E', C', tb), ?_, ⟨(by omega : (2 : Nat) ≤ 4), hE1.trans (congrArg (E ++ ·) (eU_st2 hp)), hC1.trans (congrArg (C ++ ·) (cU_st2 hc)), hth⟩, (by omega : 4 - (2 : Nat) < 4 - 1)⟩
              dsimp only
              exact .of rfl
            have hq : eq1 u v w = true := hth.symm.trans (by simpa using w4)
            have hp : ek 2 (g2 id) u v w id = [⟨id, 2, true, g2 id w.2.1⟩] := by unfold ek; rw [hch]; simp only [e1, hq, Bool.not_true, Bool.or_false, cond_false]
            conv => whnf
            refine ⟨fun w5 => ?_, fun w5 => ?_⟩
            rotate_left
            · exact absurd w5 (by decide)
            conv => whnf
            refine ⟨_, c200 w, ?_⟩
            conv => whnf
            conv => whnf
            refine ⟨by kernel_rfl, ?_⟩
            conv => whnf
            conv => whnf
            refine ⟨by simpa using by omega, ?_⟩
            conv => whnf
            conv => whnf
            refine ⟨⟨Nat.zero_add _, by show (_ + 1) * 136 ≤ 2 ^ 47; omega⟩, ?_⟩
            conv => whnf
            conv => whnf
            refine ⟨by kernel_rfl, ?_⟩
            conv => whnf
            conv => whnf
            refine ⟨(2, E' ++ [⟨id, 2, true, g2 id w.2.1⟩], C', tb), ?_, ⟨(by omega : (2 : Nat) ≤ 4), by rw [hE1]; exact (nxE (i := 1) (eU_st2' hp)).symm, hC1.trans (congrArg (C ++ ·) (cU_st2 hc)), hth⟩, (by omega : 4 - (2 : Nat) < 4 - 1)⟩
            dsimp only
            rw [List.map_append (f := enc62), List.length_append]
            exact .le (.refl _) (.cons _ _ _ _ _ (.refl _) <| .cons _ _ _ _ _ (.refl _) <| .cons _ _ _ _ _ (.refl _) <| .cons _ _ _ _ _ (.refl _) <| .cons _ _ _ _ _ (.rows (.app (.refl _) (.cons (by repeat (first | exact .nil | refine .cons (by first | exact .refl | exact .lit rfl | exact .nils) ?_)) .nil))) (.refl _))
          · skip
            have hch := ch_n (a := v) (b := w) e1 (by rw [e2, e3]; rfl)
            have hc : cl1 2 u v w id = [⟨id, 2⟩] := by unfold cl1; rw [hch]
            have hp : ek 2 (g2 id) u v w id = [] := by unfold ek; rw [hch]
            rw [e3] at hs3
            replace hs3 := hs3.to (.blit rfl)
            refine ⟨_, hs3, ?_⟩
            conv => whnf
            conv => whnf
            refine ⟨by simpa using by omega, ?_⟩
            conv => whnf
            conv => whnf
            refine ⟨⟨Nat.zero_add _, by show (_ + 1) * 24 ≤ 2 ^ 47; omega⟩, ?_⟩
            conv => whnf
            conv => whnf
            refine ⟨by kernel_rfl, ?_⟩
            conv => whnf
            conv => whnf
            refine ⟨(2, E', C' ++ [⟨id, 2⟩], tb), ?_, ⟨(by omega : (2 : Nat) ≤ 4), hE1.trans (congrArg (E ++ ·) (eU_st2 hp)), by rw [hC1]; exact (nxC (i := 1) (cU_st2' hc)).symm, hth⟩, (by omega : 4 - (2 : Nat) < 4 - 1)⟩
            dsimp only
            rw [List.map_append (f := enc72), List.length_append]
            exact .of rfl
    · have hs1 := c201 w u z3 z1
      have hs2 := c201 v u z2 z1
      have hs3 := c201 v w z2 z3
      dsimp only
      unfold mb
      conv => whnf
      refine ⟨fun w0 => ?_, fun w0 => ?_⟩
      rotate_left
      · exact absurd w0 (by decide)
      conv => whnf
      refine ⟨⟨Int.natCast_nonneg _, by decide⟩, ?_⟩
      conv => whnf
      conv => whnf
      refine ⟨_, rfl, ?_⟩
      conv => whnf
      conv => whnf
      refine Or.elim (Bool.eq_false_or_eq_true (sm 3 w u)) (fun e1 => ?_) (fun e1 => ?_)
      · skip
        have hch := ch_a (a := v) e1
        have hc : cl1 3 u v w id = [] := by unfold cl1; rw [hch]
        rw [e1] at hs1
        replace hs1 := hs1.to (.blit rfl)
        refine ⟨_, hs1, ?_⟩
        conv => whnf
        conv => whnf
        refine ⟨fun w2 => ?_, fun w2 => ?_⟩
        · exact absurd w2 (by decide)
        conv => whnf
        refine Or.elim (Bool.eq_false_or_eq_true (sm 3 v u)) (fun e2 => ?_) (fun e2 => ?_)
        · skip
          rw [e2] at hs2
          replace hs2 := hs2.to (.blit rfl)
          have hp : ek 3 (g3 id) u v w id = [] := by unfold ek; rw [hch]; simp only [e2, Bool.true_or, cond_true]
          refine ⟨_, hs2, ?_⟩
          conv => whnf
          conv => whnf
          refine ⟨(3, E', C', tb), ?_, ⟨(by omega : (3 : Nat) ≤ 4), hE1.trans (congrArg (E ++ ·) (eU_st3 hp)), hC1.trans (congrArg (C ++ ·) (cU_st3 hc)), hth⟩, (by omega : 4 - (3 : Nat) < 4 - 2)⟩
          dsimp only
          exact .of rfl
        · skip
          rw [e2] at hs2
          replace hs2 := hs2.to (.blit rfl)
          refine ⟨_, hs2, ?_⟩
          conv => whnf
          conv => whnf
          refine ⟨fun w3 => ?_, fun w3 => ?_⟩
          rotate_left
          · exact absurd w3 (by decide)
          conv => whnf
          refine ⟨fun w4 => ?_, fun w4 => ?_⟩
          · have hq : eq1 u v w = false := hth.symm.trans (by simpa using w4)
            have hp : ek 3 (g3 id) u v w id = [] := by unfold ek; rw [hch]; simp only [hq, Bool.not_false, Bool.or_true, cond_true]
            conv => whnf
            refine ⟨(3, E', C', tb), ?_, ⟨(by omega : (3 : Nat) ≤ 4), hE1.trans (congrArg (E ++ ·) (eU_st3 hp)), hC1.trans (congrArg (C ++ ·) (cU_st3 hc)), hth⟩, (by omega : 4 - (3 : Nat) < 4 - 2)⟩
            dsimp only
            exact .of rfl
          have hq : eq1 u v w = true := hth.symm.trans (by simpa using w4)
          have hp : ek 3 (g3 id) u v w id = [⟨id, 3, true, g3 id v.2.1⟩] := by unfold ek; rw [hch]; simp only [e2, hq, Bool.not_true, Bool.or_false, cond_false]
          conv => whnf
          refine ⟨fun w5 => ?_, fun w5 => ?_⟩
          rotate_left
          · exact absurd w5 (by decide)
          conv => whnf
          refine ⟨_, c202 v, ?_⟩
          conv => whnf
          conv => whnf
          refine ⟨by kernel_rfl, ?_⟩
          conv => whnf
          conv => whnf
          refine ⟨by simpa using by omega, ?_⟩
          conv => whnf
          conv => whnf
          refine ⟨⟨Nat.zero_add _, by show (_ + 1) * 136 ≤ 2 ^ 47; omega⟩, ?_⟩
          conv => whnf
          conv => whnf
          refine ⟨by kernel_rfl, ?_⟩
          conv => whnf
          conv => whnf
          refine ⟨(3, E' ++ [⟨id, 3, true, g3 id v.2.1⟩], C', tb), ?_, ⟨(by omega : (3 : Nat) ≤ 4), by rw [hE1]; exact (nxE (i := 2) (eU_st3' hp)).symm, hC1.trans (congrArg (C ++ ·) (cU_st3 hc)), hth⟩, (by omega : 4 - (3 : Nat) < 4 - 2)⟩
          dsimp only
          rw [List.map_append (f := enc62), List.length_append]
          exact .le (.refl _) (.cons _ _ _ _ _ (.refl _) <| .cons _ _ _ _ _ (.refl _) <| .cons _ _ _ _ _ (.refl _) <| .cons _ _ _ _ _ (.refl _) <| .cons _ _ _ _ _ (.rows (.app (.refl _) (.cons (by repeat (first | exact .nil | refine .cons (by first | exact .refl | exact .lit rfl | exact .nils) ?_)) .nil))) (.refl _))
      · skip
        rw [e1] at hs1
        replace hs1 := hs1.to (.blit rfl)
        refine ⟨_, hs1, ?_⟩
        conv => whnf
        conv => whnf
        refine Or.elim (Bool.eq_false_or_eq_true (sm 3 v u)) (fun e2 => ?_) (fun e2 => ?_)
        · skip
          have hch := ch_b (a := v) (b := w) e1 (by rw [e2]; rfl)
          have hc : cl1 3 u v w id = [] := by unfold cl1; rw [hch]
          rw [e2] at hs2
          replace hs2 := hs2.to (.blit rfl)
          refine ⟨_, hs2, ?_⟩
          conv => whnf
          conv => whnf
          refine ⟨fun w2 => ?_, fun w2 => ?_⟩
          · exact absurd w2 (by decide)
          conv => whnf
          refine ⟨_, hs1, ?_⟩
          conv => whnf
          conv => whnf
          refine ⟨fun w3 => ?_, fun w3 => ?_⟩
          rotate_left
          · exact absurd w3 (by decide)
          conv => whnf
          refine ⟨fun w4 => ?_, fun w4 => ?_⟩
          · have hq : eq1 u v w = false := hth.symm.trans (by simpa using w4)
            have hp : ek 3 (g3 id) u v w id = [] := by unfold ek; rw [hch]; simp only [hq, Bool.not_false, Bool.or_true, cond_true]
            conv => whnf
            refine ⟨(3, E', C', tb), ?_, ⟨(by omega : (3 : Nat) ≤ 4), hE1.trans (congrArg (E ++ ·) (eU_st3 hp)), hC1.trans (congrArg (C ++ ·) (cU_st3 hc)), hth⟩, (by omega : 4 - (3 : Nat) < 4 - 2)⟩
            dsimp only
            exact .of rfl
          have hq : eq1 u v w = true := hth.symm.trans (by simpa using w4)
          have hp : ek 3 (g3 id) u v w id = [⟨id, 3, true, g3 id w.2.1⟩] := by unfold ek; rw [hch]; simp only [e1, hq, Bool.not_true, Bool.or_false, cond_false]
          conv => whnf
          refine ⟨fun w5 => ?_, fun w5 => ?_⟩
          rotate_left
          · exact absurd w5 (by decide)
          conv => whnf
          refine ⟨_, c202 w, ?_⟩
          conv => whnf
          conv => whnf
          refine ⟨by kernel_rfl, ?_⟩
          conv => whnf
          conv => whnf
          refine ⟨by simpa using by omega, ?_⟩
          conv => whnf
          conv => whnf
          refine ⟨⟨Nat.zero_add _, by show (_ + 1) * 136 ≤ 2 ^ 47; omega⟩, ?_⟩
          conv => whnf
          conv => whnf
          refine ⟨by kernel_rfl, ?_⟩
          conv => whnf
          conv => whnf
          refine ⟨(3, E' ++ [⟨id, 3, true, g3 id w.2.1⟩], C', tb), ?_, ⟨(by omega : (3 : Nat) ≤ 4), by rw [hE1]; exact (nxE (i := 2) (eU_st3' hp)).symm, hC1.trans (congrArg (C ++ ·) (cU_st3 hc)), hth⟩, (by omega : 4 - (3 : Nat) < 4 - 2)⟩
          dsimp only
          rw [List.map_append (f := enc62), List.length_append]
          exact .le (.refl _) (.cons _ _ _ _ _ (.refl _) <| .cons _ _ _ _ _ (.refl _) <| .cons _ _ _ _ _ (.refl _) <| .cons _ _ _ _ _ (.refl _) <| .cons _ _ _ _ _ (.rows (.app (.refl _) (.cons (by repeat (first | exact .nil | refine .cons (by first | exact .refl | exact .lit rfl | exact .nils) ?_)) .nil))) (.refl _))
        · skip
          rw [e2] at hs2
          replace hs2 := hs2.to (.blit rfl)
          refine ⟨_, hs2, ?_⟩
          conv => whnf
          conv => whnf
          refine Or.elim (Bool.eq_false_or_eq_true (sm 3 v w)) (fun e3 => ?_) (fun e3 => ?_)
          · skip
            have hch := ch_b (a := v) (b := w) e1 (by rw [e2, e3]; rfl)
            have hc : cl1 3 u v w id = [] := by unfold cl1; rw [hch]
            rw [e3] at hs3
            replace hs3 := hs3.to (.blit rfl)
            refine ⟨_, hs3, ?_⟩
            conv => whnf
            conv => whnf
            refine ⟨fun w2 => ?_, fun w2 => ?_⟩
            · exact absurd w2 (by decide)
            conv => whnf
            refine ⟨_, hs1, ?_⟩
            conv => whnf
            conv => whnf
            refine ⟨fun w3 => ?_, fun w3 => ?_⟩
            rotate_left
            · exact absurd w3 (by decide)
            conv => whnf
            refine ⟨fun w4 => ?_, fun w4 => ?_⟩
            · have hq : eq1 u v w = false := hth.symm.trans (by simpa using w4)
              have hp : ek 3 (g3 id) u v w id = [] := by unfold ek; rw [hch]; simp only [hq, Bool.not_false, Bool.or_true, cond_true]
              conv => whnf
              refine ⟨(3, E', C', tb), ?_, ⟨(by omega : (3 : Nat) ≤ 4), hE1.trans (congrArg (E ++ ·) (eU_st3 hp)), hC1.trans (congrArg (C ++ ·) (cU_st3 hc)), hth⟩, (by omega : 4 - (3 : Nat) < 4 - 2)⟩
              dsimp only
              exact .of rfl
            have hq : eq1 u v w = true := hth.symm.trans (by simpa using w4)
            have hp : ek 3 (g3 id) u v w id = [⟨id, 3, true, g3 id w.2.1⟩] := by unfold ek; rw [hch]; simp only [e1, hq, Bool.not_true, Bool.or_false, cond_false]
            conv => whnf
            refine ⟨fun w5 => ?_, fun w5 => ?_⟩
            rotate_left
            · exact absurd w5 (by decide)
            conv => whnf
            refine ⟨_, c202 w, ?_⟩
            conv => whnf
            conv => whnf
            refine ⟨by kernel_rfl, ?_⟩
            conv => whnf
            conv => whnf
            refine ⟨by simpa using by omega, ?_⟩
            conv => whnf
            conv => whnf
            refine ⟨⟨Nat.zero_add _, by show (_ + 1) * 136 ≤ 2 ^ 47; omega⟩, ?_⟩
            conv => whnf
            conv => whnf
            refine ⟨by kernel_rfl, ?_⟩
            conv => whnf
            conv => whnf
            refine ⟨(3, E' ++ [⟨id, 3, true, g3 id w.2.1⟩], C', tb), ?_, ⟨(by omega : (3 : Nat) ≤ 4), by rw [hE1]; exact (nxE (i := 2) (eU_st3' hp)).symm, hC1.trans (congrArg (C ++ ·) (cU_st3 hc)), hth⟩, (by omega : 4 - (3 : Nat) < 4 - 2)⟩
            dsimp only
            rw [List.map_append (f := enc62), List.length_append]
            exact .le (.refl _) (.cons _ _ _ _ _ (.refl _) <| .cons _ _ _ _ _ (.refl _) <| .cons _ _ _ _ _ (.refl _) <| .cons _ _ _ _ _ (.refl _) <| .cons _ _ _ _ _ (.rows (.app (.refl _) (.cons (by repeat (first | exact .nil | refine .cons (by first | exact .refl | exact .lit rfl | exact .nils) ?_)) .nil))) (.refl _))
          · skip
            have hch := ch_n (a := v) (b := w) e1 (by rw [e2, e3]; rfl)
            have hc : cl1 3 u v w id = [⟨id, 3⟩] := by unfold cl1; rw [hch]
            have hp : ek 3 (g3 id) u v w id = [] := by unfold ek; rw [hch]
            rw [e3] at hs3
            replace hs3 := hs3.to (.blit rfl)
            refine ⟨_, hs3, ?_⟩
            conv => whnf
            conv => whnf
            refine ⟨by simpa using by omega, ?_⟩
            conv => whnf
            conv => whnf
            refine ⟨⟨Nat.zero_add _, by show (_ + 1) * 24 ≤ 2 ^ 47; omega⟩, ?_⟩
            conv => whnf
            conv => whnf
            refine ⟨by kernel_rfl, ?_⟩
            conv => whnf
            conv => whnf
            refine ⟨(3, E', C' ++ [⟨id, 3⟩], tb), ?_, ⟨(by omega : (3 : Nat) ≤ 4), hE1.trans (congrArg (E ++ ·) (eU_st3 hp)), by rw [hC1]; exact (nxC (i := 2) (cU_st3' hc)).symm, hth⟩, (by omega : 4 - (3 : Nat) < 4 - 2)⟩
            dsimp only
            rw [List.map_append (f := enc72), List.length_append]
            exact .of rfl
    · have hs1 := c203 w u z3 z1
      have hs2 := c203 v u z2 z1
      have hs3 := c203 v w z2 z3
      dsimp only
      unfold mb
      conv => whnf
      refine ⟨fun w0 => ?_, fun w0 => ?_⟩
      rotate_left
      · exact absurd w0 (by decide)
      conv => whnf
      refine ⟨⟨Int.natCast_nonneg _, by decide⟩, ?_⟩
      conv => whnf
      conv => whnf
      refine ⟨_, rfl, ?_⟩
      conv => whnf
      conv => whnf
      refine Or.elim (Bool.eq_false_or_eq_true (sm 4 w u)) (fun e1 => ?_) (fun e1 => ?_)
      · skip
        have hch := ch_a (a := v) e1
        have hc : cl1 4 u v w id = [] := by unfold cl1; rw [hch]
        rw [e1] at hs1
        replace hs1 := hs1.to (.blit rfl)
        refine ⟨_, hs1, ?_⟩
        conv => whnf
        conv => whnf
        refine ⟨fun w2 => ?_, fun w2 => ?_⟩
        · exact absurd w2 (by decide)
        conv => whnf
        refine Or.elim (Bool.eq_false_or_eq_true (sm 4 v u)) (fun e2 => ?_) (fun e2 => ?_)
        · skip
          rw [e2] at hs2
          replace hs2 := hs2.to (.blit rfl)
          have hp : ek 4 (g4 id) u v w id = [] := by unfold ek; rw [hch]; simp only [e2, Bool.true_or, cond_true]
          refine ⟨_, hs2, ?_⟩
          conv => whnf
          conv => whnf
          refine ⟨(4, E', C', tb), ?_, ⟨(by omega : (4 : Nat) ≤ 4), hE1.trans (congrArg (E ++ ·) (eU_st4 hp)), hC1.trans (congrArg (C ++ ·) (cU_st4 hc)), hth⟩, (by omega : 4 - (4 : Nat) < 4 - 3)⟩
          dsimp only
          exact .of rfl
        · skip
          rw [e2] at hs2
          replace hs2 := hs2.to (.blit rfl)
          refine ⟨_, hs2, ?_⟩
          conv => whnf
          conv => whnf
          refine ⟨fun w3 => ?_, fun w3 => ?_⟩
          rotate_left
          · exact absurd w3 (by decide)
          conv => whnf
          refine ⟨fun w4 => ?_, fun w4 => ?_⟩
          · have hq : eq1 u v w = false := hth.symm.trans (by simpa using w4)
            have hp : ek 4 (g4 id) u v w id = [] := by unfold ek; rw [hch]; simp only [hq, Bool.not_false, Bool.or_true, cond_true]
            conv => whnf
            refine ⟨(4, E', C', tb), ?_, ⟨(by omega : (4 : Nat) ≤ 4), hE1.trans (congrArg (E ++ ·) (eU_st4 hp)), hC1.trans (congrArg (C ++ ·) (cU_st4 hc)), hth⟩, (by omega : 4 - (4 : Nat) < 4 - 3)⟩
            dsimp only
            exact .of rfl
          have hq : eq1 u v w = true := hth.symm.trans (by simpa using w4)
          have hp : ek 4 (g4 id) u v w id = [⟨id, 4, true, g4 id v.2.1⟩] := by unfold ek; rw [hch]; simp only [e2, hq, Bool.not_true, Bool.or_false, cond_false]
          conv => whnf
          refine ⟨fun w5 => ?_, fun w5 => ?_⟩
          rotate_left
          · exact absurd w5 (by decide)
          conv => whnf
          refine ⟨_, c204 v, ?_⟩
          conv => whnf
          conv => whnf
          refine ⟨by kernel_rfl, ?_⟩
          conv => whnf
          conv => whnf
          refine ⟨by simpa using by omega, ?_⟩
          conv => whnf
          conv => whnf
          refine ⟨⟨Nat.zero_add _, by show (_ + 1) * 136 ≤ 2 ^ 47; omega⟩, ?_⟩
          conv => whnf
          conv => whnf
          refine ⟨by kernel_rfl, ?_⟩
          conv => whnf
          conv => whnf
          refine ⟨(4, E' ++ [⟨id, 4, true, g4 id v.2.1⟩], C', tb), ?_, ⟨(by omega : (4 : Nat) ≤ 4), by rw [hE1]; exact (nxE (i := 3) (eU_st4' hp)).symm, hC1.trans (congrArg (C ++ ·) (cU_st4 hc)), hth⟩, (by omega : 4 - (4 : Nat) < 4 - 3)⟩
          dsimp only
          rw [List.map_append (f := enc62), List.length_append]
          exact .le (.refl _) (.cons _ _ _ _ _ (.refl _) <| .cons _ _ _ _ _ (.refl _) <| .cons _ _ _ _ _ (.refl _) <| .cons _ _ _ _ _ (.refl _) <| .cons _ _ _ _ _ (.rows (.app (.refl _) (.cons (by repeat (first | exact .nil | refine .cons (by first | exact .refl | exact .lit rfl | exact .nils) ?_)) .nil))) (.refl _))
      · skip
        rw [e1] at hs1
        replace hs1 := hs1.to (.blit rfl)
        refine ⟨_, hs1, ?_⟩
        conv => whnf
        conv => whnf
        refine Or.elim (Bool.eq_false_or_eq_true (sm 4 v u)) (fun e2 => ?_) (fun e2 => ?_)
        · skip
          have hch := ch_b (a := v) (b := w) e1 (by rw [e2]; rfl)
          have hc : cl1 4 u v w id = [] := by unfold cl1; rw [hch]
          rw [e2] at hs2
          replace hs2 := hs2.to (.blit rfl)
          refine ⟨_, hs2, ?_⟩
          conv => whnf
          conv => whnf
          refine ⟨fun w2 => ?_, fun w2 => ?_⟩
          · exact absurd w2 (by decide)
          conv => whnf
          refine ⟨_, hs1, ?_⟩
          conv => whnf
          conv => whnf
          refine ⟨fun w3 => ?_, fun w3 => ?_⟩
          rotate_left
          · exact absurd w3 (by decide)
          conv => whnf
          refine ⟨fun w4 => ?_, fun w4 => ?_⟩
          · have hq : eq1 u v w = false := hth.symm.trans (by simpa using w4)
            have hp : ek 4 (g4 id) u v w id = [] := by unfold ek; rw [hch]; simp only [hq, Bool.not_false, Bool.or_true, cond_true]
            conv => whnf
            refine ⟨(4, E', C', tb), ?_, ⟨(by omega : (4 : Nat) ≤ 4), hE1.trans (congrArg (E ++ ·) (eU_st4 hp)), hC1.trans (congrArg (C ++ ·) (cU_st4 hc)), hth⟩, (by omega : 4 - (4 : Nat) < 4 - 3)⟩
            dsimp only
            exact .of rfl
          have hq : eq1 u v w = true := hth.symm.trans (by simpa using w4)
          have hp : ek 4 (g4 id) u v w id = [⟨id, 4, true, g4 id w.2.1⟩] := by unfold ek; rw [hch]; simp only [e1, hq, Bool.not_true, Bool.or_false, cond_false]
          conv => whnf
          refine ⟨fun w5 => ?_, fun w5 => ?_⟩
          rotate_left
          · exact absurd w5 (by decide)
          conv => whnf
          refine ⟨_, c204 w, ?_⟩
          conv => whnf
          conv => whnf
          refine ⟨by kernel_rfl, ?_⟩
          conv => whnf
          conv => whnf
          refine ⟨by simpa using by omega, ?_⟩
          conv => whnf
          conv => whnf
          refine ⟨⟨Nat.zero_add _, by show (_ + 1) * 136 ≤ 2 ^ 47; omega⟩, ?_⟩
          conv => whnf
          conv => whnf
          refine ⟨by kernel_rfl, ?_⟩
          conv => whnf
          conv => whnf
          refine ⟨(4, E' ++ [⟨id, 4, true, g4 id w.2.1⟩], C', tb), ?_, ⟨(by omega : (4 : Nat) ≤ 4), by rw [hE1]; exact (nxE (i := 3) (eU_st4' hp)).symm, hC1.trans (congrArg (C ++ ·) (cU_st4 hc)), hth⟩, (by omega : 4 - (4 : Nat) < 4 - 3)⟩
          dsimp only
          rw [List.map_append (f := enc62), List.length_append]
          exact .le (.refl _) (.cons _ _ _ _ _ (.refl _) <| .cons _ _ _ _ _ (.refl _) <| .cons _ _ _ _ _ (.refl _) <| .cons _ _ _ _ _ (.refl _) <| .cons _ _ _ _ _ (.rows (.app (.refl _) (.cons (by repeat (first | exact .nil | refine .cons (by first | exact .refl | exact .lit rfl | exact .nils) ?_)) .nil))) (.refl _))
        · skip
          rw [e2] at hs2
          replace hs2 := hs2.to (.blit rfl)
          refine ⟨_, hs2, ?_⟩
          conv => whnf
          conv => whnf
          refine Or.elim (Bool.eq_false_or_eq_true (sm 4 v w)) (fun e3 => ?_) (fun e3 => ?_)
          · skip
            have hch := ch_b (a := v) (b := w) e1 (by rw [e2, e3]; rfl)
            have hc : cl1 4 u v w id = [] := by unfold cl1; rw [hch]
            rw [e3] at hs3
            replace hs3 := hs3.to (.blit rfl)
            refine ⟨_, hs3, ?_⟩
            conv => whnf
            conv => whnf
            refine ⟨fun w2 => ?_, fun w2 => ?_⟩
            · exact absurd w2 (by decide)
            conv => whnf
            refine ⟨_, hs1, ?_⟩
            conv => whnf
            conv => whnf
            refine ⟨fun w3 => ?_, fun w3 => ?_⟩
            rotate_left
            · exact absurd w3 (by decide)
            conv => whnf
            refine ⟨fun w4 => ?_, fun w4 => ?_⟩
            · have hq : eq1 u v w = false := hth.symm.trans (by simpa using w4)
              have hp : ek 4 (g4 id) u v w id = [] := by unfold ek; rw [hch]; simp only [hq, Bool.not_false, Bool.or_true, cond_true]
              conv => whnf
              refine ⟨(4, E', C', tb), ?_, ⟨(by omega : (4 : Nat) ≤ 4), hE1.trans (congrArg (E ++ ·) (eU_st4 hp)), hC1.trans (congrArg (C ++ ·) (cU_st4 hc)), hth⟩, (by omega : 4 - (4 : Nat) < 4 - 3)⟩
              dsimp only
              exact .of rfl
            have hq : eq1 u v w = true := hth.symm.trans (by simpa using w4)
            have hp : ek 4 (g4 id) u v w id = [⟨id, 4, true, g4 id w.2.1⟩] := by unfold ek; rw [hch]; simp only [e1, hq, Bool.not_true, Bool.or_false, cond_false]
            conv => whnf
            refine ⟨fun w5 => ?_, fun w5 => ?_⟩
            rotate_left
            · exact absurd w5 (by decide)
            conv => whnf
            refine ⟨_, c204 w, ?_⟩
            conv => whnf
            conv => whnf
            refine ⟨by kernel_rfl, ?_⟩
            conv => whnf
            conv => whnf
            refine ⟨by simpa using by omega, ?_⟩
            conv => whnf
            conv => whnf
            refine ⟨⟨Nat.zero_add _, by show (_ + 1) * 136 ≤ 2 ^ 47; omega⟩, ?_⟩
            conv => whnf
            conv => whnf
            refine ⟨by kernel_rfl, ?_⟩
            conv => whnf
            conv => whnf
            refine ⟨(4, E' ++ [⟨id, 4, true, g4 id w.2.1⟩], C', tb), ?_, ⟨(by omega : (4 : Nat) ≤ 4), by rw [hE1]; exact (nxE (i := 3) (eU_st4' hp)).symm, hC1.trans (congrArg (C ++ ·) (cU_st4 hc)), hth⟩, (by omega : 4 - (4 : Nat) < 4 - 3)⟩
            dsimp only
            rw [List.map_append (f := enc62), List.length_append]
            exact .le (.refl _) (.cons _ _ _ _ _ (.refl _) <| .cons _ _ _ _ _ (.refl _) <| .cons _ _ _ _ _ (.refl _) <| .cons _ _ _ _ _ (.refl _) <| .cons _ _ _ _ _ (.rows (.app (.refl _) (.cons (by repeat (first | exact .nil | refine .cons (by first | exact .refl | exact .lit rfl | exact .nils) ?_)) .nil))) (.refl _))
          · skip
            have hch := ch_n (a := v) (b := w) e1 (by rw [e2, e3]; rfl)
            have hc : cl1 4 u v w id = [⟨id, 4⟩] := by unfold cl1; rw [hch]
            have hp : ek 4 (g4 id) u v w id = [] := by unfold ek; rw [hch]
            rw [e3] at hs3
            replace hs3 := hs3.to (.blit rfl)
            refine ⟨_, hs3, ?_⟩
            conv => whnf
            conv => whnf
            refine ⟨by simpa using by omega, ?_⟩
            conv => whnf
            conv => whnf
            refine ⟨⟨Nat.zero_add _, by show (_ + 1) * 24 ≤ 2 ^ 47; omega⟩, ?_⟩
            conv => whnf
            conv => whnf
            refine ⟨by kernel_rfl, ?_⟩
            conv => whnf
            conv => whnf
            refine ⟨(4, E', C' ++ [⟨id, 4⟩], tb), ?_, ⟨(by omega : (4 : Nat) ≤ 4), hE1.trans (congrArg (E ++ ·) (eU_st4 hp)), by rw [hC1]; exact (nxC (i := 3) (cU_st4' hc)).symm, hth⟩, (by omega : 4 - (4 : Nat) < 4 - 3)⟩
            dsimp only
            rw [List.map_append (f := enc72), List.length_append]
            exact .of rfl
    · dsimp only
      unfold mb
      conv => whnf
      refine ⟨fun w0 => ?_, fun w0 => ?_⟩
      · exact absurd w0 (by decide)
      conv => whnf
      rw [← hE1, ← hC1]
      exact .of rfl
end Go.Ab
namespace Go.Ab
open Go.Proofs Sn
set_option maxRecDepth 100000
set_option linter.unnecessarySimpa false
set_option linter.unusedSimpArgs false
set_option linter.unusedVariables false
set_option maxHeartbeats 40000000
theorem isN_sz {s : St} (h : IsN s.1 s.2) : s.1.length ≤ 6 ∧ s.2.length ≤ 16 := by
  obtain ⟨r, F, e, o, _⟩ := h
  exact ⟨o.files6, by rw [e]; exact Nat.succ_le_succ o.n16⟩
theorem nm3_len {o a b : St} (ho : IsN o.1 o.2) (ha : IsN a.1 a.2) (hb : IsN b.1 b.2) : (nm3 o a b).length ≤ 66 := by
  refine Nat.le_trans (sortD_length _) ?_
  have h1 := isN_sz ho
  have h2 := isN_sz ha
  have h3 := isN_sz hb
  simp only [List.flatMap_cons, List.flatMap_nil, List.append_nil, List.length_append, List.length_map]
  omega
theorem flen {α β : Type} {f : α → List β} {k : Nat} (h : ∀ x, (f x).length ≤ k) : ∀ l : List α, (l.flatMap f).length ≤ k * l.length
  | [] => Nat.le_refl _
  | x :: l => by
    rw [List.flatMap_cons, List.length_append, List.length_cons, Nat.mul_succ]
    have := h x
    have := flen h l
    omega
theorem clA_len (o a b : Lo) (id : ByteArray) : (clA o a b id).length ≤ 4 := by
  have h1 := cl1_len 1 o a b id
  have h2 := cl1_len 2 o a b id
  have h3 := cl1_len 3 o a b id
  have h4 := cl1_len 4 o a b id
  unfold clA
  simp only [List.length_append]
  omega
theorem eF_len (o a b : Bool) (id : ByteArray) : (eF o a b id).length ≤ 1 := by unfold eF; cases cf o a b != o <;> simp
theorem eA_len (o a b : Lo) (id : ByteArray) : (eA o a b id).length ≤ 4 := by
  have h1 := eh_len o a b id
  have h2 := ek_len 2 (g2 id) o a b id
  have h3 := ek_len 3 (g3 id) o a b id
  have h4 := ek_len 4 (g4 id) o a b id
  unfold eA
  simp only [List.length_append]
  omega
theorem edM_len (o a b : St) (id : ByteArray) : (edM o a b id).length ≤ 5 := by
  have h1 := eA_len (loc o id) (loc a id) (loc b id) id
  have h2 := eF_len (hasS o.1 id) (hasS a.1 id) (hasS b.1 id) id
  unfold edM
  rw [List.length_append]
  omega
noncomputable def clM (o a b : St) (id : ByteArray) : List S72 := clA (loc o id) (loc a id) (loc b id) id
theorem Le.tup3 {x y z x' y' z' : AV} (h : Le x x') (h' : Le y y') (h'' : Le z z') : Le (.tup [x, y, z]) (.tup [x', y', z']) := Le.tup (by simp) fun j a b h1 h2 => by
  match j with
  | 0 => cases h1; cases h2; exact h
  | 1 => cases h1; cases h2; exact h'
  | 2 => cases h1; cases h2; exact h''
  | j + 3 => cases h1
theorem c52 (o a b : St) (ho : SzM o.1 o.2) (ha : SzM a.1 a.2) (hb : SzM b.1 b.2) : PCall cx.P 52 [encM o.1 o.2, encM a.1 a.2, encM b.1 b.2] (.tup [encM (mgS o a b).1.1 (mgS o a b).1.2, .row 2 ((mgS o a b).2.1.map enc72), .int .i64 (mgS o a b).2.2]) := pcallA [96, 97, 98] Tryz.f52 (by kernel_rfl) (by kernel_rfl) <| by
  have h1 := c30 _ _ ho
  have h2 := c30 _ _ ha
  have h3 := c30 _ _ hb
  have h60 := c60 o (edL o a b) ho
  unfold encM at h1 h2 h3 h60 ⊢
  have bad : ¬ (IsN o.1 o.2 ∧ IsN a.1 a.2 ∧ IsN b.1 b.2) → Le (.tup [.agg [.nils, .nils], .nils, .int .i64 7]) (.tup [.agg [.row 1 ((mgS o a b).1.1.map encT), .row 7 ((mgS o a b).1.2.map enc47)], .row 2 ((mgS o a b).2.1.map enc72), .int .i64 (mgS o a b).2.2]) := fun hn => by
    rw [mg_no hn]
    exact .tup3 (.agg2 .nils .nils) .nils .refl
  conv => whnf
  refine ⟨_, h1, ?_⟩
  conv => whnf
  conv => whnf
  refine ⟨fun w1 => ?_, fun w1 => ?_⟩
  · conv => whnf
    exact bad fun h => bP_no.1 (by simpa using w1) h.1
  refine ⟨_, h2, ?_⟩
  conv => whnf
  conv => whnf
  refine ⟨fun w2 => ?_, fun w2 => ?_⟩
  · conv => whnf
    exact bad fun h => bP_no.1 (by simpa using w2) h.2.1
  refine ⟨_, h3, ?_⟩
  conv => whnf
  conv => whnf
  refine ⟨fun w3 => ?_, fun w3 => ?_⟩
  · conv => whnf
    exact bad fun h => bP_no.1 (by simpa using w3) h.2.2
  · have hn : IsN o.1 o.2 ∧ IsN a.1 a.2 ∧ IsN b.1 b.2 := ⟨bP_iff.1 (by simpa using w1), bP_iff.1 (by simpa using w2), bP_iff.1 (by simpa using w3)⟩
    clear w1 w2 w3
    obtain ⟨no, na, nb⟩ := hn
    have so := isN_sz no
    have sa := isN_sz na
    have sb := isN_sz nb
    have hN := nm3_len no na nb
    have h96 := c96 o a b ⟨by omega, by omega⟩ ⟨by omega, by omega⟩ ⟨by omega, by omega⟩
    unfold mb at h96
    conv => whnf
    refine ⟨_, _, h96, ?_⟩
    conv => whnf
    have hNe : ((nm3 o a b).map encT).length = (nm3 o a b).length := List.length_map _
    obtain ⟨N, hNN⟩ : ∃ N, N = nm3 o a b := ⟨_, rfl⟩
    rw [← hNN] at hN hNe
    refine .inr (.inl ⟨[3, 6, 9, 34, 35, 36], Nat × List S62 × List S72, fun x => ([(3, .bptr 208 0), (6, .bptr 400 0), (9, .bptr 592 0), (34, .own 1 2192 0 (N.map encT).length .opn), (35, .int .i64 (N.map encT).length), (36, .int .i64 x.1)],
      [(2192, .live (.arr 1 (N.map encT))), (600, .live (.arr 2 (x.2.2.map enc72))), (599, .live (.arr 10 (x.2.1.map enc62))), (592, mb o a b (.own 10 599 0 (x.2.1.map enc62).length .opn) (.own 2 600 0 (x.2.2.map enc72).length .opn)), (400, .live (.box [.nils, .nils])), (208, .live (.box [.row 1 (o.1.map encT), .row 7 (o.2.map enc47)]))]), fun x => x.1 ≤ N.length ∧ x.2.1 = (N.take x.1).flatMap (edM o a b) ∧ x.2.2 = (N.take x.1).flatMap (clM o a b), fun x => N.length - x.1, ?_, ?_⟩)
    · conv => whnf
      refine ⟨(0, [], []), ?_, Nat.zero_le _, rfl, rfl⟩
      dsimp only
      rw [← hNN]
      exact .trans (.nilB (k := 599) (s := 10) rfl rfl (.there rfl (.here (.box (.same (.same (.same (.same (.same (.same (.chg (.same .nil)))))))) (.same (.same .nil)))))) (.nilB (k := 600) (s := 2) rfl rfl (.there rfl (.here (.same (.box (.same (.same (.same (.same (.same (.same (.same (.chg .nil)))))))) (.same (.same .nil)))))))
    · rintro ⟨j, E', C'⟩ ⟨hj, hE1, hC1⟩
      dsimp only at hj hE1 hC1
      have hEl : E'.length ≤ 512 := by
        rw [hE1]
        refine Nat.le_trans (flen (edM_len o a b) _) ?_
        rw [List.length_take]
        omega
      have hCl : C'.length ≤ 512 := by
        rw [hC1]
        refine Nat.le_trans (flen (fun x => clA_len (loc o x) (loc a x) (loc b x) x) _) ?_
        rw [List.length_take]
        omega
      have hEe : (E'.map enc62).length = E'.length := List.length_map _
      have hCe : (C'.map enc72).length = C'.length := List.length_map _
      dsimp only
      unfold mb
      conv => whnf
      refine ⟨fun w1 => ?_, fun w1 => ?_⟩
      · have w1 : j < N.length := by have := of_decide_eq_true w1; omega
        obtain ⟨id, hid⟩ := at_ex w1
        have h97 := c97 o a b ho ha hb (by omega) (by omega) (by omega) E' C' (by omega) (by omega) id
        have hA := eA_len (loc o id) (loc a id) (loc b id) id
        have hB := clA_len (loc o id) (loc a id) (loc b id) id
        have h98 := c98 o a b (by omega) (by omega) (by omega) (E' ++ eA (loc o id) (loc a id) (loc b id) id) (C' ++ clA (loc o id) (loc a id) (loc b id) id) (by rw [List.length_append]; omega) (by rw [List.length_append]; omega) id
        have hE2 : (E' ++ eA (loc o id) (loc a id) (loc b id) id) ++ eF (hasS o.1 id) (hasS a.1 id) (hasS b.1 id) id = (N.take (j + 1)).flatMap (edM o a b) := by
          rw [hE1, snoc_take hid, List.flatMap_append, List.flatMap_cons, List.flatMap_nil, List.append_nil, List.append_assoc]; rfl
        have hC2 : C' ++ clA (loc o id) (loc a id) (loc b id) id = (N.take (j + 1)).flatMap (clM o a b) := by
          rw [hC1, snoc_take hid, List.flatMap_append, List.flatMap_cons, List.flatMap_nil, List.append_nil]; rfl
        rw [hE2] at h98
        generalize E' ++ eA (loc o id) (loc a id) (loc b id) id = E2 at h97 h98
        rw [hC2] at h97 h98
        unfold mgI mgO mb at h97 h98
        conv => whnf
        refine ⟨by omega, ?_⟩
        conv => whnf
        conv => whnf
        refine ⟨_, map_at0 hid, ?_⟩
        conv => whnf
        conv => whnf
        refine ⟨_, _, h97, ?_⟩
        conv => whnf
        conv => whnf
        refine ⟨_, _, h98, ?_⟩
        conv => whnf
        conv => whnf
        refine ⟨(j + 1, (N.take (j + 1)).flatMap (edM o a b), (N.take (j + 1)).flatMap (clM o a b)), ?_, ⟨w1, rfl, rfl⟩, by show N.length - (j + 1) < N.length - j; omega⟩
        dsimp only
        rw [up1 w1 (by omega)]
        exact .of rfl
      · have hjN : j = N.length := by have := of_decide_eq_false w1; omega
        clear w1
        rw [hjN, List.take_length, hNN] at hE1 hC1
        have hE1 : E' = edL o a b := hE1
        have hC1 : C' = clL o a b := hC1
        conv => whnf
        refine ⟨fun w2 => ?_, fun w2 => ?_⟩
        · conv => whnf
          refine ⟨by kernel_rfl, ?_⟩
          conv => whnf
          conv => whnf
          refine ⟨Nat.zero_add _, ?_⟩
          conv => whnf
          conv => whnf
          cases C' with
          | nil => exact absurd (of_decide_eq_true w2) (by decide)
          | cons c l =>
            rw [mg_yes no na nb, ← hC1]
            exact .tup3 (.agg2 .nils .nils) .refl .refl
        · have hC0 : C' = [] := by cases C' with
            | nil => rfl
            | cons c l => have := of_decide_eq_false w2; simp at this
          have h60 := h60 (by rw [← hE1]; omega) fun _ => edL_nice (.of no) (.of na) (.of nb) (hC1.symm.trans hC0)
          have hap := ap_merge no na nb (hC1.symm.trans hC0)
          rw [← hE1] at h60 hap
          have hmg := mg_yes no na nb
          rw [← hC1, hC0] at hmg
          dsimp only at hmg
          rw [hmg]
          cases hO : ordO (tgS o a b) with
          | none =>
            rw [hO] at hap
            rw [hap] at h60
            dsimp only at h60 ⊢
            conv => whnf
            refine ⟨Nat.zero_add _, ?_⟩
            conv => whnf
            conv => whnf
            refine ⟨_, h60, ?_⟩
            conv => whnf
            conv => whnf
            refine ⟨by kernel_rfl, ?_⟩
            conv => whnf
            conv => whnf
            refine ⟨fun w3 => ?_, fun w3 => ?_⟩
            · conv => whnf
              refine ⟨by kernel_rfl, ?_⟩
              conv => whnf
              conv => whnf
              exact .tup3 (.agg2 .nils .nils) (.rows (.cons (by repeat (first | exact .nil | refine .cons (by first | exact .refl | exact .lit rfl | exact .nils) ?_)) .nil)) .refl
            · exact absurd w3 (by decide)
          | some n =>
            rw [hO] at hap
            rw [hap] at h60
            dsimp only at h60 ⊢
            conv => whnf
            refine ⟨Nat.zero_add _, ?_⟩
            conv => whnf
            conv => whnf
            refine ⟨_, h60, ?_⟩
            conv => whnf
            conv => whnf
            refine ⟨by kernel_rfl, ?_⟩
            conv => whnf
            conv => whnf
            refine ⟨fun w3 => ?_, fun w3 => ?_⟩
            · exact absurd w3 (by decide)
            · conv => whnf
              exact .tup3 (.agg2 .refl .refl) .nils .refl
end Go.Ab
namespace Go.Ab
open Go.Proofs Sn
set_option maxRecDepth 100000
set_option linter.unnecessarySimpa false
set_option linter.unusedSimpArgs false
set_option linter.unusedVariables false
set_option maxHeartbeats 4000000
theorem p51 (f : List ByteArray) (m : List S47) (h : BgM f m) : funcP cx Tryz.f51 [encM f m] (.bool (decide (400 ≤ totM f m))) := by
  have hf := h.hf
  have hm := h.hm
  have hE : (m.map enc47).length = m.length := List.length_map _
  have hF : (f.map encT).length = f.length := List.length_map _
  have w0 : IntKind.i64.wrap ((f.length : Int) + m.length) = ((f.length + m.length : Nat) : Int) := by rw [IntWalk.i64_in _ (by omega)]; omega
  unfold encM
  conv => whnf
  refine .inr (.inl ⟨[1, 3, 4], Nat × Nat, fun a => ([(1, .bptr 80 0), (3, .int .i64 a.1), (4, .int .i64 a.2)], [(80, .live (.box [.row 1 (f.map encT), .row 7 (m.map enc47)]))]), fun a => a.2 ≤ m.length ∧ (a.1 = f.length + m.length + sumW wIt (m.take a.2) ∨ (400 ≤ a.1 ∧ 400 ≤ totM f m)), fun a => m.length - a.2, ?_, fun a ha => ?_⟩)
  · conv => whnf
    refine ⟨(f.length + m.length, 0), .of ?_, Nat.zero_le _, .inl rfl⟩
    rw [hE, hF, w0]
    rfl
  · obtain ⟨n, i⟩ := a
    obtain ⟨ha1, ha2⟩ := ha
    have ha1 : i ≤ m.length := ha1
    replace ha2 : n = f.length + m.length + sumW wIt (m.take i) ∨ (400 ≤ n ∧ 400 ≤ totM f m) := ha2
    have hle := sumW_le (w := wIt) m i
    have hT : totM f m = f.length + m.length + sumW wIt m := rfl
    conv => whnf
    refine ⟨fun w1 => ?_, fun w1 => ?_⟩
    · replace w1 := ltm w1
      obtain ⟨x, hx⟩ := at_ex w1
      obtain ⟨x0, x2, ⟨x5, y5⟩, x6, y6⟩ := h.hx x (List.mem_of_getElem? hx)
      have hE5 : (x.f5.map enc29).length = x.f5.length := List.length_map _
      have hE6 : (x.f6.map enc29).length = x.f6.length := List.length_map _
      have hs1 : sumW wIt (m.take (i + 1)) = sumW wIt (m.take i) + (hdIt x + sumW wSe x.f5 + sumW wSe x.f6) := sumW_snoc (w := wIt) hx
      have hs2 := sumW_le (w := wIt) m (i + 1)
      conv => whnf
      refine ⟨fun w2 => ?_, fun w2 => ?_⟩
      · replace w2 := of_decide_eq_true w2
        have hn : n = f.length + m.length + sumW wIt (m.take i) := by rcases ha2 with h | ⟨h, _⟩; exact h; omega
        have hw : IntKind.i64.wrap (IntKind.i64.wrap (IntKind.i64.wrap (IntKind.i64.wrap ((n : Int) + ((x.f5.map enc29).length : Nat)) + ((x.f6.map enc29).length : Nat)) + IntKind.i64.wrap ((x.f0.size : Int).tdiv 50)) + IntKind.i64.wrap ((x.f2.size : Int).tdiv 50)) = ((n + hdIt x : Nat) : Int) := by
          rw [hE5, hE6, tdiv50, tdiv50, IntWalk.i64_in ((n : Int) + _) (by omega), IntWalk.i64_in ((x.f0.size / 50 : Nat) : Int) (by omega), IntWalk.i64_in ((x.f2.size / 50 : Nat) : Int) (by omega), IntWalk.i64_in ((n : Int) + (x.f5.length : Int) + _) (by omega), IntWalk.i64_in ((n : Int) + (x.f5.length : Int) + (x.f6.length : Int) + _) (by omega), IntWalk.i64_in _ (by omega)]
          unfold hdIt
          omega
        conv => whnf
        refine ⟨⟨Int.natCast_nonneg _, by omega⟩, ?_⟩
        conv => whnf
        conv => whnf
        refine ⟨_, map_at hx, ?_⟩
        conv => whnf
        conv => whnf
        refine ⟨by omega, ?_⟩
        conv => whnf
        conv => whnf
        refine ⟨by omega, ?_⟩
        conv => whnf
        conv => whnf
        refine .inr (.inr ⟨[1, 3, 4, 5, 6], Nat × Nat, fun a => ([(1, .bptr 80 0), (3, .int .i64 a.1), (4, .int .i64 i), (5, .bptr 336 0), (6, .int .i64 a.2)], [(336, .live (.box (enc47 x))), (80, .live (.box [.row 1 (f.map encT), .row 7 (m.map enc47)]))]), fun a => a.2 ≤ x.f5.length ∧ (a.1 = n + hdIt x + sumW wSe (x.f5.take a.2) ∨ (400 ≤ a.1 ∧ 400 ≤ totM f m)), fun a => x.f5.length - a.2,
          [1, 3, 4, 5], Nat, fun p => ([(1, .bptr 80 0), (3, .int .i64 p), (4, .int .i64 i), (5, .bptr 336 0)], [(336, .live (.box (enc47 x))), (80, .live (.box [.row 1 (f.map encT), .row 7 (m.map enc47)]))]), fun e p => e = 2 ∧ (p = n + hdIt x + sumW wSe x.f5 ∨ (400 ≤ p ∧ 400 ≤ totM f m)), ?_, fun a ha => ?_, fun e p hp => ?_⟩)
        · conv => whnf
          refine ⟨(n + hdIt x, 0), .of ?_, Nat.zero_le _, .inl rfl⟩
          dsimp only
          rw [← hw]
          rfl
        · obtain ⟨p, k⟩ := a
          obtain ⟨hk1, hk2⟩ := ha
          have hk1 : k ≤ x.f5.length := hk1
          replace hk2 : p = n + hdIt x + sumW wSe (x.f5.take k) ∨ (400 ≤ p ∧ 400 ≤ totM f m) := hk2
          have hkl := sumW_le (w := wSe) x.f5 k
          conv => whnf
          refine ⟨fun w3 => ?_, fun w3 => ?_⟩
          · replace w3 := ltm w3
            obtain ⟨s, hs⟩ := at_ex w3
            obtain ⟨s0, s1⟩ := y5 s (List.mem_of_getElem? hs)
            have hss : sumW wSe (x.f5.take (k + 1)) = sumW wSe (x.f5.take k) + (s.f0.length + s.f1.length) := sumW_snoc (w := wSe) hs
            have hsl := sumW_le (w := wSe) x.f5 (k + 1)
            conv => whnf
            refine ⟨fun w4 => ?_, fun w4 => ?_⟩
            · replace w4 := of_decide_eq_true w4
              have w4 : (p : Int) < 400 := w4
              have hv : IntKind.i64.wrap (IntKind.i64.wrap ((p : Int) + ((s.f0.map enc78).length : Nat)) + ((s.f1.map enc93).length : Nat)) = ((p + (s.f0.length + s.f1.length) : Nat) : Int) := by
                rw [List.length_map, List.length_map, IntWalk.i64_in ((p : Int) + _) (by omega), IntWalk.i64_in _ (by omega)]; omega
              conv => whnf
              refine ⟨⟨Int.natCast_nonneg _, by omega⟩, ?_⟩
              conv => whnf
              conv => whnf
              refine ⟨_, map_at hs, ?_⟩
              conv => whnf
              conv => whnf
              refine ⟨⟨Int.natCast_nonneg _, by omega⟩, ?_⟩
              conv => whnf
              conv => whnf
              refine ⟨_, map_at hs, ?_⟩
              conv => whnf
              conv => whnf
              refine ⟨by kernel_rfl, ?_⟩
              conv => whnf
              conv => whnf
              refine ⟨(p + (s.f0.length + s.f1.length), k + 1), .of ?_, ⟨w3, ?_⟩, by show x.f5.length - (k + 1) < x.f5.length - k; omega⟩
              · dsimp only
                rw [hv, up1 w3 (by omega)]
                rfl
              · show p + (s.f0.length + s.f1.length) = n + hdIt x + sumW wSe (x.f5.take (k + 1)) ∨ (400 ≤ p + (s.f0.length + s.f1.length) ∧ 400 ≤ totM f m)
                rcases hk2 with h | h
                · exact .inl (by omega)
                · omega
            · replace w4 := of_decide_eq_false w4
              have w4 : ¬ (p : Int) < 400 := w4
              conv => whnf
              exact ⟨p, .of rfl, rfl, .inr ⟨by omega, by rcases hk2 with h | h <;> omega⟩⟩
          · replace w3 := nltm w3
            conv => whnf
            exact ⟨p, .of rfl, rfl, by rcases hk2 with h | h; exact .inl (by rw [h, sumW_all (k := k) w3]); exact .inr h⟩
        · obtain ⟨rfl, hp⟩ := hp
          conv => whnf
          refine .inr (.inr ⟨[1, 3, 4, 5, 7], Nat × Nat, fun a => ([(1, .bptr 80 0), (3, .int .i64 a.1), (4, .int .i64 i), (5, .bptr 336 0), (7, .int .i64 a.2)], [(336, .live (.box (enc47 x))), (80, .live (.box [.row 1 (f.map encT), .row 7 (m.map enc47)]))]), fun a => a.2 ≤ x.f6.length ∧ (a.1 = n + hdIt x + sumW wSe x.f5 + sumW wSe (x.f6.take a.2) ∨ (400 ≤ a.1 ∧ 400 ≤ totM f m)), fun a => x.f6.length - a.2,
            [1, 3, 4], Nat, fun p => ([(1, .bptr 80 0), (3, .int .i64 p), (4, .int .i64 i)], [(80, .live (.box [.row 1 (f.map encT), .row 7 (m.map enc47)]))]), fun e p => e = 4 ∧ (p = n + hdIt x + sumW wSe x.f5 + sumW wSe x.f6 ∨ (400 ≤ p ∧ 400 ≤ totM f m)), ?_, fun a ha => ?_, fun e p hp => ?_⟩)
          · conv => whnf
            refine ⟨(p, 0), .of rfl, Nat.zero_le _, ?_⟩
            rcases hp with h | h
            · exact .inl (by rw [h]; rfl)
            · exact .inr h
          · obtain ⟨p, k⟩ := a
            obtain ⟨hk1, hk2⟩ := ha
            have hk1 : k ≤ x.f6.length := hk1
            replace hk2 : p = n + hdIt x + sumW wSe x.f5 + sumW wSe (x.f6.take k) ∨ (400 ≤ p ∧ 400 ≤ totM f m) := hk2
            have hkl := sumW_le (w := wSe) x.f6 k
            conv => whnf
            refine ⟨fun w3 => ?_, fun w3 => ?_⟩
            · replace w3 := ltm w3
              obtain ⟨s, hs⟩ := at_ex w3
              obtain ⟨s0, s1⟩ := y6 s (List.mem_of_getElem? hs)
              have hss : sumW wSe (x.f6.take (k + 1)) = sumW wSe (x.f6.take k) + (s.f0.length + s.f1.length) := sumW_snoc (w := wSe) hs
              have hsl := sumW_le (w := wSe) x.f6 (k + 1)
              conv => whnf
              refine ⟨fun w4 => ?_, fun w4 => ?_⟩
              · replace w4 := of_decide_eq_true w4
                have w4 : (p : Int) < 400 := w4
                have hv : IntKind.i64.wrap (IntKind.i64.wrap ((p : Int) + ((s.f0.map enc78).length : Nat)) + ((s.f1.map enc93).length : Nat)) = ((p + (s.f0.length + s.f1.length) : Nat) : Int) := by
                  rw [List.length_map, List.length_map, IntWalk.i64_in ((p : Int) + _) (by omega), IntWalk.i64_in _ (by omega)]; omega
                conv => whnf
                refine ⟨⟨Int.natCast_nonneg _, by omega⟩, ?_⟩
                conv => whnf
                conv => whnf
                refine ⟨_, map_at hs, ?_⟩
                conv => whnf
                conv => whnf
                refine ⟨⟨Int.natCast_nonneg _, by omega⟩, ?_⟩
                conv => whnf
                conv => whnf
                refine ⟨_, map_at hs, ?_⟩
                conv => whnf
                conv => whnf
                refine ⟨by kernel_rfl, ?_⟩
                conv => whnf
                conv => whnf
                refine ⟨(p + (s.f0.length + s.f1.length), k + 1), .of ?_, ⟨w3, ?_⟩, by show x.f6.length - (k + 1) < x.f6.length - k; omega⟩
                · dsimp only
                  rw [hv, up1 w3 (by omega)]
                  rfl
                · show p + (s.f0.length + s.f1.length) = n + hdIt x + sumW wSe x.f5 + sumW wSe (x.f6.take (k + 1)) ∨ (400 ≤ p + (s.f0.length + s.f1.length) ∧ 400 ≤ totM f m)
                  rcases hk2 with h | h
                  · exact .inl (by omega)
                  · omega
              · replace w4 := of_decide_eq_false w4
                have w4 : ¬ (p : Int) < 400 := w4
                conv => whnf
                exact ⟨p, .of rfl, rfl, .inr ⟨by omega, by rcases hk2 with h | h <;> omega⟩⟩
            · replace w3 := nltm w3
              conv => whnf
              exact ⟨p, .of rfl, rfl, by rcases hk2 with h | h; exact .inl (by rw [h, sumW_all (k := k) w3]); exact .inr h⟩
          · obtain ⟨rfl, hp⟩ := hp
            conv => whnf
            refine ⟨(p, i + 1), .of (by rw [up1 w1 (by omega)]), ⟨w1, ?_⟩, by show m.length - (i + 1) < m.length - i; omega⟩
            show p = f.length + m.length + sumW wIt (m.take (i + 1)) ∨ (400 ≤ p ∧ 400 ≤ totM f m)
            rcases hp with h | h
            · exact .inl (by omega)
            · exact .inr h
      · replace w2 := of_decide_eq_false w2
        conv => whnf
        have w2 : ¬ (n : Int) < 400 := w2
        exact .bool (decide_eq_decide.2 (by show (n : Int) ≥ 400 ↔ _; rcases ha2 with h | h <;> omega))
    · replace w1 := nltm w1
      conv => whnf
      exact .bool (decide_eq_decide.2 (by
        have := sumW_all (w := wIt) (k := i) w1
        rcases ha2 with h | h <;> omega))
theorem c51 (f : List ByteArray) (m : List S47) (h : BgM f m) : PCall cx.P 51 [encM f m] (.bool (decide (400 ≤ totM f m))) := pcall Tryz.f51 (by kernel_rfl) (by kernel_rfl) (p51 f m h)
def dU : S47 := ⟨⟨#[116]⟩, 2, ⟨#[112]⟩, false, 0, [], []⟩
theorem dNu : IsN [] [dP, dU] := isN_by (by kernel_rfl) (by kernel_rfl) (by kernel_rfl)
def rU : List AV := [.str ⟨#[116]⟩, .int .i64 2, .str ⟨#[112]⟩, .lit false, .int .i64 0, .nils, .nils]
theorem dRowU : Le (.row 7 [rP, rU]) (.row 7 ([dP, dU].map enc47)) := .rows (.cons (by unfold rP; repeat (first | exact .nil | refine .cons (by first | exact .refl | exact .lit rfl | exact .nils) ?_)) <| .cons (by unfold rU; repeat (first | exact .nil | refine .cons (by first | exact .refl | exact .lit rfl | exact .nils) ?_)) .nil)
theorem PCall.by3 {P : Program} {f : Nat} {x y z x' y' z' r : AV} (h : PCall P f [x', y', z'] r) (h1 : Le x x') (h2 : Le y y') (h3 : Le z z') : PCall P f [x, y, z] r := h.by rfl fun j a b ha hb => by
  match j with
  | 0 => cases ha; cases hb; exact h1
  | 1 => cases ha; cases hb; exact h2
  | 2 => cases ha; cases hb; exact h3
  | j + 3 => simp at ha
theorem d52 : PCall cx.P 52 [.agg [.nils, .row 7 [rP]], .agg [.nils, .row 7 [rP]], .agg [.nils, .row 7 [rP, rU]]] (.tup [encM [] [dP, dU], .row 2 [], .int .i64 0]) := by
  have h := c52 ([], [dP]) ([], [dP]) ([], [dP, dU]) dNa.sz dNa.sz dNu.sz
  rw [mg_alone2 (o := ([], [dP])) (a := ([], [dP, dU])) dNa dNu] at h
  exact h.by3 (.agg2 .nils dRow) (.agg2 .nils dRow) (.agg2 .nils dRowU)
theorem d35 : PCall cx.P 35 [encM [] [dP, dU], .agg [.nils, .row 7 [rP, rU]]] (.lit true) := (n35 (s := ([], [dP, dU])) dNu).by2 .refl (.agg2 .nils dRowU)
theorem c55 : PCall cx.P 55 [] (.lit true) := pcallA [1003] Tryz.f55 (by kernel_rfl) (by kernel_rfl) <| by
  have h1 := d52
  have h2 := d35
  unfold encM at h1 h2
  conv => whnf
  refine ⟨[1, 2], ([(1, .bptr 80 0), (2, .bptr 144 0)], [(144, .live (.box [.nils, .row 7 [rP, rU]])), (80, .live (.box [.nils, .row 7 [rP]]))]), ?_⟩
  conv => whnf
  refine ⟨(StLe.frz 82 (by kernel_rfl) ?_).trans ((StLe.frz 146 (by kernel_rfl) ?_).trans (.of rfl)), ?_⟩
  · repeat' (first | exact True.intro | exact rfl | refine And.intro ?_ ?_)
  · repeat' (first | exact True.intro | exact rfl | refine And.intro ?_ ?_)
  conv => whnf
  refine ⟨_, h1, ?_⟩
  conv => whnf
  conv => whnf
  refine ⟨fun w1 => ?_, fun w1 => ?_⟩
  rotate_left
  · exact absurd w1 (by decide)
  conv => whnf
  refine ⟨fun w2 => ?_, fun w2 => ?_⟩
  rotate_left
  · exact absurd w2 (by decide)
  refine ⟨_, h2, ?_⟩
  conv => whnf
  conv => whnf
  exact .of rfl
theorem c54 (l : List S72) (hl : l.length ≤ 1048576) : PCall cx.P 54 [.row 2 (l.map enc72), .row 2 (l.map enc72)] (.lit true) := pcall Tryz.f54 (by kernel_rfl) (by kernel_rfl) <| by
  have hA : (l.map enc72).length = l.length := List.length_map _
  conv => whnf
  refine ⟨fun w1 => ?_, fun w1 => ?_⟩
  · exact absurd rfl (ne_of_bne w1)
  · conv => whnf
    refine .inr (.inl ⟨[0, 1, 5], Nat, fun i => ([(0, .row 2 (l.map enc72)), (1, .row 2 (l.map enc72)), (5, .int .i64 i)], []), fun i => i ≤ l.length, fun i => l.length - i, ?_, fun i hi => ?_⟩)
    · conv => whnf
      exact ⟨0, .of rfl, Nat.zero_le _⟩
    · have hi1 : i ≤ l.length := hi
      conv => whnf
      refine ⟨fun w2 => ?_, fun w2 => ?_⟩
      · replace w2 := ltm w2
        obtain ⟨x, hx⟩ := at_ex w2
        conv => whnf
        refine ⟨⟨Int.natCast_nonneg _, by omega⟩, ?_⟩
        conv => whnf
        conv => whnf
        refine ⟨_, map_at hx, ?_⟩
        conv => whnf
        conv => whnf
        refine ⟨⟨Int.natCast_nonneg _, by omega⟩, ?_⟩
        conv => whnf
        conv => whnf
        refine ⟨_, map_at hx, ?_⟩
        conv => whnf
        conv => whnf
        refine ⟨by kernel_rfl, ?_⟩
        conv => whnf
        conv => whnf
        refine ⟨fun w3 => ?_, fun w3 => ?_⟩
        · rw [(sEq_iff x.f0 x.f0).2 rfl] at w3
          simp at w3
        · conv => whnf
          exact ⟨i + 1, .of (by rw [up1 w2 (by omega)]), w2, by show l.length - (i + 1) < l.length - i; omega⟩
      · replace w2 := nltm w2
        conv => whnf
        exact .of rfl
end Go.Ab
namespace Go.Ab
open Go.Proofs Sn
set_option maxRecDepth 100000
set_option linter.unnecessarySimpa false
set_option linter.unusedSimpArgs false
set_option linter.unusedVariables false
set_option maxHeartbeats 40000000
theorem clL_len {o a b : St} (ho : IsN o.1 o.2) (ha : IsN a.1 a.2) (hb : IsN b.1 b.2) : (clL o a b).length ≤ 512 := by
  have h := flen (fun x => clA_len (loc o x) (loc a x) (loc b x) x) (nm3 o a b)
  have := nm3_len ho ha hb
  exact Nat.le_trans h (by omega)
theorem mg_three (o a b : St) : (¬ (IsN o.1 o.2 ∧ IsN a.1 a.2 ∧ IsN b.1 b.2) ∧ mgS o a b = (([], []), [], 7)) ∨ (IsN o.1 o.2 ∧ IsN a.1 a.2 ∧ IsN b.1 b.2) ∧ ((∃ n : St, IsN n.1 n.2 ∧ mgS o a b = (n, [], 0)) ∨ ∃ c l, (c :: l).length ≤ 512 ∧ mgS o a b = (([], []), c :: l, 11)) := by
  by_cases h : IsN o.1 o.2 ∧ IsN a.1 a.2 ∧ IsN b.1 b.2
  · refine .inr ⟨h, ?_⟩
    have hl := clL_len h.1 h.2.1 h.2.2
    rw [mg_yes h.1 h.2.1 h.2.2]
    cases hc : clL o a b with
    | nil =>
      cases hO : ordO (tgS o a b) with
      | none => exact .inr ⟨_, [], by decide, rfl⟩
      | some n => exact .inl ⟨n, (ordO_some.1 hO).1, rfl⟩
    | cons c l => exact .inr ⟨c, l, by rw [← hc]; exact hl, rfl⟩
  · exact .inl ⟨h, mg_no h⟩
theorem szE : SzM [] [] := SzM.of (f := []) (m := []) (by decide)
theorem mg_sz (o a b : St) : SzM (mgS o a b).1.1 (mgS o a b).1.2 ∧ (mgS o a b).2.1.length ≤ 1048576 := by
  rcases mg_three o a b with ⟨_, h⟩ | ⟨_, ⟨n, hn, h⟩ | ⟨c, l, hl, h⟩⟩ <;> rw [h]
  · exact ⟨szE, by decide⟩
  · exact ⟨hn.sz, Nat.zero_le _⟩
  · exact ⟨szE, Nat.le_trans hl (by decide)⟩
end Go.Ab
namespace Go.Ab
open Sn
def wid (id : ByteArray) (v : Lo) : S47 := ⟨id, v.2.1.f1, v.2.1.f2, v.2.1.f3, v.2.1.f4, v.2.1.f5, v.2.1.f6⟩
def pk (id : ByteArray) (k : Int) (v : Lo) : S47 := partOf (wid id v) k
def Gd (v : Lo) : Prop := (v.1 = false → v.2.1 = z47) ∧ (v.1 = true → v.2.1.f1 ≠ 0)
theorem Gd.loc {f : List ByteArray} {m : List S47} (h : IsN f m) (id : ByteArray) : Gd (loc (f, m) id) := by
  refine ⟨fun e => getI_none e, fun e => ?_⟩
  obtain ⟨r, F, rfl, o, _⟩ := h
  have := (o.items (getI (r :: F) id) (getI_mem e).1).kind
  show (getI (r :: F) id).f1 ≠ 0
  omega
theorem Gd.flag {u v : Lo} (hu : Gd u) (hv : Gd v) (h : u.2.1.f1 = v.2.1.f1) : u.1 = v.1 := by
  cases e1 : u.1 <;> cases e2 : v.1
  · rfl
  · exact absurd (by rw [← h, hu.1 e1]; rfl) (hv.2 e2)
  · exact absurd (by rw [h, hv.1 e2]; rfl) (hu.2 e1)
  · rfl
theorem k4 {k : Int} (h : 1 ≤ k ∧ k ≤ 4) : k = 1 ∨ k = 2 ∨ k = 3 ∨ k = 4 := by omega
theorem pk_iff {id : ByteArray} {k : Int} (hk : 1 ≤ k ∧ k ≤ 4) {u v : Lo} (hu : Gd u) (hv : Gd v) : pk id k u = pk id k v ↔ cmpn k u = cmpn k v := by
  rcases k4 hk with rfl | rfl | rfl | rfl
  · show (⟨id, u.2.1.f1, u.2.1.f2, false, u.2.1.f4, [], []⟩ : S47) = ⟨id, v.2.1.f1, v.2.1.f2, false, v.2.1.f4, [], []⟩ ↔ _
    rw [cmpn_1, cmpn_1]
    constructor
    · intro h
      have h1 := congrArg S47.f1 h
      have h2 := congrArg S47.f2 h
      have h4 := congrArg S47.f4 h
      dsimp only at h1 h2 h4
      rw [hu.flag hv h1, h1, h2, h4]
    · intro h
      have h := congrArg (fun x : Lo => x.2.1) h
      have h1 := congrArg S47.f1 h
      have h2 := congrArg S47.f2 h
      have h4 := congrArg S47.f4 h
      dsimp only at h1 h2 h4
      rw [h1, h2, h4]
  · show (⟨id, 0, ⟨#[]⟩, u.2.1.f3, 0, [], []⟩ : S47) = ⟨id, 0, ⟨#[]⟩, v.2.1.f3, 0, [], []⟩ ↔ _
    rw [cmpn_2, cmpn_2]
    exact ⟨fun h => by have h := congrArg S47.f3 h; dsimp only at h; rw [h], fun h => by have h := congrArg (fun x : Lo => x.2.1.f3) h; dsimp only at h; rw [h]⟩
  · show (⟨id, 0, ⟨#[]⟩, false, 0, u.2.1.f5, []⟩ : S47) = ⟨id, 0, ⟨#[]⟩, false, 0, v.2.1.f5, []⟩ ↔ _
    rw [cmpn_3, cmpn_3]
    exact ⟨fun h => by have h := congrArg S47.f5 h; dsimp only at h; rw [h], fun h => by have h := congrArg (fun x : Lo => x.2.1.f5) h; dsimp only at h; rw [h]⟩
  · show (⟨id, 0, ⟨#[]⟩, false, 0, [], u.2.1.f6⟩ : S47) = ⟨id, 0, ⟨#[]⟩, false, 0, [], v.2.1.f6⟩ ↔ _
    rw [cmpn_4, cmpn_4]
    exact ⟨fun h => by have h := congrArg S47.f6 h; dsimp only at h; rw [h], fun h => by have h := congrArg (fun x : Lo => x.2.1.f6) h; dsimp only at h; rw [h]⟩
end Go.Ab
namespace Go.Ab
open Go.Proofs Sn
set_option maxRecDepth 100000
set_option linter.unnecessarySimpa false
set_option linter.unusedSimpArgs false
set_option linter.unusedVariables false
set_option maxHeartbeats 40000000
def encV (v : Bool × S47) : List AV := .bool v.1 :: enc47 v.2
theorem c146 (u v : Bool × S47) (hu : Sz47 u.2) (hv : Sz47 v.2) : PCall cx.P 146 [.agg (encV u), .agg (encV v)] (.bool (u.1 == v.1 && eqq u.2 v.2)) := pcall3 Tryz.f146 (by kernel_rfl) (by kernel_rfl) <| by
  have h58 := c58 u.2 v.2 hu hv
  conv => whnf
  refine ⟨fun w1 => ?_, fun w1 => ?_⟩
  · rw [show (u.1 == v.1) = true from w1, Bool.true_and]
    refine ⟨_, h58, ?_⟩
    conv => whnf
    conv => whnf
    exact .refl
  · rw [show (u.1 == v.1) = false from w1, Bool.false_and]
    conv => whnf
    exact .lit rfl
noncomputable def vSame (u v : Bool × S47) : Bool := u.1 == v.1 && eqq u.2 v.2
noncomputable def vCh (o a b : Bool × S47) : (Bool × S47) × Bool := bif vSame o b || vSame a b then (a, true) else bif vSame o a then (b, true) else (o, false)
theorem c99 (o a b : Bool × S47) (ho : Sz47 o.2) (ha : Sz47 a.2) (hb : Sz47 b.2) : PCall cx.P 99 [.agg (encV o), .agg (encV a), .agg (encV b)] (.tup [.agg (encV (vCh o a b).1), .bool (vCh o a b).2]) := pcall3 Tryz.f99 (by kernel_rfl) (by kernel_rfl) <| by
  have h1 : PCall cx.P 146 [.agg (encV o), .agg (encV b)] (.bool (vSame o b)) := c146 o b ho hb
  have h2 : PCall cx.P 146 [.agg (encV a), .agg (encV b)] (.bool (vSame a b)) := c146 a b ha hb
  have h3 : PCall cx.P 146 [.agg (encV o), .agg (encV a)] (.bool (vSame o a)) := c146 o a ho ha
  unfold vCh
  cases e1 : vSame o b with
  | true =>
    rw [e1] at h1
    rw [Bool.true_or, cond_true]
    replace h1 := h1.to (.blit rfl)
    conv => whnf
    refine ⟨_, h1, ?_⟩
    conv => whnf
    conv => whnf
    exact .tup2 .refl (.lit rfl)
  | false =>
    rw [e1] at h1
    rw [Bool.false_or]
    replace h1 := h1.to (.blit rfl)
    cases e2 : vSame a b with
    | true =>
      rw [e2] at h2
      rw [cond_true]
      replace h2 := h2.to (.blit rfl)
      conv => whnf
      refine ⟨_, h1, ?_⟩
      conv => whnf
      conv => whnf
      refine ⟨_, h2, ?_⟩
      conv => whnf
      conv => whnf
      exact .tup2 .refl (.lit rfl)
    | false =>
      rw [e2] at h2
      rw [cond_false]
      replace h2 := h2.to (.blit rfl)
      cases e3 : vSame o a with
      | true =>
        rw [e3] at h3
        rw [cond_true]
        replace h3 := h3.to (.blit rfl)
        conv => whnf
        refine ⟨_, h1, ?_⟩
        conv => whnf
        conv => whnf
        refine ⟨_, h2, ?_⟩
        conv => whnf
        conv => whnf
        refine ⟨_, h3, ?_⟩
        conv => whnf
        conv => whnf
        exact .tup2 .refl (.lit rfl)
      | false =>
        rw [e3] at h3
        rw [cond_false]
        replace h3 := h3.to (.blit rfl)
        conv => whnf
        refine ⟨_, h1, ?_⟩
        conv => whnf
        conv => whnf
        refine ⟨_, h2, ?_⟩
        conv => whnf
        conv => whnf
        refine ⟨_, h3, ?_⟩
        conv => whnf
        conv => whnf
        exact .tup2 .refl (.lit rfl)
def vOf (f : List ByteArray) (m : List S47) (id : ByteArray) (k : Int) : Bool × S47 := if k = 5 then (hasS f id, z47) else (hasI m id || k != 1, partOf ⟨id, (getI m id).f1, (getI m id).f2, (getI m id).f3, (getI m id).f4, (getI m id).f5, (getI m id).f6⟩ k)
theorem c100 (f : List ByteArray) (m : List S47) (id : ByteArray) (k : Int) (hf : f.length ≤ 1048576) (hm : m.length ≤ 1048576) : PCall cx.P 100 [encM f m, .str id, .int .i64 k] (.agg (encV (vOf f m id k))) := pcall3 Tryz.f100 (by kernel_rfl) (by kernel_rfl) <| by
  have h73 := c73 f id (by omega)
  have h56 := c56 f m id hm
  have h57 := c57 ⟨id, (getI m id).f1, (getI m id).f2, (getI m id).f3, (getI m id).f4, (getI m id).f5, (getI m id).f6⟩ k
  unfold encM at h56 ⊢
  unfold vOf
  by_cases h5 : k = 5
  · rw [if_pos h5]
    conv => whnf
    refine ⟨fun w1 => ?_, fun w1 => ?_⟩
    rotate_left
    · exact absurd h5 (ne_of_beq w1)
    conv => whnf
    refine ⟨_, h73, ?_⟩
    conv => whnf
    conv => whnf
    exact .agg rfl fun j x y hx hy => by
      match j with
      | 0 => cases hx; cases hy; exact .refl
      | 1 => cases hx; cases hy; exact .refl
      | 2 => cases hx; cases hy; exact .refl
      | 3 => cases hx; cases hy; exact .refl
      | 4 => cases hx; cases hy; exact .lit rfl
      | 5 => cases hx; cases hy; exact .refl
      | 6 => cases hx; cases hy; exact .nils
      | 7 => cases hx; cases hy; exact .nils
      | j + 8 => simp at hx
  · rw [if_neg h5]
    generalize partOf ⟨id, (getI m id).f1, (getI m id).f2, (getI m id).f3, (getI m id).f4, (getI m id).f5, (getI m id).f6⟩ k = Y at h57
    conv => whnf
    refine ⟨fun w1 => ?_, fun w1 => ?_⟩
    · exact absurd (eq_of_beq w1) h5
    conv => whnf
    refine ⟨_, h56, ?_⟩
    conv => whnf
    conv => whnf
    cases hI : hasI m id with
    | true =>
      refine ⟨fun w2 => ?_, fun w2 => ?_⟩
      · conv => whnf
        refine ⟨_, h57, ?_⟩
        conv => whnf
        conv => whnf
        exact .agg rfl fun j x y hx hy => by
          match j with
          | 0 => cases hx; cases hy; exact .lit (by rfl)
          | j + 1 => cases hx.symm.trans hy; exact .refl
      · cases w2
    | false =>
      refine ⟨fun w2 => ?_, fun w2 => ?_⟩
      · cases w2
      conv => whnf
      refine ⟨_, h57, ?_⟩
      conv => whnf
      conv => whnf
      rw [Bool.false_or]
      exact .refl
end Go.Ab
namespace Go.Ab
open Sn
def vo (id : ByteArray) (k : Int) (u : Lo) : Bool × S47 := (u.1 || k != 1, pk id k u)
theorem vSame_sm {id : ByteArray} {k : Int} (hk : 1 ≤ k ∧ k ≤ 4) {u v : Lo} (hu : Gd u) (hv : Gd v) : vSame (vo id k u) (vo id k v) = sm k u v := bool_of (by
  have hp := pk_iff (id := id) hk hu hv
  rw [sm_iff, ← hp]
  show (((u.1 || k != 1) == (v.1 || k != 1)) && eqq (pk id k u) (pk id k v)) = true ↔ _
  rw [Bool.and_eq_true, eqq_iff]
  refine ⟨fun h => h.2, fun h => ⟨?_, h⟩⟩
  by_cases h1 : k = 1
  · subst h1
    have e : u.1 = v.1 := hu.flag hv (show (pk id 1 u).f1 = (pk id 1 v).f1 by rw [h])
    rw [e]
    exact beq_self_eq_true _
  · have : (k != 1) = true := by simpa using h1
    rw [this, Bool.or_true, Bool.or_true]
    rfl)
theorem vOf_vo {s : St} {id : ByteArray} {k : Int} (hk : 1 ≤ k ∧ k ≤ 4) : vOf s.1 s.2 id k = vo id k (loc s id) := by
  unfold vOf
  rw [if_neg (by omega)]
  rfl
theorem vCh_ch {id : ByteArray} {k : Int} (hk : 1 ≤ k ∧ k ≤ 4) {o a b : Lo} (ho : Gd o) (ha : Gd a) (hb : Gd b) : vCh (vo id k o) (vo id k a) (vo id k b) = match ch k o a b with | some _ => (vo id k (bif sm k o b || sm k a b then a else b), true) | none => (vo id k o, false) := by
  unfold vCh ch
  rw [vSame_sm hk ho hb, vSame_sm hk ha hb, vSame_sm hk ho ha, sm_comm k o b, sm_comm k o a]
  cases sm k b o <;> cases sm k a b <;> cases sm k a o <;> rfl
end Go.Ab
namespace Go.Ab
open Sn
noncomputable def rv (o a b : St) (id : ByteArray) (k : Int) : (Bool × S47) × Bool := vCh (vOf o.1 o.2 id k) (vOf a.1 a.2 id k) (vOf b.1 b.2 id k)
noncomputable def rC (o a b : St) (id : ByteArray) (k : Int) : List S72 := bif (rv o a b id k).2 then [] else [⟨id, k⟩]
noncomputable def rX (o a b : St) (id : ByteArray) : S47 := ⟨id, (rv o a b id 1).1.2.f1, (rv o a b id 1).1.2.f2, (rv o a b id 2).1.2.f3, (rv o a b id 1).1.2.f4, (rv o a b id 3).1.2.f5, (rv o a b id 4).1.2.f6⟩
noncomputable def rCs (o a b : St) (id : ByteArray) : Nat → List S72
  | 0 => []
  | n + 1 => rCs o a b id n ++ rC o a b id (n + 1)
theorem rv_is {o a b : St} (ho : IsN o.1 o.2) (ha : IsN a.1 a.2) (hb : IsN b.1 b.2) {id : ByteArray} {k : Int} (hk : 1 ≤ k ∧ k ≤ 4) : rv o a b id k = match ch k (loc o id) (loc a id) (loc b id) with | some _ => (vo id k (bif sm k (loc o id) (loc b id) || sm k (loc a id) (loc b id) then loc a id else loc b id), true) | none => (vo id k (loc o id), false) := by
  unfold rv
  rw [vOf_vo hk, vOf_vo hk, vOf_vo hk, vCh_ch hk (Gd.loc ho id) (Gd.loc ha id) (Gd.loc hb id)] <;> rfl
theorem rC_is {o a b : St} (ho : IsN o.1 o.2) (ha : IsN a.1 a.2) (hb : IsN b.1 b.2) {id : ByteArray} {k : Int} (hk : 1 ≤ k ∧ k ≤ 4) : rC o a b id k = cl1 k (loc o id) (loc a id) (loc b id) id := by
  unfold rC cl1
  rw [rv_is ho ha hb hk]
  cases ch k (loc o id) (loc a id) (loc b id) <;> rfl
theorem rv5 (o a b : St) (id : ByteArray) : rv o a b id 5 = ((cf (hasS o.1 id) (hasS a.1 id) (hasS b.1 id), z47), true) := by
  have hz : eqq z47 z47 = true := eqq_iff.2 rfl
  have h : ∀ s : St, vOf s.1 s.2 id 5 = (hasS s.1 id, z47) := fun s => by unfold vOf; rw [if_pos rfl]
  unfold rv vCh vSame
  rw [h, h, h]
  dsimp only
  rw [hz]
  generalize hasS o.1 id = x
  generalize hasS a.1 id = y
  generalize hasS b.1 id = z
  cases x <;> cases y <;> cases z <;> rfl
theorem rC5 (o a b : St) (id : ByteArray) : rC o a b id 5 = [] := by unfold rC; rw [rv5]; rfl
theorem rCs_is {o a b : St} (ho : IsN o.1 o.2) (ha : IsN a.1 a.2) (hb : IsN b.1 b.2) (id : ByteArray) : rCs o a b id 5 = clA (loc o id) (loc a id) (loc b id) id := by
  show ((((([] ++ rC o a b id 1) ++ rC o a b id 2) ++ rC o a b id 3) ++ rC o a b id 4) ++ rC o a b id 5) = _
  rw [rC5, rC_is ho ha hb (by decide), rC_is ho ha hb (by decide), rC_is ho ha hb (by decide), rC_is ho ha hb (by decide)]
  unfold clA
  simp only [List.nil_append, List.append_nil, List.append_assoc]
theorem rCl_is {o a b : St} (ho : IsN o.1 o.2) (ha : IsN a.1 a.2) (hb : IsN b.1 b.2) : (nm3 o a b).flatMap (fun id => rCs o a b id 5) = clL o a b := by
  unfold clL
  exact flatMap_congr' fun id _ => rCs_is ho ha hb id
theorem rF_is {o a b : St} : ((nm3 o a b).filter fun id => (rv o a b id 5).1.1) = (tgS o a b).1 := by
  show _ = (nm3 o a b).filter _
  refine List.filter_congr fun id _ => ?_
  rw [rv5]
  rfl
theorem rv_cmp {o a b : St} (ho : IsN o.1 o.2) (ha : IsN a.1 a.2) (hb : IsN b.1 b.2) {id : ByteArray} {k : Int} (hk : 1 ≤ k ∧ k ≤ 4) (h : cl1 k (loc o id) (loc a id) (loc b id) id = []) : ∃ c, rv o a b id k = (vo id k c, true) ∧ cmpn k c = cvl k (loc o id) (loc a id) (loc b id) := by
  obtain ⟨c, h1, h2⟩ := cl1_nil h
  rw [rv_is ho ha hb hk, h1, h2]
  refine ⟨_, rfl, ?_⟩
  unfold ch at h1
  rw [sm_comm k (loc o id) (loc b id)]
  cases e1 : sm k (loc b id) (loc o id) with
  | true => rw [e1] at h1; cases h1; rfl
  | false =>
    rw [e1] at h1
    cases e2 : sm k (loc a id) (loc o id) || sm k (loc a id) (loc b id) with
    | false => rw [e2] at h1; cases h1
    | true =>
      rw [e2] at h1
      cases h1
      cases e3 : sm k (loc a id) (loc b id) with
      | true => exact sm_iff.1 e3
      | false => rfl
theorem rX_is {o a b : St} (ho : IsN o.1 o.2) (ha : IsN a.1 a.2) (hb : IsN b.1 b.2) {id : ByteArray} (h : clA (loc o id) (loc a id) (loc b id) id = []) : (rv o a b id 1).1.1 = (tgt o a b id).1 ∧ ((tgt o a b id).1 = true → rX o a b id = (tgt o a b id).2.1) := by
  unfold clA at h
  obtain ⟨h1, h⟩ := List.append_eq_nil_iff.1 h
  obtain ⟨h2, h⟩ := List.append_eq_nil_iff.1 h
  obtain ⟨h3, h4⟩ := List.append_eq_nil_iff.1 h
  obtain ⟨c1, e1, f1⟩ := rv_cmp ho ha hb (by decide) h1
  obtain ⟨c2, e2, f2⟩ := rv_cmp ho ha hb (by decide) h2
  obtain ⟨c3, e3, f3⟩ := rv_cmp ho ha hb (by decide) h3
  obtain ⟨c4, e4, f4⟩ := rv_cmp ho ha hb (by decide) h4
  unfold rX tgt tg
  rw [e1, e2, e3, e4, ← f1, ← f2, ← f3, ← f4, cmpn_1, cmpn_2, cmpn_3, cmpn_4]
  have hg : (c1.1 || ((1 : Int) != 1)) = c1.1 := by cases c1.1 <;> rfl
  refine ⟨hg, fun ht => ?_⟩
  have ht : c1.1 = true := ht
  dsimp only
  rw [ht]
  rfl
theorem rI_is {o a b : St} (ho : IsN o.1 o.2) (ha : IsN a.1 a.2) (hb : IsN b.1 b.2) (h : clL o a b = []) : (((nm3 o a b).filter fun id => (rv o a b id 1).1.1).map (rX o a b)) = (tgS o a b).2 := by
  show _ = ((nm3 o a b).filter fun id => (tgt o a b id).1).map _
  have hc := fun id => rX_is ho ha hb (clA_of h id)
  rw [List.filter_congr (q := fun id => (tgt o a b id).1) fun id _ => (hc id).1]
  exact List.map_congr_left fun id hid => (hc id).2 (List.mem_filter.1 hid).2
theorem rCs_len (o a b : St) (id : ByteArray) : ∀ n, (rCs o a b id n).length ≤ n
  | 0 => Nat.le_refl _
  | n + 1 => by
    show (rCs o a b id n ++ rC o a b id (n + 1)).length ≤ n + 1
    have := rCs_len o a b id n
    have h : (rC o a b id (n + 1)).length ≤ 1 := by unfold rC; cases (rv o a b id (n + 1)).2 <;> simp
    rw [List.length_append]
    omega
theorem partOf_sz {x : S47} (h : Sz47 x) (k : Int) : Sz47 (partOf x k) := by
  have z : Sz47 (only x.f0) := ⟨⟨Nat.zero_le _, fun _ h => by cases h⟩, Nat.zero_le _, fun _ h => by cases h⟩
  unfold partOf
  split
  · exact z
  · split
    · exact z
    · split
      · exact ⟨h.1, z.2⟩
      · split
        · exact ⟨z.1, h.2⟩
        · exact z
theorem vOf_sz {s : St} (h : SzM s.1 s.2) (id : ByteArray) (k : Int) : Sz47 (vOf s.1 s.2 id k).2 := by
  unfold vOf
  split
  · exact ⟨⟨Nat.zero_le _, fun _ h => by cases h⟩, Nat.zero_le _, fun _ h => by cases h⟩
  · exact partOf_sz (x := ⟨id, _, _, _, _, (getI s.2 id).f5, (getI s.2 id).f6⟩) (h.getI id) k
noncomputable def pY (o a b : St) (id : ByteArray) : Nat → S47
  | 0 => only id
  | 1 => only id
  | 2 => ⟨id, (rv o a b id 1).1.2.f1, (rv o a b id 1).1.2.f2, false, (rv o a b id 1).1.2.f4, [], []⟩
  | 3 => ⟨id, (rv o a b id 1).1.2.f1, (rv o a b id 1).1.2.f2, (rv o a b id 2).1.2.f3, (rv o a b id 1).1.2.f4, [], []⟩
  | 4 => ⟨id, (rv o a b id 1).1.2.f1, (rv o a b id 1).1.2.f2, (rv o a b id 2).1.2.f3, (rv o a b id 1).1.2.f4, (rv o a b id 3).1.2.f5, []⟩
  | _ => rX o a b id
noncomputable def pT (o a b : St) (id : ByteArray) : Nat → Bool
  | 0 => false
  | 1 => false
  | _ => (rv o a b id 1).1.1
noncomputable def pF (o a b : St) (id : ByteArray) : Nat → List ByteArray
  | 6 => bif (rv o a b id 5).1.1 then [id] else []
  | _ => []
end Go.Ab
namespace Go.Ab
open Go.Proofs Sn
set_option maxRecDepth 100000
set_option linter.unnecessarySimpa false
set_option linter.unusedSimpArgs false
set_option linter.unusedVariables false
set_option maxHeartbeats 40000000
theorem placeJ_at {X : List S47} {i : Nat} {x : S47} (hn : (X.map S47.f0).Nodup) (hx : X[i]? = some x) : placeI X x.f0 = i := by
  obtain ⟨hi, e⟩ := List.getElem?_eq_some_iff.1 hx
  have : X.findIdx? (fun y => sEq y.f0 x.f0) = some i := by
    rw [List.findIdx?_eq_some_iff_getElem]
    refine ⟨hi, (sEq_iff _ _).2 (by rw [e]), fun j hj => ?_⟩
    rw [sEq_iff]
    intro h
    have hp := List.pairwise_iff_getElem.1 hn j i (by rw [List.length_map]; omega) (by rw [List.length_map]; omega) hj
    rw [List.getElem_map, List.getElem_map] at hp
    exact hp (h.trans (by rw [e]))
  unfold placeI
  rw [this]
theorem bel_preM {m : List S47} (hn : (m.map S47.f0).Nodup) : ∀ (k : Nat) (x : S47), bel m k x = pre S47.f0 S47.f2 ordID nIt m (k + 1) x := by
  intro k
  induction k with
  | zero =>
    intro x
    show [nIt x] = nIt x :: (ordID (kidsOf S47.f2 m x.f0)).flatMap fun _ => []
    congr 1
    induction ordID (kidsOf S47.f2 m x.f0) with
    | nil => rfl
    | cons a l ih => rw [List.flatMap_cons, ← ih]; rfl
  | succ k ih =>
    intro x
    rw [belS, kidIds_of]
    show _ = nIt x :: (ordID (kidsOf S47.f2 m x.f0)).flatMap (pre S47.f0 S47.f2 ordID nIt m (k + 1))
    congr 1
    rw [← sortL_map (c := cmpS) (key := S47.f0), List.flatMap_map]
    refine flatMap_congr' (fun y hy => ?_)
    have hy : y ∈ ordID (kidsOf S47.f2 m x.f0) := hy
    rw [mem_ord isOrd_ID, mem_kidsOf] at hy
    obtain ⟨i, hi, e, ep⟩ := place_mem hn hy.1
    rw [ep, Int.toNat_natCast, e]
    exact ih y
def RtOk (xs : List S47) (i : Nat) (t : Int) : Prop := (t = -1 ∧ ∀ j x, j < i → xs[j]? = some x → x.f2 ≠ ByteArray.empty) ∨ ∃ (k : Nat) (r : S47), t = k ∧ k < i ∧ xs[k]? = some r ∧ r.f2 = ByteArray.empty ∧ ∀ j x, j < i → xs[j]? = some x → x.f2 = ByteArray.empty → j = k
theorem c101g {fs : List ByteArray} {xs : List S47} (h : Nice (fs, xs)) (hf : fs.length ≤ 1024) (hm : xs.length ≤ 1024) : PCall cx.P 101 [.row 1 (fs.map encT), .row 7 (xs.map enc47)] (.tup [encM ((ordO (fs, xs)).getD ([], [])).1 ((ordO (fs, xs)).getD ([], [])).2, .bool (ordO (fs, xs)).isSome]) := pcall3 Tryz.f101 (by kernel_rfl) (by kernel_rfl) <| by
  have hn : (xs.map S47.f0).Nodup := h.xn
  have h81 := c81 fs (by omega)
  have hE : (xs.map enc47).length = xs.length := List.length_map _
  have h45 := fun {j : Nat} {x : S47} (hx : xs[j]? = some x) => show PCall cx.P 45 [encM fs xs, .str x.f0] (.int .i64 (j : Int)) from (placeJ_at hn hx) ▸ c45 fs xs x.f0 (by omega)
  have no : ordO (fs, xs) = none → Le (.tup [.agg [.nils, .nils], .lit false]) (.tup [.agg [.row 1 (((ordO (fs, xs)).getD ([], [])).1.map encT), .row 7 (((ordO (fs, xs)).getD ([], [])).2.map enc47)], .bool (ordO (fs, xs)).isSome]) := fun hn => by
    rw [hn]
    exact .tup2 (.agg2 .nils .nils) (.lit rfl)
  have hz : SzM fs xs := ⟨by omega, by omega, fun x hx => by
    have hy := h.nm x hx
    exact ⟨⟨Nat.le_trans hy.2.1.1 (by decide), fun x hx => ⟨Nat.le_trans (hy.2.1.2 x hx).1 (by decide), Nat.le_trans (hy.2.1.2 x hx).2 (by decide)⟩⟩, Nat.le_trans hy.2.2.1 (by decide), fun x hx => ⟨Nat.le_trans (hy.2.2.2 x hx).1 (by decide), Nat.le_trans (hy.2.2.2 x hx).2 (by decide)⟩⟩⟩
  have h82 := fun {k : Nat} {r : S47} (hk : xs[k]? = some r) (he : r.f2 = ByteArray.empty) (hl : xs.length ≤ 16) => show PCall cx.P 82 [encM fs xs, .int .i64 k, .int .i64 0] (.row 7 ((preN xs r).map enc47)) from by
    have hr : r ∈ xs := List.mem_of_getElem? hk
    have hR := h.rooted hr he
    have := c82r fs xs hz (fun x => ∃ d, Anc S47.f0 S47.f2 xs r x d) (fun x hx hd id q hid hq => by
      rw [kidIds_of] at hid
      obtain ⟨y, hy, rfl⟩ := List.mem_map.1 hid
      rw [mem_kidsOf] at hy
      obtain ⟨i, hi, e, ep⟩ := place_mem hn hy.1
      rw [ep] at hq
      rw [← Int.ofNat.inj hq, e]
      obtain ⟨d, hd⟩ := hd
      exact ⟨1 + d, Anc.trans (m := 1) ⟨x, hx, hy.2.symm, rfl⟩ hd⟩) (fun k x hx hd => by
      obtain ⟨d, hd⟩ := hd
      rw [bel_preM hn]
      exact Nat.le_trans (pre_lenR hR isOrd_ID (f := nIt) (fun _ => rfl) (k + 1) hx hd) (by show xs.length ≤ _; omega)) 20 0 k r rfl hk ⟨0, rfl⟩
    rw [bel_preM hn, show (20 : Nat) + 1 = 16 + 5 from rfl, pre17 hR hl isOrd_ID (f := nIt) 5] at this
    exact this
  have hS := fun (k : Nat) (r : S47) (hr : r ∈ xs) (hl : (preN xs r).length = xs.length) => show SzM (sortL cmpS fs) (preN xs r) from ⟨by rw [sortL_length]; omega, by omega, fun x hx => by
    obtain ⟨y, n, e, hy, _⟩ := (mem_pre isOrd_ID hr).1 hx
    have hy := h.nm y hy
    rw [e, hy.1]
    exact ⟨⟨Nat.le_trans hy.2.1.1 (by decide), fun x hx => ⟨Nat.le_trans (hy.2.1.2 x hx).1 (by decide), Nat.le_trans (hy.2.1.2 x hx).2 (by decide)⟩⟩, Nat.le_trans hy.2.2.1 (by decide), fun x hx => ⟨Nat.le_trans (hy.2.2.2 x hx).1 (by decide), Nat.le_trans (hy.2.2.2 x hx).2 (by decide)⟩⟩⟩
  unfold encM at h45 h82 ⊢
  conv => whnf
  refine .inr (.inl ⟨[0, 1, 4, 6, 7, 8], Nat × Int, fun x => ([(0, .row 1 (fs.map encT)), (1, .row 7 (xs.map enc47)), (4, .bptr 272 0), (6, .bptr 400 0), (7, .int .i64 x.2), (8, .int .i64 x.1)], [(400, .live (.box [.row 1 (fs.map encT), .row 7 (xs.map enc47)])), (272, .live (.box [.nils, .nils]))]), fun x => x.1 ≤ xs.length ∧ RtOk xs x.1 x.2, fun x => xs.length - x.1, ?_, ?_⟩)
  · conv => whnf
    exact ⟨(0, -1), .of rfl, Nat.zero_le _, .inl ⟨rfl, fun j x hj => by omega⟩⟩
  rintro ⟨i, t⟩ ⟨hi, ht⟩
  dsimp only at hi ht
  dsimp only
  have ht1 : -1 ≤ t ∧ t < 2000 := by
    rcases ht with ⟨e, _⟩ | ⟨k, r, e, hk, _⟩ <;> omega
  conv => whnf
  refine ⟨fun w1 => ?_, fun w1 => ?_⟩
  · have w1 : i < xs.length := by have := of_decide_eq_true w1; omega
    obtain ⟨x, hx⟩ := at_ex w1
    have h45 := h45 hx
    conv => whnf
    refine ⟨⟨Int.natCast_nonneg _, by omega⟩, ?_⟩
    conv => whnf
    conv => whnf
    refine ⟨_, map_at hx, ?_⟩
    conv => whnf
    conv => whnf
    refine ⟨_, h45, ?_⟩
    conv => whnf
    conv => whnf
    refine ⟨fun w2 => ?_, fun w2 => ?_⟩
    · exact absurd rfl (ne_of_bne w2)
    conv => whnf
    refine ⟨⟨Int.natCast_nonneg _, by omega⟩, ?_⟩
    conv => whnf
    conv => whnf
    refine ⟨_, map_at hx, ?_⟩
    conv => whnf
    conv => whnf
    refine ⟨fun w3 => ?_, fun w3 => ?_⟩
    · have h3 : x.f2 = ByteArray.empty := (sEq_iff _ _).1 w3
      conv => whnf
      refine ⟨by kernel_rfl, ?_⟩
      conv => whnf
      conv => whnf
      refine ⟨fun w4 => ?_, fun w4 => ?_⟩
      · have w4 := of_decide_eq_true w4
        conv => whnf
        refine no ?_
        rcases ht with ⟨e, _⟩ | ⟨k, r, e, hk, hr, he, _⟩
        · omega
        · refine two_roots (s := (fs, xs)) (List.mem_of_getElem? hr) (List.mem_of_getElem? hx) he h3 fun hrx => ?_
          have h1 := placeJ_at hn hr
          have h2 := placeJ_at hn hx
          rw [hrx, h2] at h1
          omega
      have w4 := of_decide_eq_false w4
      conv => whnf
      refine ⟨⟨Int.natCast_nonneg _, by omega⟩, ?_⟩
      conv => whnf
      conv => whnf
      refine ⟨_, map_at hx, ?_⟩
      conv => whnf
      conv => whnf
      refine ⟨fun w5 => ?_, fun w5 => ?_⟩
      rotate_left
      · rw [w3] at w5; cases w5
      conv => whnf
      refine ⟨(i + 1, (i : Int)), ?_, ⟨w1, .inr ⟨i, x, rfl, Nat.lt_succ_self _, hx, h3, fun j y hj hy hy2 => ?_⟩⟩, by show xs.length - (i + 1) < xs.length - i; omega⟩
      · dsimp only
        rw [up1 w1 (by omega)]
        exact .of rfl
      · rcases ht with ⟨e, ht⟩ | ⟨k, r, e, hk, hr, he, _⟩
        · exact Classical.byContradiction fun hne => ht j y (by omega) hy hy2
        · omega
    · have h3 : x.f2 ≠ ByteArray.empty := fun e => by
        have := (sEq_iff x.f2 ⟨#[]⟩).2 e
        rw [w3] at this
        cases this
      conv => whnf
      refine ⟨by kernel_rfl, ?_⟩
      conv => whnf
      conv => whnf
      refine ⟨⟨Int.natCast_nonneg _, by omega⟩, ?_⟩
      conv => whnf
      conv => whnf
      refine ⟨_, map_at hx, ?_⟩
      conv => whnf
      conv => whnf
      refine ⟨fun w5 => ?_, fun w5 => ?_⟩
      · rw [w3] at w5; cases w5
      conv => whnf
      refine ⟨(i + 1, t), ?_, ⟨w1, ?_⟩, by show xs.length - (i + 1) < xs.length - i; omega⟩
      · dsimp only
        rw [up1 w1 (by omega)]
        exact .of rfl
      · rcases ht with ⟨e, ht⟩ | ⟨k, r, e, hk, hr, he, ht⟩
        · refine .inl ⟨e, fun j y hj hy => ?_⟩
          by_cases hji : j = i
          · rw [hji, hx] at hy; cases hy; exact h3
          · exact ht j y (by omega) hy
        · refine .inr ⟨k, r, e, by omega, hr, he, fun j y hj hy hy2 => ?_⟩
          by_cases hji : j = i
          · rw [hji, hx] at hy; cases hy; exact absurd hy2 h3
          · exact ht j y (by omega) hy hy2
  · have w1 : i = xs.length := by have := of_decide_eq_false w1; omega
    conv => whnf
    refine ⟨fun w2 => ?_, fun w2 => ?_⟩
    · have w2 := of_decide_eq_true w2
      conv => whnf
      refine no (ord_no_root fun x hx => ?_)
      obtain ⟨j, hj⟩ := List.getElem?_of_mem hx
      have hjl : j < xs.length := (List.getElem?_eq_some_iff.1 hj).1
      rcases ht with ⟨_, ht⟩ | ⟨k, _, e, _⟩
      · exact ht j x (by omega) hj
      · omega
    have w2 := of_decide_eq_false w2
    conv => whnf
    refine ⟨fun w3 => ?_, fun w3 => ?_⟩
    · have w3 := of_decide_eq_true w3
      conv => whnf
      exact no (ord_long (s := (fs, xs)) (by show 16 < xs.length; omega))
    have w3 := of_decide_eq_false w3
    have hl16 : xs.length ≤ 16 := by omega
    obtain ⟨k, r, e, _, hk, he, _⟩ : ∃ (k : Nat) (r : S47), t = k ∧ k < i ∧ xs[k]? = some r ∧ r.f2 = ByteArray.empty ∧ True := by
      rcases ht with ⟨e, _⟩ | ⟨k, r, h1, h2, h3, h4, _⟩
      · omega
      · exact ⟨k, r, h1, h2, h3, h4, trivial⟩
    have hr : r ∈ xs := List.mem_of_getElem? hk
    have h82 := h82 hk he hl16
    rw [← e] at h82
    have hB' : ((preN xs r).map enc47).length = (preN xs r).length := List.length_map _
    conv => whnf
    refine ⟨_, h81, ?_⟩
    conv => whnf
    conv => whnf
    refine ⟨_, h82, ?_⟩
    conv => whnf
    conv => whnf
    refine ⟨by kernel_rfl, ?_⟩
    conv => whnf
    conv => whnf
    refine ⟨fun w4 => ?_, fun w4 => ?_⟩
    · conv => whnf
      refine no (ord_no_reach' h hr he fun hl => ?_)
      have hl : (preN xs r).length = xs.length := hl
      exact absurd (congrArg (fun n : Nat => (n : Int)) (hB'.trans (hl.trans hE.symm))) (ne_of_bne w4)
    have hl : (preN xs r).length = xs.length := by
      have := eq_of_bne w4
      omega
    have h34 := c34 (sortL cmpS fs) (preN xs r) (hS k r hr hl)
    have hlast := ord_last h hr he hl16 hl
    unfold encM at h34
    refine Or.elim (Bool.eq_false_or_eq_true (isB (sortL cmpS fs) (preN xs r))) (fun hb => ?_) fun hb => ?_
    · rw [hb] at h34 hlast
      rw [hlast]
      replace h34 := h34.to (.blit rfl)
      conv => whnf
      refine ⟨_, h34, ?_⟩
      conv => whnf
      conv => whnf
      exact .tup2 .refl (.lit rfl)
    · rw [hb] at h34 hlast
      replace h34 := h34.to (.blit rfl)
      conv => whnf
      refine ⟨_, h34, ?_⟩
      conv => whnf
      conv => whnf
      exact no hlast
end Go.Ab
namespace Go.Ab
open Go.Proofs Sn
set_option maxRecDepth 100000
set_option linter.unnecessarySimpa false
set_option linter.unusedSimpArgs false
set_option linter.unusedVariables false
set_option maxHeartbeats 40000000
theorem box0 {id : ByteArray} : LeB (.box [.str id, .int .i64 0, .str ⟨#[]⟩, .lit false, .int .i64 0, .nils, .nils]) (.box (enc47 (only id))) := .box _ _ rfl fun j x y hx hy => by
  match j with
  | 0 => cases hx; cases hy; exact .refl
  | 1 => cases hx; cases hy; exact .refl
  | 2 => cases hx; cases hy; exact .refl
  | 3 => cases hx; cases hy; exact .lit rfl
  | 4 => cases hx; cases hy; exact .refl
  | 5 => cases hx; cases hy; exact .nils
  | 6 => cases hx; cases hy; exact .nils
  | j + 7 => simp at hx
theorem flt1 {p : ByteArray → Bool} {l : List ByteArray} {id : ByteArray} : (l ++ [id]).filter p = l.filter p ++ bif p id then [id] else [] := by
  rw [List.filter_append]
  cases h : p id <;> simp [h]
theorem key53 (o a b : St) (ho : SzM o.1 o.2) (ha : SzM a.1 a.2) (hb : SzM b.1 b.2) (so : o.1.length ≤ 1048576 ∧ o.2.length ≤ 1048576) (sa : a.1.length ≤ 1048576 ∧ a.2.length ≤ 1048576) (sb : b.1.length ≤ 1048576 ∧ b.2.length ≤ 1048576) (id : ByteArray) (k : Int) : ∃ (u v w : Bool × S47), PCall cx.P 100 [encM o.1 o.2, .str id, .int .i64 k] (.agg (encV u)) ∧ PCall cx.P 100 [encM a.1 a.2, .str id, .int .i64 k] (.agg (encV v)) ∧ PCall cx.P 100 [encM b.1 b.2, .str id, .int .i64 k] (.agg (encV w)) ∧ PCall cx.P 99 [.agg (encV u), .agg (encV v), .agg (encV w)] (.tup [.agg (encV (rv o a b id k).1), .bool (rv o a b id k).2]) :=
  ⟨vOf o.1 o.2 id k, vOf a.1 a.2 id k, vOf b.1 b.2 id k, c100 o.1 o.2 id k so.1 so.2, c100 a.1 a.2 id k sa.1 sa.2, c100 b.1 b.2 id k sb.1 sb.2, c99 _ _ _ (vOf_sz ho id k) (vOf_sz ha id k) (vOf_sz hb id k)⟩
theorem rC_no {o a b : St} {id : ByteArray} {k : Int} (h : (rv o a b id k).2 = true) : rC o a b id k = [] := by unfold rC; rw [h]; rfl
theorem rC_yes {o a b : St} {id : ByteArray} {k : Int} (h : (rv o a b id k).2 = false) : rC o a b id k = [⟨id, k⟩] := by unfold rC; rw [h]; rfl
theorem c53 (o a b : St) (ho : SzM o.1 o.2) (ha : SzM a.1 a.2) (hb : SzM b.1 b.2) : PCall cx.P 53 [encM o.1 o.2, encM a.1 a.2, encM b.1 b.2] (.tup [encM (mgS o a b).1.1 (mgS o a b).1.2, .row 2 ((mgS o a b).2.1.map enc72), .int .i64 (mgS o a b).2.2]) := pcall3 Tryz.f53 (by kernel_rfl) (by kernel_rfl) <| by
  have h1 := c31 _ _ ho
  have h2 := c31 _ _ ha
  have h3 := c31 _ _ hb
  unfold encM at h1 h2 h3 ⊢
  have bad : ¬ (IsN o.1 o.2 ∧ IsN a.1 a.2 ∧ IsN b.1 b.2) → Le (.tup [.agg [.nils, .nils], .nils, .int .i64 7]) (.tup [.agg [.row 1 ((mgS o a b).1.1.map encT), .row 7 ((mgS o a b).1.2.map enc47)], .row 2 ((mgS o a b).2.1.map enc72), .int .i64 (mgS o a b).2.2]) := fun hn => by
    rw [mg_no hn]
    exact .tup3 (.agg2 .nils .nils) .nils .refl
  have dn : IsN o.1 o.2 ∧ IsN a.1 a.2 ∧ IsN b.1 b.2 ∨ ¬ (IsN o.1 o.2 ∧ IsN a.1 a.2 ∧ IsN b.1 b.2) := Classical.em _
  refine Or.elim dn (fun hn => ?_) fun hn => ?_
  rotate_left
  · conv => whnf
    refine ⟨_, h1, ?_⟩
    conv => whnf
    conv => whnf
    refine ⟨fun w1 => ?_, fun w1 => ?_⟩
    · conv => whnf
      exact bad hn
    conv => whnf
    refine ⟨_, h2, ?_⟩
    conv => whnf
    conv => whnf
    refine ⟨fun w2 => ?_, fun w2 => ?_⟩
    · conv => whnf
      exact bad hn
    conv => whnf
    refine ⟨_, h3, ?_⟩
    conv => whnf
    conv => whnf
    refine ⟨fun w3 => ?_, fun w3 => ?_⟩
    · conv => whnf
      exact bad hn
    · exact absurd ⟨bP_iff.1 (by simpa using w1), bP_iff.1 (by simpa using w2), bP_iff.1 (by simpa using w3)⟩ hn
  obtain ⟨no, na, nb⟩ := hn
  replace h1 := h1.to (.blit (bP_iff.2 no))
  replace h2 := h2.to (.blit (bP_iff.2 na))
  replace h3 := h3.to (.blit (bP_iff.2 nb))
  have so := isN_sz no
  have sa := isN_sz na
  have sb := isN_sz nb
  have hN := nm3_len no na nb
  have h95 : PCall cx.P 95 [.row 2 (([o, a, b] : List St).map encP)] (.row 1 ((nm3 o a b).map encT)) := c95 [o, a, b] (by show 3 ≤ 8; decide) fun m hm => by
    simp only [List.mem_cons, List.not_mem_nil, or_false] at hm
    rcases hm with rfl | rfl | rfl <;> omega
  have hNe : ((nm3 o a b).map encT).length = (nm3 o a b).length := List.length_map _
  obtain ⟨N, hNN⟩ : ∃ N, N = nm3 o a b := ⟨_, rfl⟩
  rw [← hNN] at hN hNe h95
  conv => whnf
  refine ⟨_, h1, ?_⟩
  conv => whnf
  conv => whnf
  refine ⟨_, h2, ?_⟩
  conv => whnf
  conv => whnf
  refine ⟨_, h3, ?_⟩
  conv => whnf
  refine ⟨rfl, ?_⟩
  conv => whnf
  conv => whnf
  refine ⟨_, h95, ?_⟩
  conv => whnf
  conv => whnf
  refine .inr (.inl ⟨[3, 4, 5, 6, 9, 10, 11, 12, 13], Nat × List S72 × List ByteArray × List S47, fun x => ([(3, .bptr 208 0), (4, .bptr 272 0), (5, .bptr 336 0), (6, .bptr 400 0), (9, .own 2 592 0 (x.2.1.map enc72).length .opn), (10, .own 1 656 0 (x.2.2.1.map encT).length .opn), (11, .own 7 720 0 (x.2.2.2.map enc47).length .opn), (12, .row 1 (N.map encT)), (13, .int .i64 x.1)],
      [(720, .live (.arr 7 (x.2.2.2.map enc47))), (656, .live (.arr 1 (x.2.2.1.map encT))), (592, .live (.arr 2 (x.2.1.map enc72))), (400, .live (.box [.nils, .nils])), (336, .live (.box [.row 1 (b.1.map encT), .row 7 (b.2.map enc47)])), (272, .live (.box [.row 1 (a.1.map encT), .row 7 (a.2.map enc47)])), (208, .live (.box [.row 1 (o.1.map encT), .row 7 (o.2.map enc47)]))]), fun x => x.1 ≤ N.length ∧ x.2.1 = (N.take x.1).flatMap (fun id => rCs o a b id 5) ∧ x.2.2.1 = (N.take x.1).filter (fun id => (rv o a b id 5).1.1) ∧ x.2.2.2 = ((N.take x.1).filter (fun id => (rv o a b id 1).1.1)).map (rX o a b), fun x => N.length - x.1, ?_, ?_⟩)
  · conv => whnf
    refine ⟨(0, [], [], []), ?_, Nat.zero_le _, rfl, rfl, rfl⟩
    dsimp only
    exact .trans (.nil (s := 2) (k := 592) rfl rfl (.same <| .same <| .same <| .same <| .chg <| .same <| .same <| .same <| .same .nil) .here) (.trans (.nil (s := 1) (k := 656) rfl rfl (.same <| .same <| .same <| .same <| .same <| .chg <| .same <| .same <| .same .nil) .here) (.nil (s := 7) (k := 720) rfl rfl (.same <| .same <| .same <| .same <| .same <| .same <| .chg <| .same <| .same .nil) .here))
  rintro ⟨j, C, F, I⟩ ⟨hj, hC, hF, hI⟩
  dsimp only at hj hC hF hI
  have hCl : C.length ≤ 512 := by
    rw [hC]
    refine Nat.le_trans (flen (fun x => rCs_len o a b x 5) _) ?_
    rw [List.length_take]
    omega
  have hFl : F.length ≤ 512 := by
    rw [hF]
    refine Nat.le_trans (List.length_filter_le _ _) ?_
    rw [List.length_take]
    omega
  have hIl : I.length ≤ 512 := by
    rw [hI, List.length_map]
    refine Nat.le_trans (List.length_filter_le _ _) ?_
    rw [List.length_take]
    omega
  have hCe : (C.map enc72).length = C.length := List.length_map _
  have hFe : (F.map encT).length = F.length := List.length_map _
  have hIe : (I.map enc47).length = I.length := List.length_map _
  dsimp only
  conv => whnf
  refine ⟨fun w1 => ?_, fun w1 => ?_⟩
  · have w1 : j < N.length := ltm w1
    refine Exists.elim (at_ex w1) fun id hid => ?_
    conv => whnf
    refine ⟨⟨Int.natCast_nonneg _, by omega⟩, ?_⟩
    conv => whnf
    conv => whnf
    refine ⟨_, map_at hid, ?_⟩
    conv => whnf
    conv => whnf
    have hrl : ∀ n, (rCs o a b id n).length ≤ n := rCs_len o a b id
    have key := key53 o a b ho ha hb (by omega) (by omega) (by omega) id
    unfold encM at key
    refine .inr (.inl ⟨[3, 4, 5, 6, 9, 10, 11, 12, 13, 14, 15, 16], Nat × S47 × Bool × List S72 × List ByteArray, fun x => ([(3, .bptr 208 0), (4, .bptr 272 0), (5, .bptr 336 0), (6, .bptr 400 0), (9, .own 2 592 0 (x.2.2.2.1.map enc72).length .opn), (10, .own 1 656 0 (x.2.2.2.2.map encT).length .opn), (11, .own 7 720 0 (I.map enc47).length .opn), (12, .row 1 (N.map encT)), (13, .int .i64 j), (14, .bptr 912 0), (15, .bool x.2.2.1), (16, .int .i64 x.1)],
      [(912, .live (.box (enc47 x.2.1))), (720, .live (.arr 7 (I.map enc47))), (656, .live (.arr 1 (x.2.2.2.2.map encT))), (592, .live (.arr 2 (x.2.2.2.1.map enc72))), (400, .live (.box [.nils, .nils])), (336, .live (.box [.row 1 (b.1.map encT), .row 7 (b.2.map enc47)])), (272, .live (.box [.row 1 (a.1.map encT), .row 7 (a.2.map enc47)])), (208, .live (.box [.row 1 (o.1.map encT), .row 7 (o.2.map enc47)]))]), fun x => (1 ≤ x.1 ∧ x.1 ≤ 6) ∧ x.2.1 = pY o a b id x.1 ∧ x.2.2.1 = pT o a b id x.1 ∧ x.2.2.2.1 = C ++ rCs o a b id (x.1 - 1) ∧ x.2.2.2.2 = F ++ pF o a b id x.1, fun x => 6 - x.1, ?_, ?_⟩)
    · conv => whnf
      refine ⟨(1, only id, false, C, F), ?_, ⟨Nat.le_refl _, by show 1 ≤ 6; decide⟩, rfl, rfl, (List.append_nil _).symm, (List.append_nil _).symm⟩
      dsimp only
      exact .le (.cons _ _ _ _ _ .refl <| .cons _ _ _ _ _ .refl <| .cons _ _ _ _ _ .refl <| .cons _ _ _ _ _ .refl <| .cons _ _ _ _ _ .refl <| .cons _ _ _ _ _ .refl <| .cons _ _ _ _ _ .refl <| .cons _ _ _ _ _ .refl <| .cons _ _ _ _ _ .refl <| .cons _ _ _ _ _ .refl <| .cons _ _ _ _ _ (.lit rfl) <| .refl _) (.cons _ _ _ _ _ box0 (.refl _))
    rintro ⟨n, Y, tb, C', F'⟩ ⟨⟨hn1, hn6⟩, hY, hT, hC', hF'⟩
    dsimp only at hn1 hn6 hY hT hC' hF'
    have hCl' : C'.length ≤ 520 := by rw [hC', List.length_append]; have := hrl (n - 1); omega
    have hFl' : F'.length ≤ 520 := by
      rw [hF', List.length_append]
      have : (pF o a b id n).length ≤ 1 := by unfold pF; split <;> first | (cases (rv o a b id 5).1.1 <;> simp) | simp
      omega
    have hCe' : (C'.map enc72).length = C'.length := List.length_map _
    have hFe' : (F'.map encT).length = F'.length := List.length_map _
    dsimp only
    have hii : n = 1 ∨ n = 2 ∨ n = 3 ∨ n = 4 ∨ n = 5 ∨ n = 6 := by omega
    rcases hii with rfl | rfl | rfl | rfl | rfl | rfl <;> subst hY <;> subst hT
    · refine Exists.elim (key 1) fun u hu => Exists.elim hu fun v hv => Exists.elim hv fun w hq => ?_
      have q1 := hq.1
      have q2 := hq.2.1
      have q3 := hq.2.2.1
      have q4 := hq.2.2.2
      refine Or.elim (Bool.eq_false_or_eq_true (rv o a b id 1).2) (fun hok => ?_) fun hok => ?_
      · replace q4 := q4.to (.tup2 .refl (.blit hok))
        conv => whnf
        refine ⟨fun w2 => ?_, fun w2 => ?_⟩
        rotate_left
        · exact absurd w2 (by decide)
        conv => whnf
        refine ⟨⟨Int.natCast_nonneg _, by omega⟩, ?_⟩
        conv => whnf
        conv => whnf
        refine ⟨_, map_at hid, ?_⟩
        conv => whnf
        conv => whnf
        refine ⟨_, q1, ?_⟩
        conv => whnf
        conv => whnf
        refine ⟨⟨Int.natCast_nonneg _, by omega⟩, ?_⟩
        conv => whnf
        conv => whnf
        refine ⟨_, map_at hid, ?_⟩
        conv => whnf
        conv => whnf
        refine ⟨_, q2, ?_⟩
        conv => whnf
        conv => whnf
        refine ⟨⟨Int.natCast_nonneg _, by omega⟩, ?_⟩
        conv => whnf
        conv => whnf
        refine ⟨_, map_at hid, ?_⟩
        conv => whnf
        conv => whnf
        refine ⟨_, q3, ?_⟩
        conv => whnf
        conv => whnf
        refine ⟨_, q4, ?_⟩
        conv => whnf
        conv => whnf
        refine ⟨by kernel_rfl, ?_⟩
        conv => whnf
        conv => whnf
        refine ⟨fun v1 => ?_, fun v1 => ?_⟩
        rotate_left
        · exact absurd v1 (by decide)
        conv => whnf
        refine ⟨by kernel_rfl, ?_⟩
        conv => whnf
        conv => whnf
        refine ⟨(2, pY o a b id 2, pT o a b id 2, C', F'), ?_, ⟨⟨by show 1 ≤ 2; decide, by show 2 ≤ 6; decide⟩, rfl, rfl, by show C' = C ++ (rCs o a b id 0 ++ rC o a b id 1); rw [rC_no hok, List.append_nil]; exact hC', hF'⟩, by show 6 - 2 < 6 - 1; decide⟩
        dsimp only
        exact .of rfl
      · replace q4 := q4.to (.tup2 .refl (.blit hok))
        conv => whnf
        refine ⟨fun w2 => ?_, fun w2 => ?_⟩
        rotate_left
        · exact absurd w2 (by decide)
        conv => whnf
        refine ⟨⟨Int.natCast_nonneg _, by omega⟩, ?_⟩
        conv => whnf
        conv => whnf
        refine ⟨_, map_at hid, ?_⟩
        conv => whnf
        conv => whnf
        refine ⟨_, q1, ?_⟩
        conv => whnf
        conv => whnf
        refine ⟨⟨Int.natCast_nonneg _, by omega⟩, ?_⟩
        conv => whnf
        conv => whnf
        refine ⟨_, map_at hid, ?_⟩
        conv => whnf
        conv => whnf
        refine ⟨_, q2, ?_⟩
        conv => whnf
        conv => whnf
        refine ⟨⟨Int.natCast_nonneg _, by omega⟩, ?_⟩
        conv => whnf
        conv => whnf
        refine ⟨_, map_at hid, ?_⟩
        conv => whnf
        conv => whnf
        refine ⟨_, q3, ?_⟩
        conv => whnf
        conv => whnf
        refine ⟨_, q4, ?_⟩
        conv => whnf
        conv => whnf
        refine ⟨by kernel_rfl, ?_⟩
        conv => whnf
        conv => whnf
        refine ⟨⟨Int.natCast_nonneg _, by omega⟩, ?_⟩
        conv => whnf
        conv => whnf
        refine ⟨_, map_at hid, ?_⟩
        conv => whnf
        conv => whnf
        refine ⟨rfl, ?_⟩
        conv => whnf
        conv => whnf
        refine ⟨⟨Nat.zero_add _, by show (_ + 1) * 24 ≤ 2 ^ 47; omega⟩, ?_⟩
        conv => whnf
        conv => whnf
        refine ⟨fun v1 => ?_, fun v1 => ?_⟩
        rotate_left
        · exact absurd v1 (by decide)
        conv => whnf
        refine ⟨by kernel_rfl, ?_⟩
        conv => whnf
        conv => whnf
        refine ⟨(2, pY o a b id 2, pT o a b id 2, C' ++ [⟨id, 1⟩], F'), ?_, ⟨⟨by show 1 ≤ 2; decide, by show 2 ≤ 6; decide⟩, rfl, rfl, by show C' ++ [⟨id, 1⟩] = C ++ (rCs o a b id 0 ++ rC o a b id 1); rw [rC_yes hok, ← List.append_assoc]; exact congrArg (· ++ [(⟨id, 1⟩ : S72)]) hC', hF'⟩, by show 6 - 2 < 6 - 1; decide⟩
        dsimp only
        rw [List.map_append, List.length_append]
        exact .of rfl
    · refine Exists.elim (key 2) fun u hu => Exists.elim hu fun v hv => Exists.elim hv fun w hq => ?_
      have q1 := hq.1
      have q2 := hq.2.1
      have q3 := hq.2.2.1
      have q4 := hq.2.2.2
      refine Or.elim (Bool.eq_false_or_eq_true (rv o a b id 2).2) (fun hok => ?_) fun hok => ?_
      · replace q4 := q4.to (.tup2 .refl (.blit hok))
        conv => whnf
        refine ⟨fun w2 => ?_, fun w2 => ?_⟩
        rotate_left
        · exact absurd w2 (by decide)
        conv => whnf
        refine ⟨⟨Int.natCast_nonneg _, by omega⟩, ?_⟩
        conv => whnf
        conv => whnf
        refine ⟨_, map_at hid, ?_⟩
        conv => whnf
        conv => whnf
        refine ⟨_, q1, ?_⟩
        conv => whnf
        conv => whnf
        refine ⟨⟨Int.natCast_nonneg _, by omega⟩, ?_⟩
        conv => whnf
        conv => whnf
        refine ⟨_, map_at hid, ?_⟩
        conv => whnf
        conv => whnf
        refine ⟨_, q2, ?_⟩
        conv => whnf
        conv => whnf
        refine ⟨⟨Int.natCast_nonneg _, by omega⟩, ?_⟩
        conv => whnf
        conv => whnf
        refine ⟨_, map_at hid, ?_⟩
        conv => whnf
        conv => whnf
        refine ⟨_, q3, ?_⟩
        conv => whnf
        conv => whnf
        refine ⟨_, q4, ?_⟩
        conv => whnf
        conv => whnf
        refine ⟨by kernel_rfl, ?_⟩
        conv => whnf
        conv => whnf
        refine ⟨fun v1 => ?_, fun v1 => ?_⟩
        · exact absurd v1 (by decide)
        conv => whnf
        refine ⟨fun v2 => ?_, fun v2 => ?_⟩
        rotate_left
        · exact absurd v2 (by decide)
        conv => whnf
        refine ⟨(3, pY o a b id 3, pT o a b id 3, C', F'), ?_, ⟨⟨by show 1 ≤ 3; decide, by show 3 ≤ 6; decide⟩, rfl, rfl, by show C' = C ++ (rCs o a b id 1 ++ rC o a b id 2); rw [rC_no hok, List.append_nil]; exact hC', hF'⟩, by show 6 - 3 < 6 - 2; decide⟩
        dsimp only
        exact .of rfl
      · replace q4 := q4.to (.tup2 .refl (.blit hok))
        conv => whnf
        refine ⟨fun w2 => ?_, fun w2 => ?_⟩
        rotate_left
        · exact absurd w2 (by decide)
        conv => whnf
        refine ⟨⟨Int.natCast_nonneg _, by omega⟩, ?_⟩
        conv => whnf
        conv => whnf
        refine ⟨_, map_at hid, ?_⟩
        conv => whnf
        conv => whnf
        refine ⟨_, q1, ?_⟩
        conv => whnf
        conv => whnf
        refine ⟨⟨Int.natCast_nonneg _, by omega⟩, ?_⟩
        conv => whnf
        conv => whnf
        refine ⟨_, map_at hid, ?_⟩
        conv => whnf
        conv => whnf
        refine ⟨_, q2, ?_⟩
        conv => whnf
        conv => whnf
        refine ⟨⟨Int.natCast_nonneg _, by omega⟩, ?_⟩
        conv => whnf
        conv => whnf
        refine ⟨_, map_at hid, ?_⟩
        conv => whnf
        conv => whnf
        refine ⟨_, q3, ?_⟩
        conv => whnf
        conv => whnf
        refine ⟨_, q4, ?_⟩
        conv => whnf
        conv => whnf
        refine ⟨by kernel_rfl, ?_⟩
        conv => whnf
        conv => whnf
        refine ⟨⟨Int.natCast_nonneg _, by omega⟩, ?_⟩
        conv => whnf
        conv => whnf
        refine ⟨_, map_at hid, ?_⟩
        conv => whnf
        conv => whnf
        refine ⟨rfl, ?_⟩
        conv => whnf
        conv => whnf
        refine ⟨⟨Nat.zero_add _, by show (_ + 1) * 24 ≤ 2 ^ 47; omega⟩, ?_⟩
        conv => whnf
        conv => whnf
        refine ⟨fun v1 => ?_, fun v1 => ?_⟩
        · exact absurd v1 (by decide)
        conv => whnf
        refine ⟨fun v2 => ?_, fun v2 => ?_⟩
        rotate_left
        · exact absurd v2 (by decide)
        conv => whnf
        refine ⟨(3, pY o a b id 3, pT o a b id 3, C' ++ [⟨id, 2⟩], F'), ?_, ⟨⟨by show 1 ≤ 3; decide, by show 3 ≤ 6; decide⟩, rfl, rfl, by show C' ++ [⟨id, 2⟩] = C ++ (rCs o a b id 1 ++ rC o a b id 2); rw [rC_yes hok, ← List.append_assoc]; exact congrArg (· ++ [(⟨id, 2⟩ : S72)]) hC', hF'⟩, by show 6 - 3 < 6 - 2; decide⟩
        dsimp only
        rw [List.map_append, List.length_append]
        exact .of rfl
    · refine Exists.elim (key 3) fun u hu => Exists.elim hu fun v hv => Exists.elim hv fun w hq => ?_
      have q1 := hq.1
      have q2 := hq.2.1
      have q3 := hq.2.2.1
      have q4 := hq.2.2.2
      refine Or.elim (Bool.eq_false_or_eq_true (rv o a b id 3).2) (fun hok => ?_) fun hok => ?_
      · replace q4 := q4.to (.tup2 .refl (.blit hok))
        conv => whnf
        refine ⟨fun w2 => ?_, fun w2 => ?_⟩
        rotate_left
        · exact absurd w2 (by decide)
        conv => whnf
        refine ⟨⟨Int.natCast_nonneg _, by omega⟩, ?_⟩
        conv => whnf
        conv => whnf
        refine ⟨_, map_at hid, ?_⟩
        conv => whnf
        conv => whnf
        refine ⟨_, q1, ?_⟩
        conv => whnf
        conv => whnf
        refine ⟨⟨Int.natCast_nonneg _, by omega⟩, ?_⟩
        conv => whnf
        conv => whnf
        refine ⟨_, map_at hid, ?_⟩
        conv => whnf
        conv => whnf
        refine ⟨_, q2, ?_⟩
        conv => whnf
        conv => whnf
        refine ⟨⟨Int.natCast_nonneg _, by omega⟩, ?_⟩
        conv => whnf
        conv => whnf
        refine ⟨_, map_at hid, ?_⟩
        conv => whnf
        conv => whnf
        refine ⟨_, q3, ?_⟩
        conv => whnf
        conv => whnf
        refine ⟨_, q4, ?_⟩
        conv => whnf
        conv => whnf
        refine ⟨by kernel_rfl, ?_⟩
        conv => whnf
        conv => whnf
        refine ⟨fun v1 => ?_, fun v1 => ?_⟩
        · exact absurd v1 (by decide)
        conv => whnf
        refine ⟨fun v2 => ?_, fun v2 => ?_⟩
        · exact absurd v2 (by decide)
        conv => whnf
        refine ⟨fun v3 => ?_, fun v3 => ?_⟩
        rotate_left
        · exact absurd v3 (by decide)
        conv => whnf
        refine ⟨(4, pY o a b id 4, pT o a b id 4, C', F'), ?_, ⟨⟨by show 1 ≤ 4; decide, by show 4 ≤ 6; decide⟩, rfl, rfl, by show C' = C ++ (rCs o a b id 2 ++ rC o a b id 3); rw [rC_no hok, List.append_nil]; exact hC', hF'⟩, by show 6 - 4 < 6 - 3; decide⟩
        dsimp only
        exact .of rfl
      · replace q4 := q4.to (.tup2 .refl (.blit hok))
        conv => whnf
        refine ⟨fun w2 => ?_, fun w2 => ?_⟩
        rotate_left
        · exact absurd w2 (by decide)
        conv => whnf
        refine ⟨⟨Int.natCast_nonneg _, by omega⟩, ?_⟩
        conv => whnf
        conv => whnf
        refine ⟨_, map_at hid, ?_⟩
        conv => whnf
        conv => whnf
        refine ⟨_, q1, ?_⟩
        conv => whnf
        conv => whnf
        refine ⟨⟨Int.natCast_nonneg _, by omega⟩, ?_⟩
        conv => whnf
        conv => whnf
        refine ⟨_, map_at hid, ?_⟩
        conv => whnf
        conv => whnf
        refine ⟨_, q2, ?_⟩
        conv => whnf
        conv => whnf
        refine ⟨⟨Int.natCast_nonneg _, by omega⟩, ?_⟩
        conv => whnf
        conv => whnf
        refine ⟨_, map_at hid, ?_⟩
        conv => whnf
        conv => whnf
        refine ⟨_, q3, ?_⟩
        conv => whnf
        conv => whnf
        refine ⟨_, q4, ?_⟩
        conv => whnf
        conv => whnf
        refine ⟨by kernel_rfl, ?_⟩
        conv => whnf
        conv => whnf
        refine ⟨⟨Int.natCast_nonneg _, by omega⟩, ?_⟩
        conv => whnf
        conv => whnf
        refine ⟨_, map_at hid, ?_⟩
        conv => whnf
        conv => whnf
        refine ⟨rfl, ?_⟩
        conv => whnf
        conv => whnf
        refine ⟨⟨Nat.zero_add _, by show (_ + 1) * 24 ≤ 2 ^ 47; omega⟩, ?_⟩
        conv => whnf
        conv => whnf
        refine ⟨fun v1 => ?_, fun v1 => ?_⟩
        · exact absurd v1 (by decide)
        conv => whnf
        refine ⟨fun v2 => ?_, fun v2 => ?_⟩
        · exact absurd v2 (by decide)
        conv => whnf
        refine ⟨fun v3 => ?_, fun v3 => ?_⟩
        rotate_left
        · exact absurd v3 (by decide)
        conv => whnf
        refine ⟨(4, pY o a b id 4, pT o a b id 4, C' ++ [⟨id, 3⟩], F'), ?_, ⟨⟨by show 1 ≤ 4; decide, by show 4 ≤ 6; decide⟩, rfl, rfl, by show C' ++ [⟨id, 3⟩] = C ++ (rCs o a b id 2 ++ rC o a b id 3); rw [rC_yes hok, ← List.append_assoc]; exact congrArg (· ++ [(⟨id, 3⟩ : S72)]) hC', hF'⟩, by show 6 - 4 < 6 - 3; decide⟩
        dsimp only
        rw [List.map_append, List.length_append]
        exact .of rfl
    · refine Exists.elim (key 4) fun u hu => Exists.elim hu fun v hv => Exists.elim hv fun w hq => ?_
      have q1 := hq.1
      have q2 := hq.2.1
      have q3 := hq.2.2.1
      have q4 := hq.2.2.2
      refine Or.elim (Bool.eq_false_or_eq_true (rv o a b id 4).2) (fun hok => ?_) fun hok => ?_
      · replace q4 := q4.to (.tup2 .refl (.blit hok))
        conv => whnf
        refine ⟨fun w2 => ?_, fun w2 => ?_⟩
        rotate_left
        · exact absurd w2 (by decide)
        conv => whnf
        refine ⟨⟨Int.natCast_nonneg _, by omega⟩, ?_⟩
        conv => whnf
        conv => whnf
        refine ⟨_, map_at hid, ?_⟩
        conv => whnf
        conv => whnf
        refine ⟨_, q1, ?_⟩
        conv => whnf
        conv => whnf
        refine ⟨⟨Int.natCast_nonneg _, by omega⟩, ?_⟩
        conv => whnf
        conv => whnf
        refine ⟨_, map_at hid, ?_⟩
        conv => whnf
        conv => whnf
        refine ⟨_, q2, ?_⟩
        conv => whnf
        conv => whnf
        refine ⟨⟨Int.natCast_nonneg _, by omega⟩, ?_⟩
        conv => whnf
        conv => whnf
        refine ⟨_, map_at hid, ?_⟩
        conv => whnf
        conv => whnf
        refine ⟨_, q3, ?_⟩
        conv => whnf
        conv => whnf
        refine ⟨_, q4, ?_⟩
        conv => whnf
        conv => whnf
        refine ⟨by kernel_rfl, ?_⟩
        conv => whnf
        conv => whnf
        refine ⟨fun v1 => ?_, fun v1 => ?_⟩
        · exact absurd v1 (by decide)
        conv => whnf
        refine ⟨fun v2 => ?_, fun v2 => ?_⟩
        · exact absurd v2 (by decide)
        conv => whnf
        refine ⟨fun v3 => ?_, fun v3 => ?_⟩
        · exact absurd v3 (by decide)
        conv => whnf
        refine ⟨fun v4 => ?_, fun v4 => ?_⟩
        rotate_left
        · exact absurd v4 (by decide)
        conv => whnf
        refine ⟨(5, pY o a b id 5, pT o a b id 5, C', F'), ?_, ⟨⟨by show 1 ≤ 5; decide, by show 5 ≤ 6; decide⟩, rfl, rfl, by show C' = C ++ (rCs o a b id 3 ++ rC o a b id 4); rw [rC_no hok, List.append_nil]; exact hC', hF'⟩, by show 6 - 5 < 6 - 4; decide⟩
        dsimp only
        exact .of rfl
      · replace q4 := q4.to (.tup2 .refl (.blit hok))
        conv => whnf
        refine ⟨fun w2 => ?_, fun w2 => ?_⟩
        rotate_left
        · exact absurd w2 (by decide)
        conv => whnf
        refine ⟨⟨Int.natCast_nonneg _, by omega⟩, ?_⟩
        conv => whnf
        conv => whnf
        refine ⟨_, map_at hid, ?_⟩
        conv => whnf
        conv => whnf
        refine ⟨_, q1, ?_⟩
        conv => whnf
        conv => whnf
        refine ⟨⟨Int.natCast_nonneg _, by omega⟩, ?_⟩
        conv => whnf
        conv => whnf
        refine ⟨_, map_at hid, ?_⟩
        conv => whnf
        conv => whnf
        refine ⟨_, q2, ?_⟩
        conv => whnf
        conv => whnf
        refine ⟨⟨Int.natCast_nonneg _, by omega⟩, ?_⟩
        conv => whnf
        conv => whnf
        refine ⟨_, map_at hid, ?_⟩
        conv => whnf
        conv => whnf
        refine ⟨_, q3, ?_⟩
        conv => whnf
        conv => whnf
        refine ⟨_, q4, ?_⟩
        conv => whnf
        conv => whnf
        refine ⟨by kernel_rfl, ?_⟩
        conv => whnf
        conv => whnf
        refine ⟨⟨Int.natCast_nonneg _, by omega⟩, ?_⟩
        conv => whnf
        conv => whnf
        refine ⟨_, map_at hid, ?_⟩
        conv => whnf
        conv => whnf
        refine ⟨rfl, ?_⟩
        conv => whnf
        conv => whnf
        refine ⟨⟨Nat.zero_add _, by show (_ + 1) * 24 ≤ 2 ^ 47; omega⟩, ?_⟩
        conv => whnf
        conv => whnf
        refine ⟨fun v1 => ?_, fun v1 => ?_⟩
        · exact absurd v1 (by decide)
        conv => whnf
        refine ⟨fun v2 => ?_, fun v2 => ?_⟩
        · exact absurd v2 (by decide)
        conv => whnf
        refine ⟨fun v3 => ?_, fun v3 => ?_⟩
        · exact absurd v3 (by decide)
        conv => whnf
        refine ⟨fun v4 => ?_, fun v4 => ?_⟩
        rotate_left
        · exact absurd v4 (by decide)
        conv => whnf
        refine ⟨(5, pY o a b id 5, pT o a b id 5, C' ++ [⟨id, 4⟩], F'), ?_, ⟨⟨by show 1 ≤ 5; decide, by show 5 ≤ 6; decide⟩, rfl, rfl, by show C' ++ [⟨id, 4⟩] = C ++ (rCs o a b id 3 ++ rC o a b id 4); rw [rC_yes hok, ← List.append_assoc]; exact congrArg (· ++ [(⟨id, 4⟩ : S72)]) hC', hF'⟩, by show 6 - 5 < 6 - 4; decide⟩
        dsimp only
        rw [List.map_append, List.length_append]
        exact .of rfl
    · refine Exists.elim (key 5) fun u hu => Exists.elim hu fun v hv => Exists.elim hv fun w hq => ?_
      have q1 := hq.1
      have q2 := hq.2.1
      have q3 := hq.2.2.1
      have q4 := hq.2.2.2
      refine Or.elim (Bool.eq_false_or_eq_true (rv o a b id 5).2) (fun hok => ?_) fun hok => ?_
      · replace q4 := q4.to (.tup2 .refl (.blit hok))
        conv => whnf
        refine ⟨fun w2 => ?_, fun w2 => ?_⟩
        rotate_left
        · exact absurd w2 (by decide)
        conv => whnf
        refine ⟨⟨Int.natCast_nonneg _, by omega⟩, ?_⟩
        conv => whnf
        conv => whnf
        refine ⟨_, map_at hid, ?_⟩
        conv => whnf
        conv => whnf
        refine ⟨_, q1, ?_⟩
        conv => whnf
        conv => whnf
        refine ⟨⟨Int.natCast_nonneg _, by omega⟩, ?_⟩
        conv => whnf
        conv => whnf
        refine ⟨_, map_at hid, ?_⟩
        conv => whnf
        conv => whnf
        refine ⟨_, q2, ?_⟩
        conv => whnf
        conv => whnf
        refine ⟨⟨Int.natCast_nonneg _, by omega⟩, ?_⟩
        conv => whnf
        conv => whnf
        refine ⟨_, map_at hid, ?_⟩
        conv => whnf
        conv => whnf
        refine ⟨_, q3, ?_⟩
        conv => whnf
        conv => whnf
        refine ⟨_, q4, ?_⟩
        conv => whnf
        conv => whnf
        refine ⟨by kernel_rfl, ?_⟩
        conv => whnf
        conv => whnf
        refine ⟨fun v1 => ?_, fun v1 => ?_⟩
        · exact absurd v1 (by decide)
        conv => whnf
        refine ⟨fun v2 => ?_, fun v2 => ?_⟩
        · exact absurd v2 (by decide)
        conv => whnf
        refine ⟨fun v3 => ?_, fun v3 => ?_⟩
        · exact absurd v3 (by decide)
        conv => whnf
        refine ⟨fun v4 => ?_, fun v4 => ?_⟩
        · exact absurd v4 (by decide)
        conv => whnf
        refine ⟨fun v5 => ?_, fun v5 => ?_⟩
        rotate_left
        · exact absurd v5 (by decide)
        conv => whnf
        refine ⟨fun hhas => ?_, fun hhas => ?_⟩
        · conv => whnf
          refine ⟨⟨Int.natCast_nonneg _, by omega⟩, ?_⟩
          conv => whnf
          conv => whnf
          refine ⟨_, map_at hid, ?_⟩
          conv => whnf
          conv => whnf
          refine ⟨rfl, ?_⟩
          conv => whnf
          conv => whnf
          refine ⟨⟨Nat.zero_add _, by show (_ + 1) * 16 ≤ 2 ^ 47; omega⟩, ?_⟩
          conv => whnf
          conv => whnf
          refine ⟨(6, pY o a b id 6, pT o a b id 6, C', F' ++ [id]), ?_, ⟨⟨by show 1 ≤ 6; decide, by show 6 ≤ 6; decide⟩, rfl, rfl, by show C' = C ++ (rCs o a b id 4 ++ rC o a b id 5); rw [rC_no hok, List.append_nil]; exact hC', by show F' ++ [id] = F ++ (bif (rv o a b id 5).1.1 then [id] else []); rw [hhas]; exact congrArg (· ++ [id]) (hF'.trans (List.append_nil _))⟩, by show 6 - 6 < 6 - 5; decide⟩
          dsimp only
          rw [List.map_append, List.length_append]
          exact .of rfl
        · conv => whnf
          refine ⟨(6, pY o a b id 6, pT o a b id 6, C', F'), ?_, ⟨⟨by show 1 ≤ 6; decide, by show 6 ≤ 6; decide⟩, rfl, rfl, by show C' = C ++ (rCs o a b id 4 ++ rC o a b id 5); rw [rC_no hok, List.append_nil]; exact hC', by show F' = F ++ (bif (rv o a b id 5).1.1 then [id] else []); rw [hhas]; exact hF'⟩, by show 6 - 6 < 6 - 5; decide⟩
          dsimp only
          exact .of rfl
      · replace q4 := q4.to (.tup2 .refl (.blit hok))
        conv => whnf
        refine ⟨fun w2 => ?_, fun w2 => ?_⟩
        rotate_left
        · exact absurd w2 (by decide)
        conv => whnf
        refine ⟨⟨Int.natCast_nonneg _, by omega⟩, ?_⟩
        conv => whnf
        conv => whnf
        refine ⟨_, map_at hid, ?_⟩
        conv => whnf
        conv => whnf
        refine ⟨_, q1, ?_⟩
        conv => whnf
        conv => whnf
        refine ⟨⟨Int.natCast_nonneg _, by omega⟩, ?_⟩
        conv => whnf
        conv => whnf
        refine ⟨_, map_at hid, ?_⟩
        conv => whnf
        conv => whnf
        refine ⟨_, q2, ?_⟩
        conv => whnf
        conv => whnf
        refine ⟨⟨Int.natCast_nonneg _, by omega⟩, ?_⟩
        conv => whnf
        conv => whnf
        refine ⟨_, map_at hid, ?_⟩
        conv => whnf
        conv => whnf
        refine ⟨_, q3, ?_⟩
        conv => whnf
        conv => whnf
        refine ⟨_, q4, ?_⟩
        conv => whnf
        conv => whnf
        refine ⟨by kernel_rfl, ?_⟩
        conv => whnf
        conv => whnf
        refine ⟨⟨Int.natCast_nonneg _, by omega⟩, ?_⟩
        conv => whnf
        conv => whnf
        refine ⟨_, map_at hid, ?_⟩
        conv => whnf
        conv => whnf
        refine ⟨rfl, ?_⟩
        conv => whnf
        conv => whnf
        refine ⟨⟨Nat.zero_add _, by show (_ + 1) * 24 ≤ 2 ^ 47; omega⟩, ?_⟩
        conv => whnf
        conv => whnf
        refine ⟨fun v1 => ?_, fun v1 => ?_⟩
        · exact absurd v1 (by decide)
        conv => whnf
        refine ⟨fun v2 => ?_, fun v2 => ?_⟩
        · exact absurd v2 (by decide)
        conv => whnf
        refine ⟨fun v3 => ?_, fun v3 => ?_⟩
        · exact absurd v3 (by decide)
        conv => whnf
        refine ⟨fun v4 => ?_, fun v4 => ?_⟩
        · exact absurd v4 (by decide)
        conv => whnf
        refine ⟨fun v5 => ?_, fun v5 => ?_⟩
        rotate_left
        · exact absurd v5 (by decide)
        conv => whnf
        refine ⟨fun hhas => ?_, fun hhas => ?_⟩
        · conv => whnf
          refine ⟨⟨Int.natCast_nonneg _, by omega⟩, ?_⟩
          conv => whnf
          conv => whnf
          refine ⟨_, map_at hid, ?_⟩
          conv => whnf
          conv => whnf
          refine ⟨rfl, ?_⟩
          conv => whnf
          conv => whnf
          refine ⟨⟨Nat.zero_add _, by show (_ + 1) * 16 ≤ 2 ^ 47; omega⟩, ?_⟩
          conv => whnf
          conv => whnf
          refine ⟨(6, pY o a b id 6, pT o a b id 6, C' ++ [⟨id, 5⟩], F' ++ [id]), ?_, ⟨⟨by show 1 ≤ 6; decide, by show 6 ≤ 6; decide⟩, rfl, rfl, by show C' ++ [⟨id, 5⟩] = C ++ (rCs o a b id 4 ++ rC o a b id 5); rw [rC_yes hok, ← List.append_assoc]; exact congrArg (· ++ [(⟨id, 5⟩ : S72)]) hC', by show F' ++ [id] = F ++ (bif (rv o a b id 5).1.1 then [id] else []); rw [hhas]; exact congrArg (· ++ [id]) (hF'.trans (List.append_nil _))⟩, by show 6 - 6 < 6 - 5; decide⟩
          dsimp only
          rw [List.map_append, List.length_append, List.map_append, List.length_append]
          exact .of rfl
        · conv => whnf
          refine ⟨(6, pY o a b id 6, pT o a b id 6, C' ++ [⟨id, 5⟩], F'), ?_, ⟨⟨by show 1 ≤ 6; decide, by show 6 ≤ 6; decide⟩, rfl, rfl, by show C' ++ [⟨id, 5⟩] = C ++ (rCs o a b id 4 ++ rC o a b id 5); rw [rC_yes hok, ← List.append_assoc]; exact congrArg (· ++ [(⟨id, 5⟩ : S72)]) hC', by show F' = F ++ (bif (rv o a b id 5).1.1 then [id] else []); rw [hhas]; exact hF'⟩, by show 6 - 6 < 6 - 5; decide⟩
          dsimp only
          rw [List.map_append, List.length_append]
          exact .of rfl
    · have hC2 : C' = (N.take (j + 1)).flatMap (fun id => rCs o a b id 5) := by rw [hC', hC, snoc_take hid, List.flatMap_append, List.flatMap_cons, List.flatMap_nil, List.append_nil]
      have hF2 : F' = (N.take (j + 1)).filter (fun id => (rv o a b id 5).1.1) := by rw [hF', hF, snoc_take hid, flt1]; rfl
      have hI2 : ((rv o a b id 1).1.1 = true → I ++ [rX o a b id] = ((N.take (j + 1)).filter (fun id => (rv o a b id 1).1.1)).map (rX o a b)) ∧ ((rv o a b id 1).1.1 = false → I = ((N.take (j + 1)).filter (fun id => (rv o a b id 1).1.1)).map (rX o a b)) := by
        rw [snoc_take hid, flt1, List.map_append, ← hI]
        exact ⟨fun h => by rw [h]; rfl, fun h => by rw [h]; exact (List.append_nil _).symm⟩
      conv => whnf
      refine ⟨fun w2 => ?_, fun w2 => ?_⟩
      · exact absurd w2 (by decide)
      conv => whnf
      refine ⟨fun w3 => ?_, fun w3 => ?_⟩
      · conv => whnf
        refine ⟨rfl, ?_⟩
        conv => whnf
        conv => whnf
        refine ⟨⟨Nat.zero_add _, by show (_ + 1) * 104 ≤ 2 ^ 47; omega⟩, ?_⟩
        conv => whnf
        conv => whnf
        refine ⟨(j + 1, C', F', I ++ [rX o a b id]), ?_, ⟨w1, hC2, hF2, hI2.1 w3⟩, by show N.length - (j + 1) < N.length - j; omega⟩
        dsimp only
        rw [up1 w1 (by omega), List.map_append, List.length_append]
        exact .of rfl
      · conv => whnf
        refine ⟨(j + 1, C', F', I), ?_, ⟨w1, hC2, hF2, hI2.2 w3⟩, by show N.length - (j + 1) < N.length - j; omega⟩
        dsimp only
        rw [up1 w1 (by omega)]
        exact .of rfl
  · have hjN : j = N.length := by have := nlti (by rw [List.length_map] at w1; exact w1); omega
    rw [hjN, List.take_length, hNN] at hC hF hI
    replace hC := hC.trans (rCl_is no na nb)
    replace hF := hF.trans rF_is
    conv => whnf
    refine ⟨fun w2 => ?_, fun w2 => ?_⟩
    · have hmg : ∃ c l, C = c :: l := by
        cases C with
        | nil => exact absurd (of_decide_eq_true w2) (by decide)
        | cons c l => exact ⟨c, l, rfl⟩
      refine Exists.elim hmg fun c hmg => Exists.elim hmg fun l hmg => ?_
      have hm := mg_yes no na nb
      rw [← hC, hmg] at hm
      dsimp only at hm
      rw [← hmg] at hm
      rw [hm]
      conv => whnf
      refine ⟨Nat.zero_add _, ?_⟩
      conv => whnf
      conv => whnf
      exact .tup3 (.agg2 .nils .nils) .refl .refl
    · have hC0 : C = [] := by cases C with
        | nil => rfl
        | cons c l => have := of_decide_eq_false w2; simp at this
      replace hI := hI.trans (rI_is no na nb (hC.symm.trans hC0))
      have hT := tgS_nice (NiceF.of no).nice (NiceF.of na).nice (NiceF.of nb).nice
      have hFI : (F, I) = tgS o a b := by rw [hF, hI]
      rw [← hFI] at hT
      have h101 := c101g hT (by omega) (by omega)
      have hmg := mg_yes no na nb
      rw [← hC, hC0, ← hFI] at hmg
      dsimp only at hmg
      rw [hmg]
      have dO : (∃ n, ordO (F, I) = some n) ∨ ordO (F, I) = none := by
        cases h : ordO (F, I) with
        | none => exact .inr rfl
        | some n => exact .inl ⟨n, rfl⟩
      refine Or.elim dO (fun hO => ?_) fun hO => ?_
      · refine Exists.elim hO fun n hO => ?_
        rw [hO] at h101 ⊢
        dsimp only [Option.getD, Option.isSome] at h101 ⊢
        replace h101 := h101.to (.tup2 .refl (.blit rfl))
        unfold encM at h101
        conv => whnf
        refine ⟨Nat.zero_add _, ?_⟩
        conv => whnf
        conv => whnf
        refine ⟨Nat.zero_add _, ?_⟩
        conv => whnf
        conv => whnf
        refine ⟨_, h101, ?_⟩
        conv => whnf
        conv => whnf
        exact .tup3 (.agg2 .refl .refl) .nils .refl
      · rw [hO] at h101 ⊢
        dsimp only [Option.getD, Option.isSome] at h101 ⊢
        replace h101 := h101.to (.tup2 .refl (.blit rfl))
        unfold encM at h101
        conv => whnf
        refine ⟨Nat.zero_add _, ?_⟩
        conv => whnf
        conv => whnf
        refine ⟨Nat.zero_add _, ?_⟩
        conv => whnf
        conv => whnf
        refine ⟨_, h101, ?_⟩
        conv => whnf
        conv => whnf
        refine ⟨by kernel_rfl, ?_⟩
        conv => whnf
        conv => whnf
        exact .tup3 (.agg2 .nils .nils) .refl .refl
end Go.Ab
namespace Go.Ab
open Go.Proofs Sn
set_option maxRecDepth 100000
set_option linter.unnecessarySimpa false
set_option linter.unusedSimpArgs false
set_option linter.unusedVariables false
set_option maxHeartbeats 40000000
theorem c14 (fo fa fb : List ByteArray) (mo ma mb : List S47) (go : BgM fo mo) (ga : BgM fa ma) (gb : BgM fb mb) : PCall cx.P 14 [encM fo mo, encM fa ma, encM fb mb] (.lit true) := pcall3 Tryz.f14 (by kernel_rfl) (by kernel_rfl) <| by
  have hho := c51 fo mo go
  have hha := c51 fa ma ga
  have hhb := c51 fb mb gb
  unfold encM at hho hha hhb ⊢
  conv => whnf
  refine ⟨_, hho, ?_⟩
  conv => whnf
  conv => whnf
  refine ⟨fun wo => ?_, fun wo => ?_⟩
  · conv => whnf
    exact .of rfl
  replace wo := of_decide_eq_false wo
  have hzo := SzM.of (f := fo) (m := mo) (by omega)
  conv => whnf
  refine ⟨_, hha, ?_⟩
  conv => whnf
  conv => whnf
  refine ⟨fun wa => ?_, fun wa => ?_⟩
  · conv => whnf
    exact .of rfl
  replace wa := of_decide_eq_false wa
  have hza := SzM.of (f := fa) (m := ma) (by omega)
  conv => whnf
  refine ⟨_, hhb, ?_⟩
  conv => whnf
  conv => whnf
  refine ⟨fun wb => ?_, fun wb => ?_⟩
  · conv => whnf
    exact .of rfl
  replace wb := of_decide_eq_false wb
  have hzb := SzM.of (f := fb) (m := mb) (by omega)
  have h1 := c52 (fo, mo) (fa, ma) (fb, mb) hzo hza hzb
  have h2 := c53 (fo, mo) (fa, ma) (fb, mb) hzo hza hzb
  obtain ⟨z1, z2⟩ := mg_sz (fo, mo) (fa, ma) (fb, mb)
  generalize mgS (fo, mo) (fa, ma) (fb, mb) = M at h1 h2 z1 z2
  obtain ⟨⟨F, X⟩, C, n⟩ := M
  have h3 := (c35 F F X X z1 z1).to (.blit (eqq_y rfl))
  have h4 := c54 C z2
  unfold encM at h1 h2 h3
  conv => whnf
  refine ⟨_, h1, ?_⟩
  conv => whnf
  conv => whnf
  refine ⟨_, h2, ?_⟩
  conv => whnf
  conv => whnf
  refine ⟨_, h3, ?_⟩
  conv => whnf
  conv => whnf
  refine ⟨_, h4, ?_⟩
  conv => whnf
  conv => whnf
  refine ⟨fun w3 => ?_, fun w3 => ?_⟩
  rotate_left
  · simp at w3
  conv => whnf
  refine ⟨_, c55, ?_⟩
  conv => whnf
  conv => whnf
  exact .of rfl
end Go.Ab
