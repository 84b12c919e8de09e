/- Proof texts of one seat, in one file: an evaluator of the program's form, shown sound, and the functions told by it. There are no conditions but those that each theorem names. -/
import Derived.Test.YtpbembafpnknhaaGreatAb0
import Derived.Test.YtpbembafpnknhaaGreatAb1
import Derived.Test.YtpbembafpnknhaaGreatAb2
import Derived.Test.YtpbembafpnknhaaGreatAb3
import Derived.Test.YtpbembafpnknhaaGreatAb4
set_option linter.unusedVariables false
set_option linter.unusedSimpArgs false
set_option linter.unusedSectionVars false
set_option linter.unnecessarySimpa false
namespace Go.Ab
open Sn
structure Vw where
  s : ByteArray → Int
  h : ByteArray → Nat → Bool
  F : ByteArray → Int
  T : Int
  e : ByteArray → Int
  N : Int
structure S43 where
  f0 : Int
  f1 : ByteArray
  f2 : Int
  f3 : ByteArray
  f4 : Int
def wr (n : Int) : Int := IntKind.i64.wrap n
def holdB (a : Int) (op : ByteArray) (b : Int) : Bool := bif sEq op ⟨#[60]⟩ then decide (a < b) else bif sEq op ⟨#[60, 61]⟩ then decide (a ≤ b) else bif sEq op ⟨#[61]⟩ then a == b else bif sEq op ⟨#[33, 61]⟩ then a != b else bif sEq op ⟨#[62, 61]⟩ then decide (a ≥ b) else decide (a > b)
def onV (v : Vw) (o : S78) : Bool := v.h o.f0 o.f1.toNat
def ifV (v : Vw) (d : S93) : Bool := holdB (v.F d.f0) d.f1 d.f2
def metB (v : Vw) (s : S29) : Bool := s.f0.all (onV v) && s.f1.all (ifV v)
def anyB (v : Vw) (l : List S29) : Bool := l.any (metB v)
def thereB (v : Vw) (id : ByteArray) : Bool := v.s id == 1 || v.s id == 2
def rtB (x : S47) : Bool := sEq x.f2 ⟨#[]⟩
def early (v : Vw) (x : S47) : Int := bif thereB v x.f0 && anyB v x.f6 then 5 else bif v.s x.f0 == 1 && (decide (x.f1 ≤ 3) && (decide (x.f5.length = 0) || anyB v x.f5)) then (bif x.f1 == 3 then 4 else 2) else bif v.s x.f0 == 0 && (!rtB x && v.s x.f2 == 2) then 1 else 0
def kidB (v : Vw) (d : ByteArray → Int) (k : S47) : Bool := v.s k.f0 == 0 || (v.s k.f0 == 2 || (d k.f0 == 2 || (d k.f0 == 4 || (k.f3 && v.s k.f0 == 1))))
def complB (v : Vw) (d : ByteArray → Int) (m : List S47) (x : S47) : Bool := x.f1 == 1 && (v.s x.f0 == 2 && (d x.f0 == 0 && !(kidsOf S47.f2 m x.f0).any (kidB v d)))
def earlyD (v : Vw) (m : List S47) (id : ByteArray) : Int := early v (getI m id)
def doesD (v : Vw) (m : List S47) (id : ByteArray) : Int := bif complB v (earlyD v m) m (getI m id) then 3 else earlyD v m id
def shutB (d : Int) : Bool := d == 5 || d == 3
def clD (v : Vw) (m : List S47) (d : ByteArray → Int) : Nat → ByteArray → Int
  | 0, id => d id
  | k + 1, id => bif rtB (getI m id) then d id else bif shutB (clD v m d k (getI m id).f2) then (bif thereB v id then 5 else 0) else d id
def toS (d : Int) : Int := if d = 1 then 1 else if d = 2 then 2 else if d = 3 then 3 else if d = 4 then 3 else if d = 5 then 4 else 0
def doneB (m : List S47) (d : ByteArray → Int) : Bool := m.any fun x => d x.f0 != 0
def stV (v : Vw) (m : List S47) (d : ByteArray → Int) : Vw := ⟨fun id => bif d id == 0 then v.s id else toS (d id), fun id e => bif d id == 0 then v.h id e else bif d id == (e : Int) then true else v.h id e, v.F, v.T, fun id => bif d id == 1 then v.T else v.e id, bif doneB m d then wr (v.N + 1) else v.N⟩
def doV (v : Vw) (m : List S47) (d : ByteArray → Int) : Vw := stV v m (clD v m d 16)
def doB (v : Vw) (m : List S47) (d : ByteArray → Int) : Bool := doneB m (clD v m d 16)
inductive Rds (m : List S47) : Nat → Vw → Vw → Prop where
  | stop {v : Vw} (h : doB v m (doesD v m) = false) : Rds m 0 v (doV v m (doesD v m))
  | go {k : Nat} {v w : Vw} (h : doB v m (doesD v m) = true) (hr : Rds m k (doV v m (doesD v m)) w) : Rds m (k + 1) v w
open Classical in
noncomputable def rnd (m : List S47) (v : Vw) : Vw := if h : ∃ w k, Rds m k v w then h.choose else v
def tickD (v : Vw) (m : List S47) (id : ByteArray) : Int := bif (getI m id).f1 == 5 && (v.s id == 1 && decide (wr (v.T - v.e id) ≥ (getI m id).f4)) then 4 else 0
def tick1 (v : Vw) : Vw := ⟨v.s, v.h, v.F, wr (v.T + 1), v.e, v.N⟩
noncomputable def tickV (v : Vw) (m : List S47) : Vw := rnd m (doV (tick1 v) m (tickD (tick1 v) m))
def okB (v : Vw) (m : List S47) (a : S43) : Bool := ((getI m a.f1).f1 == 2 && (v.s a.f1 == 2 && a.f2 == 3)) || (((getI m a.f1).f1 == 4 && (v.s a.f1 == 1 && a.f2 == 4)) || (thereB v a.f1 && a.f2 == 5))
def userD (a : S43) (id : ByteArray) : Int := bif sEq id a.f1 then a.f2 else 0
noncomputable def userV (v : Vw) (m : List S47) (a : S43) : Vw × Int := bif hasI m a.f1 && !rtB (getI m a.f1) then (bif okB v m a then (rnd m (doV v m (userD a)), 0) else (v, 8)) else (v, 1)
def wrV (v : Vw) (a : S43) : Vw := ⟨v.s, v.h, fun s => bif sEq s a.f3 then a.f4 else v.F s, v.T, v.e, v.N⟩
noncomputable def actV (v : Vw) (f : List ByteArray) (m : List S47) (r : ByteArray) (a : S43) : Vw × Int :=
  if a.f0 < 1 ∨ 3 < a.f0 then (v, 1) else if v.s r = 3 ∨ v.s r = 4 then (v, 9) else if a.f0 = 1 then userV v m a else
    if a.f0 = 2 then (if hasS f a.f3 = true ∧ -1000000 ≤ a.f4 ∧ a.f4 ≤ 1000000 then (rnd m (wrV v a), 0) else (v, 1)) else (tickV v m, 0)
def stateV (v : Vw) (m : List S47) (id : ByteArray) : Int := bif hasI m id then v.s id else 0
def newV (r : ByteArray) : Vw := ⟨fun id => bif sEq id r then 2 else 0, fun _ _ => false, fun _ => 0, 0, fun _ => 0, 0⟩
theorem early_rank (v : Vw) (x : S47) : early v x = 0 ∨ (v.s x.f0 < toS (early v x) ∧ toS (early v x) ≤ 4) := by
  unfold early thereB
  by_cases h0 : v.s x.f0 = 0
  · rw [h0]
    simp only [show ((0 : Int) == 1) = false from rfl, show ((0 : Int) == 2) = false from rfl, show ((0 : Int) == 0) = true from rfl, Bool.or_false, Bool.false_and, Bool.true_and, cond_false]
    cases (!rtB x && v.s x.f2 == 2) with
    | true => exact .inr (by decide)
    | false => exact .inl rfl
  · by_cases h1 : v.s x.f0 = 1
    · rw [h1]
      simp only [show ((1 : Int) == 1) = true from rfl, show ((1 : Int) == 0) = false from rfl, Bool.true_or, Bool.true_and, Bool.false_and, cond_false]
      cases anyB v x.f6 with
      | true => exact .inr (by show (1 : Int) < toS 5 ∧ toS 5 ≤ 4; decide)
      | false =>
        cases (decide (x.f1 ≤ 3) && (decide (x.f5.length = 0) || anyB v x.f5)) with
        | false => exact .inl rfl
        | true =>
          cases x.f1 == 3 with
          | true => exact .inr (by decide)
          | false => exact .inr (by decide)
    · by_cases h2 : v.s x.f0 = 2
      · rw [h2]
        simp only [show ((2 : Int) == 1) = false from rfl, show ((2 : Int) == 2) = true from rfl, show ((2 : Int) == 0) = false from rfl, Bool.or_true, Bool.true_and, Bool.false_and, cond_false]
        cases anyB v x.f6 with
        | true => exact .inr (by decide)
        | false => exact .inl rfl
      · have e0 : (v.s x.f0 == 0) = false := by simpa using h0
        have e1 : (v.s x.f0 == 1) = false := by simpa using h1
        have e2 : (v.s x.f0 == 2) = false := by simpa using h2
        rw [e0, e1, e2]
        exact .inl rfl
theorem does_rank (v : Vw) (m : List S47) {id : ByteArray} (h : (getI m id).f0 = id) : doesD v m id = 0 ∨ (v.s id < toS (doesD v m id) ∧ toS (doesD v m id) ≤ 4) := by
  unfold doesD
  cases hc : complB v (earlyD v m) m (getI m id) with
  | true =>
    refine .inr ?_
    unfold complB at hc
    simp only [Bool.and_eq_true] at hc
    have := eq_of_beq hc.2.1
    rw [h] at this
    rw [this]
    show (2 : Int) < toS 3 ∧ toS 3 ≤ 4
    decide
  | false =>
    have := early_rank v (getI m id)
    rw [h] at this
    exact this
theorem cl_rank (v : Vw) (m : List S47) {d : ByteArray → Int} {id : ByteArray} (h : d id = 0 ∨ (v.s id < toS (d id) ∧ toS (d id) ≤ 4)) : ∀ k, clD v m d k id = 0 ∨ (v.s id < toS (clD v m d k id) ∧ toS (clD v m d k id) ≤ 4)
  | 0 => h
  | k + 1 => by
    unfold clD
    cases rtB (getI m id) with
    | true => exact h
    | false =>
      cases shutB (clD v m d k (getI m id).f2) with
      | false => exact h
      | true =>
        cases ht : thereB v id with
        | false => exact .inl rfl
        | true =>
          refine .inr ?_
          unfold thereB at ht
          rw [Bool.or_eq_true] at ht
          rcases ht with ht | ht <;> rw [eq_of_beq ht]
          · show (1 : Int) < toS 5 ∧ toS 5 ≤ 4; decide
          · show (2 : Int) < toS 5 ∧ toS 5 ≤ 4; decide
def msV (m : List S47) (v : Vw) : Nat := (m.map fun x => (4 - v.s x.f0).toNat).sum
theorem sum_le {α : Type} {f g : α → Nat} : ∀ {l : List α}, (∀ x ∈ l, f x ≤ g x) → (l.map f).sum ≤ (l.map g).sum
  | [], _ => Nat.le_refl _
  | x :: l, h => by
    rw [List.map_cons, List.map_cons, List.sum_cons, List.sum_cons]
    have := h x List.mem_cons_self
    have := sum_le (l := l) fun y hy => h y (List.mem_cons_of_mem _ hy)
    omega
theorem sum_lt {α : Type} {f g : α → Nat} : ∀ {l : List α}, (∀ x ∈ l, f x ≤ g x) → (∃ x ∈ l, f x < g x) → (l.map f).sum < (l.map g).sum
  | [], _, h => by obtain ⟨_, h, _⟩ := h; cases h
  | x :: l, h, h' => by
    rw [List.map_cons, List.map_cons, List.sum_cons, List.sum_cons]
    have h1 := h x List.mem_cons_self
    have h2 := sum_le (l := l) fun y hy => h y (List.mem_cons_of_mem _ hy)
    obtain ⟨y, hy, hl⟩ := h'
    rcases List.mem_cons.1 hy with rfl | hy
    · omega
    · have := sum_lt (l := l) (fun y hy => h y (List.mem_cons_of_mem _ hy)) ⟨y, hy, hl⟩
      omega
theorem do_less {m : List S47} (hn : (m.map S47.f0).Nodup) {v : Vw} (h : doB v m (doesD v m) = true) : msV m (doV v m (doesD v m)) < msV m v := by
  have hr : ∀ x ∈ m, clD v m (doesD v m) 16 x.f0 = 0 ∨ (v.s x.f0 < toS (clD v m (doesD v m) 16 x.f0) ∧ toS (clD v m (doesD v m) 16 x.f0) ≤ 4) := fun x hx => cl_rank v m (does_rank v m (by rw [getI_is hn hx rfl])) 16
  have hs : ∀ x, (doV v m (doesD v m)).s x = bif clD v m (doesD v m) 16 x == 0 then v.s x else toS (clD v m (doesD v m) 16 x) := fun _ => rfl
  refine sum_lt (fun x hx => ?_) ?_
  · rw [hs]
    rcases hr x hx with e | ⟨e1, e2⟩
    · rw [e]; exact Nat.le_refl _
    · cases clD v m (doesD v m) 16 x.f0 == 0 with
      | true => exact Nat.le_refl _
      | false => rw [cond_false]; omega
  · unfold doB doneB at h
    obtain ⟨x, hx, hd⟩ := List.any_eq_true.1 h
    refine ⟨x, hx, ?_⟩
    rw [hs]
    have hd : clD v m (doesD v m) 16 x.f0 ≠ 0 := by simpa using hd
    rcases hr x hx with e | ⟨e1, e2⟩
    · exact absurd e hd
    · rw [show (clD v m (doesD v m) 16 x.f0 == 0) = false by simpa using hd, cond_false]
      omega
theorem rds_ex {m : List S47} (hn : (m.map S47.f0).Nodup) : ∀ (n : Nat) (v : Vw), msV m v ≤ n → ∃ w k, Rds m k v w
  | n, v, hv => by
    cases h : doB v m (doesD v m) with
    | false => exact ⟨_, _, .stop h⟩
    | true =>
      have hl := do_less hn h
      match n with
      | 0 => omega
      | n + 1 =>
        obtain ⟨w, k, hr⟩ := rds_ex hn n (doV v m (doesD v m)) (by omega)
        exact ⟨w, k + 1, .go h hr⟩
theorem rnd_is {m : List S47} (hn : (m.map S47.f0).Nodup) (v : Vw) : ∃ k, Rds m k v (rnd m v) := by
  unfold rnd
  rw [dif_pos (rds_ex hn _ v (Nat.le_refl _))]
  exact (rds_ex hn _ v (Nat.le_refl _)).choose_spec
end Go.Ab
namespace Go.Ab
open Sn
section
variable {β : Type} {g0 g1 : S47 → β} {m : List S47}
def mix (g0 g1 : S47 → β) (m : List S47) (i : Nat) : List β := (m.take i).map g1 ++ (m.drop i).map g0
theorem mix_zero : mix g0 g1 m 0 = m.map g0 := by unfold mix; simp
theorem mix_all : mix g0 g1 m m.length = m.map g1 := by unfold mix; simp
theorem mix_len {i : Nat} (h : i ≤ m.length) : (mix g0 g1 m i).length = m.length := by
  unfold mix
  rw [List.length_append, List.length_map, List.length_map, List.length_take, List.length_drop]
  omega
theorem mix_lt {i j : Nat} {x : S47} (h : j < i) (hx : m[j]? = some x) : (mix g0 g1 m i)[j]? = some (g1 x) := by
  have hj := (List.getElem?_eq_some_iff.1 hx).1
  unfold mix
  rw [List.getElem?_append_left (by rw [List.length_map, List.length_take]; omega), List.getElem?_map, List.getElem?_take, if_pos h, hx]
  rfl
theorem mix_ge {i j : Nat} {x : S47} (h : i ≤ j) (hx : m[j]? = some x) : (mix g0 g1 m i)[j]? = some (g0 x) := by
  have hj := (List.getElem?_eq_some_iff.1 hx).1
  unfold mix
  have hl : ((m.take i).map g1).length = i := by rw [List.length_map, List.length_take]; omega
  rw [List.getElem?_append_right (by omega), hl, List.getElem?_map, List.getElem?_drop, show i + (j - i) = j by omega, hx]
  rfl
theorem mix_lt0 {i j : Nat} {x : S47} (h : j < i) (hx : m[j]? = some x) : (mix g0 g1 m i)[0 + ((j : Int)).toNat]? = some (g1 x) := by rw [Nat.zero_add]; exact mix_lt h hx
theorem mix_ge0 {i j : Nat} {x : S47} (h : i ≤ j) (hx : m[j]? = some x) : (mix g0 g1 m i)[0 + ((j : Int)).toNat]? = some (g0 x) := by rw [Nat.zero_add]; exact mix_ge h hx
theorem set_at0 {es : List β} {i : Nat} {a : β} (h : i < es.length) : (es.set (0 + ((i : Int)).toNat) a)[0 + ((i : Int)).toNat]? = some a := by rw [Nat.zero_add, Int.toNat_natCast, List.getElem?_set_self h]
theorem mix_set {i : Nat} {x : S47} (hx : m[i]? = some x) : (mix g0 g1 m i).set i (g1 x) = mix g0 g1 m (i + 1) := by
  have hi := (List.getElem?_eq_some_iff.1 hx).1
  have hd : m.drop i = x :: m.drop (i + 1) := by
    rw [List.drop_eq_getElem_cons hi]
    congr 1
    exact (List.getElem?_eq_some_iff.1 hx).2
  unfold mix
  have hl : ((m.take i).map g1).length = i := by rw [List.length_map, List.length_take]; omega
  rw [List.set_append_right _ _ (by omega), hl, Nat.sub_self, hd, List.map_cons, List.set_cons_zero, snoc_take hx, List.map_append, List.append_assoc]
  rfl
theorem mix_skip {i : Nat} {x : S47} (hx : m[i]? = some x) (h : g1 x = g0 x) : mix g0 g1 m (i + 1) = mix g0 g1 m i := by
  rw [← mix_set hx, h]
  have := mix_ge (g0 := g0) (g1 := g1) (Nat.le_refl i) hx
  obtain ⟨h1, h2⟩ := List.getElem?_eq_some_iff.1 this
  rw [← h2]
  exact List.set_getElem_self h1
end
theorem popTo_mem {q : ByteArray} : ∀ {st : List S47} {p : S47} {ps : List S47}, popTo S47.f0 q st = p :: ps → p.f0 = q ∧ ∀ z ∈ p :: ps, z ∈ st
  | [], p, ps, h => by cases h
  | a :: l, p, ps, h => by
    unfold popTo at h
    by_cases e : a.f0 = q
    · rw [if_pos e] at h
      cases h
      exact ⟨e, fun z hz => hz⟩
    · rw [if_neg e] at h
      obtain ⟨h1, h2⟩ := popTo_mem h
      exact ⟨h1, fun z hz => List.mem_cons_of_mem _ (h2 z hz)⟩
theorem stands_first {chk : List S47 → Bool} : ∀ {F st : List S47}, standsB S47.f0 S47.f2 chk st F = true → ∀ {i : Nat} {x : S47}, F[i]? = some x → ∃ p, p.f0 = x.f2 ∧ (p ∈ st ∨ ∃ j, j < i ∧ F[j]? = some p)
  | [], st, _, i, x, hx => by simp at hx
  | y :: t, st, h, i, x, hx => by
    unfold standsB at h
    cases hp : popTo S47.f0 y.f2 st with
    | nil => rw [hp] at h; cases h
    | cons p ps =>
      rw [hp] at h
      simp only [Bool.and_eq_true] at h
      obtain ⟨h1, h2⟩ := popTo_mem hp
      cases i with
      | zero => cases hx; exact ⟨p, h1, .inl (h2 p List.mem_cons_self)⟩
      | succ i =>
        obtain ⟨q, e, hq⟩ := stands_first h.2 (i := i) (x := x) hx
        refine ⟨q, e, ?_⟩
        rcases hq with hq | ⟨j, hj, hq⟩
        · rcases List.mem_cons.1 hq with rfl | hq
          · exact .inr ⟨0, Nat.succ_pos _, rfl⟩
          · exact .inl (h2 q hq)
        · exact .inr ⟨j + 1, Nat.succ_lt_succ hj, hq⟩
section
variable {fs : List ByteArray} {r : S47} {F : List S47} (h : Ok fs r F)
include h
theorem Ok.first {i : Nat} {x : S47} (hx : (r :: F)[i + 1]? = some x) : ∃ (j : Nat) (p : S47), j ≤ i ∧ (r :: F)[j]? = some p ∧ p.f0 = x.f2 := by
  obtain ⟨p, e, hp⟩ := stands_first h.stands (i := i) (x := x) hx
  rcases hp with hp | ⟨j, hj, hp⟩
  · rw [List.mem_singleton] at hp
    exact ⟨0, p, Nat.zero_le _, by rw [hp]; rfl, e⟩
  · exact ⟨j + 1, p, hj, hp, e⟩
theorem Ok.rt {x : S47} (hx : x ∈ r :: F) : rtB x = true ↔ x = r := by
  unfold rtB
  rw [show sEq x.f2 ⟨#[]⟩ = true ↔ x.f2 = ByteArray.empty from by
    unfold sEq
    rw [beq_iff_eq, ByteArray.toList_eq, ByteArray.toList_eq]
    exact ⟨fun h => ByteArray.ext (Array.ext' h), fun h => by rw [h]; rfl⟩]
  exact ⟨fun e => h.root_only hx e, fun e => by rw [e]; exact h.plan.2.1⟩
theorem Ok.cl_deep (v : Vw) (d : ByteArray → Int) : ∀ (n : Nat) (y : S47), y ∈ r :: F → Anc S47.f0 S47.f2 (r :: F) r y n → ∀ k, n ≤ k → clD v (r :: F) d k y.f0 = clD v (r :: F) d n y.f0 := by
  intro n
  induction n with
  | zero =>
    intro y hy ha k _
    have e : y = r := by first | exact ha | exact ha.symm
    subst e
    cases k with
    | zero => rfl
    | succ k =>
      unfold clD
      rw [getI_is h.nodup hy rfl, (h.rt hy).2 rfl]
      rfl
  | succ n ih =>
    intro y hy ha k hk
    obtain ⟨p, hp, e, ha⟩ := ha
    cases k with
    | zero => omega
    | succ k =>
      have h1 := ih p hp ha k (by omega)
      unfold clD
      rw [getI_is h.nodup hy rfl, ← e, h1]
theorem Ok.cl16 (v : Vw) (d : ByteArray → Int) {x p : S47} (hx : x ∈ r :: F) (hp : p ∈ r :: F) (e : p.f0 = x.f2) : clD v (r :: F) d 16 x.f0 = bif shutB (clD v (r :: F) d 16 p.f0) then (bif thereB v x.f0 then 5 else 0) else d x.f0 := by
  obtain ⟨n, hn, ha⟩ := h.reach p hp
  have hr : rtB x = false := by
    cases hr : rtB x with
    | false => rfl
    | true =>
      have := (h.rt hx).1 hr
      rw [this] at e
      exact absurd e (h.rooted.top p hp)
  conv => lhs; unfold clD
  rw [getI_is h.nodup hx rfl, hr, ← e, h.cl_deep v d n p hp ha 15 (by omega), h.cl_deep v d n p hp ha 16 (by omega)]
  rfl
theorem Ok.cl_root (v : Vw) (d : ByteArray → Int) : clD v (r :: F) d 16 r.f0 = d r.f0 := by
  conv => lhs; unfold clD
  rw [getI_is h.nodup List.mem_cons_self rfl, (h.rt List.mem_cons_self).2 rfl]
  rfl
end
end Go.Ab
namespace Go.Ab
open Go.Proofs Sn
set_option maxRecDepth 100000
set_option linter.unnecessarySimpa false
set_option linter.unusedSimpArgs false
set_option linter.unusedVariables false
set_option maxHeartbeats 40000000
noncomputable def cxB (l : List Nat) : Cx := ⟨Tryz.prog, look tyT, fun g => memN g l⟩
def byR : List Nat := [39, 40, 83, 84, 86, 132, 184]
theorem pcallB (l : List Nat) {f : Nat} (fn : Func) (hf : cx.P.funcs[f]? = some fn) (hok : okFn fn = true) {args : List AV} {r : AV} (h : funcP (cxB l) fn args r) : PCall cx.P f args r :=
  funcP_sound (cx := cxB l) cx_ok cx_mixed hf (Ent.ok hf hok).2 (Ent.ok hf hok).1 h
theorem acallB (l : List Nat) {f : Nat} (fn : Func) (hf : cx.P.funcs[f]? = some fn) (hok : okFn fn = true) {args : List AV} {σ σ' : Sto} {r : AV} (hσ : (σ.all fun p => !isFree (sget σ p.1)) = true) (h : funcA (cxB l) fn args σ r σ') : ACall cx.P f args σ r σ' :=
  funcA_sound (cx := cxB l) cx_ok cx_mixed hf (Ent.ok hf hok).2 (Ent.ok hf hok).1 hσ h
def iC (g : ByteArray → Int) (x : S47) : List AV := [.int .i64 (g x.f0)]
def hC (v : Vw) (x : S47) : List AV := [.bool (v.h x.f0 0), .bool (v.h x.f0 1), .bool (v.h x.f0 2), .bool (v.h x.f0 3), .bool (v.h x.f0 4), .bool (v.h x.f0 5)]
def fC (g : ByteArray → Int) (s : ByteArray) : List AV := [.int .i64 (g s)]
def caR (f : List ByteArray) (m : List S47) (v : Vw) : AV := .rptr 8 [[.row 1 (f.map encT), .row 7 (m.map enc47), .row 1 (m.map (iC v.s)), .row 6 (m.map (hC v)), .row 1 (f.map (fC v.F)), .int .i64 v.T, .row 1 (m.map (iC v.e)), .int .i64 v.N]] 0 0
theorem c133 (f : List ByteArray) (m : List S47) (v : Vw) {i : Nat} {x : S47} (hx : m[i]? = some x) : PCall cx.P 133 [caR f m v, .int .i64 i] (.bool (thereB v x.f0)) := pcallB byR Tryz.f133 (by kernel_rfl) (by kernel_rfl) <| by
  have hi := (List.getElem?_eq_some_iff.1 hx).1
  have hE : (m.map (iC v.s)).length = m.length := List.length_map _
  unfold caR
  conv => whnf
  refine ⟨_, rfl, ?_⟩
  conv => whnf
  conv => whnf
  refine ⟨⟨Int.natCast_nonneg _, by omega⟩, ?_⟩
  conv => whnf
  conv => whnf
  refine ⟨_, map_at hx, ?_⟩
  conv => whnf
  conv => whnf
  refine ⟨fun w1 => ?_, fun w1 => ?_⟩
  · conv => whnf
    have h1 : (v.s x.f0 == 1) = true := w1
    unfold thereB
    rw [h1, Bool.true_or]
    exact .lit rfl
  have h1 : (v.s x.f0 == 1) = false := w1
  conv => whnf
  refine ⟨_, rfl, ?_⟩
  conv => whnf
  conv => whnf
  refine ⟨⟨Int.natCast_nonneg _, by omega⟩, ?_⟩
  conv => whnf
  conv => whnf
  refine ⟨_, map_at hx, ?_⟩
  conv => whnf
  conv => whnf
  unfold thereB
  rw [h1, Bool.false_or]
  exact .refl
theorem c85 (f : List ByteArray) (m : List S47) (v : Vw) (s : ByteArray) (hf : f.length ≤ 1024) : ∃ a : Int, PCall cx.P 85 [caR f m v, .str s] (.int .i64 a) ∧ ((hasS f s = false ∧ a = -1) ∨ ∃ j : Nat, a = j ∧ f[j]? = some s) := by
  have hE : (f.map encT).length = f.length := List.length_map _
  have dj : (∃ j : Nat, f[j]? = some s ∧ ∀ i x, i < j → f[i]? = some x → x ≠ s) ∨ hasS f s = false := by
    by_cases h : ∃ j : Nat, f[j]? = some s
    · refine .inl ?_
      obtain ⟨j, hj⟩ := h
      induction j using Nat.strongRecOn with
      | _ j ih =>
        by_cases h' : ∃ i, i < j ∧ f[i]? = some s
        · obtain ⟨i, h1, h2⟩ := h'
          exact ih i h1 h2
        · exact ⟨j, hj, fun i x hi hx e => h' ⟨i, hi, by rw [hx, e]⟩⟩
    · refine .inr ?_
      cases hb : hasS f s with
      | false => rfl
      | true => exact absurd (List.getElem?_of_mem (hasS_iff.1 hb)) h
  rcases dj with ⟨j, hj, hl⟩ | hno
  · have hjl := (List.getElem?_eq_some_iff.1 hj).1
    refine ⟨j, pcallB byR Tryz.f85 (by kernel_rfl) (by kernel_rfl) ?_, .inr ⟨j, rfl, hj⟩⟩
    unfold caR
    conv => whnf
    refine .inr (.inl ⟨[0, 1, 5], Nat, fun i => ([(0, caR f m v), (1, .str s), (5, .int .i64 i)], []), fun i => i ≤ j, fun i => j - i, ?_, fun i hi => ?_⟩)
    · conv => whnf
      exact ⟨0, .of rfl, Nat.zero_le _⟩
    have hi : i ≤ j := hi
    unfold caR
    conv => whnf
    refine ⟨_, rfl, ?_⟩
    conv => whnf
    conv => whnf
    refine ⟨fun w1 => ?_, fun w1 => ?_⟩
    rotate_left
    · have := nlti (by rw [hE] at w1; exact w1)
      omega
    refine Exists.elim (at_ex (show i < f.length by omega)) fun x hx => ?_
    conv => whnf
    refine ⟨_, rfl, ?_⟩
    conv => whnf
    conv => whnf
    refine ⟨⟨Int.natCast_nonneg _, by omega⟩, ?_⟩
    conv => whnf
    conv => whnf
    refine ⟨_, map_at hx, ?_⟩
    conv => whnf
    conv => whnf
    refine ⟨fun w2 => ?_, fun w2 => ?_⟩
    · have hxs : x = s := (sEq_iff _ _).1 w2
      have hij : i = j := Nat.le_antisymm hi (Nat.le_of_not_lt fun h => hl i x h hx hxs)
      conv => whnf
      rw [hij]
      exact .refl
    · have hij : i ≠ j := fun e => by
        rw [e, hj] at hx
        cases hx
        rw [(sEq_iff s s).2 rfl] at w2
        cases w2
      conv => whnf
      refine ⟨i + 1, ?_, (by omega : i + 1 ≤ j), by show j - (i + 1) < j - i; omega⟩
      dsimp only
      rw [up1 (show i < f.length by omega) (by omega)]
      exact .of rfl
  · refine ⟨-1, pcallB byR Tryz.f85 (by kernel_rfl) (by kernel_rfl) ?_, .inl ⟨hno, rfl⟩⟩
    unfold caR
    conv => whnf
    refine .inr (.inl ⟨[0, 1, 5], Nat, fun i => ([(0, caR f m v), (1, .str s), (5, .int .i64 i)], []), fun i => i ≤ f.length, fun i => f.length - i, ?_, fun i hi => ?_⟩)
    · conv => whnf
      exact ⟨0, .of rfl, Nat.zero_le _⟩
    have hi : i ≤ f.length := hi
    unfold caR
    conv => whnf
    refine ⟨_, rfl, ?_⟩
    conv => whnf
    conv => whnf
    refine ⟨fun w1 => ?_, fun w1 => ?_⟩
    rotate_left
    · conv => whnf
      exact .refl
    have w1 := ltm w1
    refine Exists.elim (at_ex w1) fun x hx => ?_
    conv => whnf
    refine ⟨_, rfl, ?_⟩
    conv => whnf
    conv => whnf
    refine ⟨⟨Int.natCast_nonneg _, by omega⟩, ?_⟩
    conv => whnf
    conv => whnf
    refine ⟨_, map_at hx, ?_⟩
    conv => whnf
    conv => whnf
    refine ⟨fun w2 => ?_, fun w2 => ?_⟩
    · have hxs : x = s := (sEq_iff _ _).1 w2
      have := hasS_iff.2 (hxs ▸ List.mem_of_getElem? hx)
      rw [hno] at this
      cases this
    · conv => whnf
      refine ⟨i + 1, ?_, (by omega : i + 1 ≤ f.length), by show f.length - (i + 1) < f.length - i; omega⟩
      dsimp only
      rw [up1 w1 (by omega)]
      exact .of rfl
theorem c269 (a : Int) (op : ByteArray) (b : Int) : PCall cx.P 269 [.int .i64 a, .str op, .int .i64 b] (.bool (holdB a op b)) := pcallB byR Tryz.f269 (by kernel_rfl) (by kernel_rfl) <| by
  unfold holdB
  conv => whnf
  refine ⟨fun w1 => ?_, fun w1 => ?_⟩
  · rw [show sEq op ⟨#[60]⟩ = true from w1]
    conv => whnf
    exact .refl
  rw [show sEq op ⟨#[60]⟩ = false from w1]
  conv => whnf
  refine ⟨fun w2 => ?_, fun w2 => ?_⟩
  · rw [show sEq op ⟨#[60, 61]⟩ = true from w2]
    conv => whnf
    exact .refl
  rw [show sEq op ⟨#[60, 61]⟩ = false from w2]
  conv => whnf
  refine ⟨fun w3 => ?_, fun w3 => ?_⟩
  · rw [show sEq op ⟨#[61]⟩ = true from w3]
    conv => whnf
    exact .refl
  rw [show sEq op ⟨#[61]⟩ = false from w3]
  conv => whnf
  refine ⟨fun w4 => ?_, fun w4 => ?_⟩
  · rw [show sEq op ⟨#[33, 61]⟩ = true from w4]
    conv => whnf
    exact .refl
  rw [show sEq op ⟨#[33, 61]⟩ = false from w4]
  conv => whnf
  refine ⟨fun w5 => ?_, fun w5 => ?_⟩
  · rw [show sEq op ⟨#[62, 61]⟩ = true from w5]
    conv => whnf
    exact .refl
  rw [show sEq op ⟨#[62, 61]⟩ = false from w5]
  conv => whnf
  exact .refl
end Go.Ab
namespace Go.Ab
open Go.Proofs Sn
set_option maxRecDepth 100000
set_option linter.unnecessarySimpa false
set_option linter.unusedSimpArgs false
set_option linter.unusedVariables false
set_option maxHeartbeats 40000000
def SeOk (f : List ByteArray) (m : List S47) (s : S29) : Prop := (s.f0.length ≤ 1024 ∧ s.f1.length ≤ 1024) ∧ (∀ o ∈ s.f0, (∃ x ∈ m, x.f0 = o.f0) ∧ 1 ≤ o.f1 ∧ o.f1 ≤ 5) ∧ ∀ d ∈ s.f1, d.f0 ∈ f
theorem pl45 {f : List ByteArray} {m : List S47} (hn : (m.map S47.f0).Nodup) (hm : m.length ≤ 1024) {id : ByteArray} (h : ∃ x ∈ m, x.f0 = id) : ∃ (j : Nat) (x : S47), m[j]? = some x ∧ x.f0 = id ∧ placeOf m id = j ∧ PCall cx.P 45 [encM f m, .str id] (.int .i64 j) := by
  obtain ⟨x, hx, rfl⟩ := h
  obtain ⟨j, hj, e, ep⟩ := place_mem hn hx
  have h45 := c45p f m x.f0 (by omega)
  rw [ep] at h45
  exact ⟨j, x, by rw [← e, getD_of hj]; exact List.getElem?_eq_getElem hj, rfl, ep, h45⟩
theorem ev5 {l : List S78} {i : Nat} {o : S78} (h : l[i]? = some o) (h1 : 1 ≤ o.f1) (h5 : o.f1 ≤ 5) : l[i]? = some ⟨o.f0, 1⟩ ∨ l[i]? = some ⟨o.f0, 2⟩ ∨ l[i]? = some ⟨o.f0, 3⟩ ∨ l[i]? = some ⟨o.f0, 4⟩ ∨ l[i]? = some ⟨o.f0, 5⟩ := by
  obtain ⟨id, e⟩ := o
  dsimp only at h1 h5 ⊢
  have : e = 1 ∨ e = 2 ∨ e = 3 ∨ e = 4 ∨ e = 5 := by omega
  rcases this with rfl | rfl | rfl | rfl | rfl
  · exact .inl h
  · exact .inr (.inl h)
  · exact .inr (.inr (.inl h))
  · exact .inr (.inr (.inr (.inl h)))
  · exact .inr (.inr (.inr (.inr h)))
theorem met_no1 {v : Vw} {s : S29} {o : S78} (h : o ∈ s.f0) (h2 : onV v o = false) : metB v s = false := by
  unfold metB
  rw [show s.f0.all (onV v) = false by rw [List.all_eq_false]; exact ⟨o, h, by rw [h2]; decide⟩, Bool.false_and]
theorem met_no2 {v : Vw} {s : S29} {d : S93} (h : d ∈ s.f1) (h2 : ifV v d = false) : metB v s = false := by
  unfold metB
  rw [show s.f1.all (ifV v) = false by rw [List.all_eq_false]; exact ⟨d, h, by rw [h2]; decide⟩, Bool.and_false]
theorem all_take {α : Type} {p : α → Bool} {l : List α} {i : Nat} {x : α} (h : ∀ y ∈ l.take i, p y = true) (hx : l[i]? = some x) (hp : p x = true) : ∀ y ∈ l.take (i + 1), p y = true := fun y hy => by
  rw [snoc_take hx] at hy
  rcases List.mem_append.1 hy with hy | hy
  · exact h y hy
  · rw [List.mem_singleton.1 hy]; exact hp
theorem c229 (f : List ByteArray) (m : List S47) (v : Vw) (hn : (m.map S47.f0).Nodup) (hm : m.length ≤ 1024) (hf : f.length ≤ 1024) (s : S29) (hs : SeOk f m s) : PCall cx.P 229 [caR f m v, .agg (enc29 s)] (.bool (metB v s)) := pcallB byR Tryz.f229 (by kernel_rfl) (by kernel_rfl) <| by
  obtain ⟨⟨hl0, hl1⟩, ho, hd⟩ := hs
  have hE0 : (s.f0.map enc78).length = s.f0.length := List.length_map _
  have hE1 : (s.f1.map enc93).length = s.f1.length := List.length_map _
  have hEh : (m.map (hC v)).length = m.length := List.length_map _
  have hEF : (f.map (fC v.F)).length = f.length := List.length_map _
  have h45 := fun {id : ByteArray} (h : ∃ x ∈ m, x.f0 = id) => pl45 (f := f) hn hm h
  have h85 := fun (d : S93) (h : d.f0 ∈ f) => show ∃ j : Nat, f[j]? = some d.f0 ∧ PCall cx.P 85 [caR f m v, .str d.f0] (.int .i64 j) from by
    obtain ⟨a, h1, h2⟩ := c85 f m v d.f0 hf
    rcases h2 with ⟨h2, _⟩ | ⟨j, rfl, hj⟩
    · rw [hasS_iff.2 h] at h2; cases h2
    · exact ⟨j, hj, h1⟩
  unfold encM at h45
  unfold caR at h85 ⊢
  conv => whnf
  refine .inr (.inl ⟨[0, 3, 5], Nat, fun i => ([(0, caR f m v), (3, .bptr 208 0), (5, .int .i64 i)], [(208, .live (.box [.row 2 (s.f0.map enc78), .row 3 (s.f1.map enc93)]))]), fun i => i ≤ s.f0.length ∧ ∀ o ∈ s.f0.take i, onV v o = true, fun i => s.f0.length - i, ?_, ?_⟩)
  · conv => whnf
    exact ⟨0, .of rfl, Nat.zero_le _, fun o h => by cases h⟩
  rintro i ⟨hi, hall⟩
  unfold caR
  conv => whnf
  refine ⟨fun w1 => ?_, fun w1 => ?_⟩
  · have w1 := ltm w1
    refine Exists.elim (at_ex w1) fun o hx => ?_
    have hom : o ∈ s.f0 := List.mem_of_getElem? hx
    have hok := ho o hom
    refine Exists.elim (h45 hok.1) fun j hj => Exists.elim hj fun y hj => ?_
    have hj1 := hj.1
    have hj2 := hj.2.1
    have hj4 := hj.2.2.2
    have hjl := (List.getElem?_eq_some_iff.1 hj1).1
    have d5 := ev5 hx hok.2.1 hok.2.2
    refine Or.elim d5 (fun hx => ?_) fun d5 => ?_
    · conv => whnf
      refine ⟨_, rfl, ?_⟩
      conv => whnf
      conv => whnf
      refine ⟨_, rfl, ?_⟩
      conv => whnf
      conv => whnf
      refine ⟨⟨Int.natCast_nonneg _, by omega⟩, ?_⟩
      conv => whnf
      conv => whnf
      refine ⟨_, map_at hx, ?_⟩
      conv => whnf
      conv => whnf
      refine ⟨_, hj4, ?_⟩
      conv => whnf
      conv => whnf
      refine ⟨⟨Int.natCast_nonneg _, by omega⟩, ?_⟩
      conv => whnf
      conv => whnf
      refine ⟨_, map_at hx, ?_⟩
      conv => whnf
      conv => whnf
      refine ⟨⟨Int.natCast_nonneg _, by omega⟩, ?_⟩
      conv => whnf
      conv => whnf
      refine ⟨by show (0 : Int) ≤ 1 ∧ (1 : Int) < 6; decide, ?_⟩
      conv => whnf
      conv => whnf
      refine ⟨_, map_at hj1, ?_⟩
      conv => whnf
      conv => whnf
      refine ⟨by kernel_rfl, ?_⟩
      conv => whnf
      conv => whnf
      refine ⟨fun w2 => ?_, fun w2 => ?_⟩
      · conv => whnf
        refine Le.lit ?_
        exact Eq.symm <| met_no1 (List.mem_of_getElem? hx) (by show v.h o.f0 1 = false; rw [← hj2]; simpa using w2)
      · conv => whnf
        refine ⟨i + 1, ?_, ⟨w1, all_take hall hx (by show v.h o.f0 1 = true; rw [← hj2]; simpa using w2)⟩, by show s.f0.length - (i + 1) < s.f0.length - i; omega⟩
        dsimp only
        rw [up1 w1 (by omega)]
        exact .of rfl
    refine Or.elim d5 (fun hx => ?_) fun d5 => ?_
    · conv => whnf
      refine ⟨_, rfl, ?_⟩
      conv => whnf
      conv => whnf
      refine ⟨_, rfl, ?_⟩
      conv => whnf
      conv => whnf
      refine ⟨⟨Int.natCast_nonneg _, by omega⟩, ?_⟩
      conv => whnf
      conv => whnf
      refine ⟨_, map_at hx, ?_⟩
      conv => whnf
      conv => whnf
      refine ⟨_, hj4, ?_⟩
      conv => whnf
      conv => whnf
      refine ⟨⟨Int.natCast_nonneg _, by omega⟩, ?_⟩
      conv => whnf
      conv => whnf
      refine ⟨_, map_at hx, ?_⟩
      conv => whnf
      conv => whnf
      refine ⟨⟨Int.natCast_nonneg _, by omega⟩, ?_⟩
      conv => whnf
      conv => whnf
      refine ⟨by show (0 : Int) ≤ 2 ∧ (2 : Int) < 6; decide, ?_⟩
      conv => whnf
      conv => whnf
      refine ⟨_, map_at hj1, ?_⟩
      conv => whnf
      conv => whnf
      refine ⟨by kernel_rfl, ?_⟩
      conv => whnf
      conv => whnf
      refine ⟨fun w2 => ?_, fun w2 => ?_⟩
      · conv => whnf
        refine Le.lit ?_
        exact Eq.symm <| met_no1 (List.mem_of_getElem? hx) (by show v.h o.f0 2 = false; rw [← hj2]; simpa using w2)
      · conv => whnf
        refine ⟨i + 1, ?_, ⟨w1, all_take hall hx (by show v.h o.f0 2 = true; rw [← hj2]; simpa using w2)⟩, by show s.f0.length - (i + 1) < s.f0.length - i; omega⟩
        dsimp only
        rw [up1 w1 (by omega)]
        exact .of rfl
    refine Or.elim d5 (fun hx => ?_) fun d5 => ?_
    · conv => whnf
      refine ⟨_, rfl, ?_⟩
      conv => whnf
      conv => whnf
      refine ⟨_, rfl, ?_⟩
      conv => whnf
      conv => whnf
      refine ⟨⟨Int.natCast_nonneg _, by omega⟩, ?_⟩
      conv => whnf
      conv => whnf
      refine ⟨_, map_at hx, ?_⟩
      conv => whnf
      conv => whnf
      refine ⟨_, hj4, ?_⟩
      conv => whnf
      conv => whnf
      refine ⟨⟨Int.natCast_nonneg _, by omega⟩, ?_⟩
      conv => whnf
      conv => whnf
      refine ⟨_, map_at hx, ?_⟩
      conv => whnf
      conv => whnf
      refine ⟨⟨Int.natCast_nonneg _, by omega⟩, ?_⟩
      conv => whnf
      conv => whnf
      refine ⟨by show (0 : Int) ≤ 3 ∧ (3 : Int) < 6; decide, ?_⟩
      conv => whnf
      conv => whnf
      refine ⟨_, map_at hj1, ?_⟩
      conv => whnf
      conv => whnf
      refine ⟨by kernel_rfl, ?_⟩
      conv => whnf
      conv => whnf
      refine ⟨fun w2 => ?_, fun w2 => ?_⟩
      · conv => whnf
        refine Le.lit ?_
        exact Eq.symm <| met_no1 (List.mem_of_getElem? hx) (by show v.h o.f0 3 = false; rw [← hj2]; simpa using w2)
      · conv => whnf
        refine ⟨i + 1, ?_, ⟨w1, all_take hall hx (by show v.h o.f0 3 = true; rw [← hj2]; simpa using w2)⟩, by show s.f0.length - (i + 1) < s.f0.length - i; omega⟩
        dsimp only
        rw [up1 w1 (by omega)]
        exact .of rfl
    refine Or.elim d5 (fun hx => ?_) fun d5 => ?_
    · conv => whnf
      refine ⟨_, rfl, ?_⟩
      conv => whnf
      conv => whnf
      refine ⟨_, rfl, ?_⟩
      conv => whnf
      conv => whnf
      refine ⟨⟨Int.natCast_nonneg _, by omega⟩, ?_⟩
      conv => whnf
      conv => whnf
      refine ⟨_, map_at hx, ?_⟩
      conv => whnf
      conv => whnf
      refine ⟨_, hj4, ?_⟩
      conv => whnf
      conv => whnf
      refine ⟨⟨Int.natCast_nonneg _, by omega⟩, ?_⟩
      conv => whnf
      conv => whnf
      refine ⟨_, map_at hx, ?_⟩
      conv => whnf
      conv => whnf
      refine ⟨⟨Int.natCast_nonneg _, by omega⟩, ?_⟩
      conv => whnf
      conv => whnf
      refine ⟨by show (0 : Int) ≤ 4 ∧ (4 : Int) < 6; decide, ?_⟩
      conv => whnf
      conv => whnf
      refine ⟨_, map_at hj1, ?_⟩
      conv => whnf
      conv => whnf
      refine ⟨by kernel_rfl, ?_⟩
      conv => whnf
      conv => whnf
      refine ⟨fun w2 => ?_, fun w2 => ?_⟩
      · conv => whnf
        refine Le.lit ?_
        exact Eq.symm <| met_no1 (List.mem_of_getElem? hx) (by show v.h o.f0 4 = false; rw [← hj2]; simpa using w2)
      · conv => whnf
        refine ⟨i + 1, ?_, ⟨w1, all_take hall hx (by show v.h o.f0 4 = true; rw [← hj2]; simpa using w2)⟩, by show s.f0.length - (i + 1) < s.f0.length - i; omega⟩
        dsimp only
        rw [up1 w1 (by omega)]
        exact .of rfl
    have hx := d5
    conv => whnf
    refine ⟨_, rfl, ?_⟩
    conv => whnf
    conv => whnf
    refine ⟨_, rfl, ?_⟩
    conv => whnf
    conv => whnf
    refine ⟨⟨Int.natCast_nonneg _, by omega⟩, ?_⟩
    conv => whnf
    conv => whnf
    refine ⟨_, map_at hx, ?_⟩
    conv => whnf
    conv => whnf
    refine ⟨_, hj4, ?_⟩
    conv => whnf
    conv => whnf
    refine ⟨⟨Int.natCast_nonneg _, by omega⟩, ?_⟩
    conv => whnf
    conv => whnf
    refine ⟨_, map_at hx, ?_⟩
    conv => whnf
    conv => whnf
    refine ⟨⟨Int.natCast_nonneg _, by omega⟩, ?_⟩
    conv => whnf
    conv => whnf
    refine ⟨by show (0 : Int) ≤ 5 ∧ (5 : Int) < 6; decide, ?_⟩
    conv => whnf
    conv => whnf
    refine ⟨_, map_at hj1, ?_⟩
    conv => whnf
    conv => whnf
    refine ⟨by kernel_rfl, ?_⟩
    conv => whnf
    conv => whnf
    refine ⟨fun w2 => ?_, fun w2 => ?_⟩
    · conv => whnf
      refine Le.lit ?_
      exact Eq.symm <| met_no1 (List.mem_of_getElem? hx) (by show v.h o.f0 5 = false; rw [← hj2]; simpa using w2)
    · conv => whnf
      refine ⟨i + 1, ?_, ⟨w1, all_take hall hx (by show v.h o.f0 5 = true; rw [← hj2]; simpa using w2)⟩, by show s.f0.length - (i + 1) < s.f0.length - i; omega⟩
      dsimp only
      rw [up1 w1 (by omega)]
      exact .of rfl
  · have hjN : i = s.f0.length := by have := nlti (by rw [List.length_map] at w1; exact w1); omega
    rw [hjN, List.take_length] at hall
    have hall0 : s.f0.all (onV v) = true := List.all_eq_true.2 hall
    conv => whnf
    refine .inr (.inl ⟨[0, 3, 6], Nat, fun i => ([(0, caR f m v), (3, .bptr 208 0), (6, .int .i64 i)], [(208, .live (.box [.row 2 (s.f0.map enc78), .row 3 (s.f1.map enc93)]))]), fun i => i ≤ s.f1.length ∧ ∀ o ∈ s.f1.take i, ifV v o = true, fun i => s.f1.length - i, ?_, ?_⟩)
    · conv => whnf
      exact ⟨0, .of rfl, Nat.zero_le _, fun o h => by cases h⟩
    rintro i ⟨hi, hall⟩
    unfold caR
    conv => whnf
    refine ⟨fun w1 => ?_, fun w1 => ?_⟩
    · have w1 := ltm w1
      refine Exists.elim (at_ex w1) fun d hx => ?_
      have hdm : d ∈ s.f1 := List.mem_of_getElem? hx
      refine Exists.elim (h85 d (hd d hdm)) fun j hj => ?_
      have hj1 := hj.1
      have hj2 := hj.2
      have hjl := (List.getElem?_eq_some_iff.1 hj1).1
      have h269 := c269 (v.F d.f0) d.f1 d.f2
      conv => whnf
      refine ⟨_, rfl, ?_⟩
      conv => whnf
      conv => whnf
      refine ⟨⟨Int.natCast_nonneg _, by omega⟩, ?_⟩
      conv => whnf
      conv => whnf
      refine ⟨_, map_at hx, ?_⟩
      conv => whnf
      conv => whnf
      refine ⟨_, hj2, ?_⟩
      conv => whnf
      conv => whnf
      refine ⟨⟨Int.natCast_nonneg _, by omega⟩, ?_⟩
      conv => whnf
      conv => whnf
      refine ⟨_, map_at hj1, ?_⟩
      conv => whnf
      conv => whnf
      refine ⟨⟨Int.natCast_nonneg _, by omega⟩, ?_⟩
      conv => whnf
      conv => whnf
      refine ⟨_, map_at hx, ?_⟩
      conv => whnf
      conv => whnf
      refine ⟨⟨Int.natCast_nonneg _, by omega⟩, ?_⟩
      conv => whnf
      conv => whnf
      refine ⟨_, map_at hx, ?_⟩
      conv => whnf
      conv => whnf
      refine ⟨_, h269, ?_⟩
      conv => whnf
      conv => whnf
      refine ⟨by kernel_rfl, ?_⟩
      conv => whnf
      conv => whnf
      refine ⟨fun w2 => ?_, fun w2 => ?_⟩
      · conv => whnf
        refine Le.lit (Eq.symm ?_)
        exact met_no2 hdm (by show holdB _ _ _ = false; simpa using w2)
      · conv => whnf
        refine ⟨i + 1, ?_, ⟨w1, all_take hall hx (by show holdB _ _ _ = true; simpa using w2)⟩, by show s.f1.length - (i + 1) < s.f1.length - i; omega⟩
        dsimp only
        rw [up1 w1 (by omega)]
        exact .of rfl
    · have hjN : i = s.f1.length := by have := nlti (by rw [List.length_map] at w1; exact w1); omega
      rw [hjN, List.take_length] at hall
      have hall1 : s.f1.all (ifV v) = true := List.all_eq_true.2 hall
      conv => whnf
      refine Le.lit ?_
      unfold metB
      rw [hall0, hall1]
      rfl
end Go.Ab
namespace Go.Ab
open Go.Proofs Sn
set_option maxRecDepth 100000
set_option linter.unnecessarySimpa false
set_option linter.unusedSimpArgs false
set_option linter.unusedVariables false
set_option maxHeartbeats 40000000
structure CaOk (f : List ByteArray) (m : List S47) : Prop where
  hn : (m.map S47.f0).Nodup
  hm : m.length ≤ 1024
  hf : f.length ≤ 1024
  se : ∀ x ∈ m, (x.f5.length ≤ 1024 ∧ ∀ s ∈ x.f5, SeOk f m s) ∧ x.f6.length ≤ 1024 ∧ ∀ s ∈ x.f6, SeOk f m s
theorem c183 (f : List ByteArray) (m : List S47) (v : Vw) (hm : CaOk f m) (l : List S29) (hl : l.length ≤ 1024) (hs : ∀ s ∈ l, SeOk f m s) : PCall cx.P 183 [caR f m v, .row 2 (l.map enc29)] (.bool (anyB v l)) := pcallB byR Tryz.f183 (by kernel_rfl) (by kernel_rfl) <| by
  have hE : (l.map enc29).length = l.length := List.length_map _
  have h229 := fun (s : S29) (h : s ∈ l) => c229 f m v hm.hn hm.hm hm.hf s (hs s h)
  unfold caR at h229 ⊢
  conv => whnf
  refine .inr (.inl ⟨[0, 1, 5], Nat, fun i => ([(0, caR f m v), (1, .row 2 (l.map enc29)), (5, .int .i64 i)], []), fun i => i ≤ l.length ∧ ∀ s ∈ l.take i, metB v s = false, fun i => l.length - i, ?_, ?_⟩)
  · conv => whnf
    exact ⟨0, .of rfl, Nat.zero_le _, fun o h => by cases h⟩
  rintro i ⟨hi, hall⟩
  unfold caR
  conv => whnf
  refine ⟨fun w1 => ?_, fun w1 => ?_⟩
  · have w1 := ltm w1
    refine Exists.elim (at_ex w1) fun s hx => ?_
    have h229 := h229 s (List.mem_of_getElem? hx)
    conv => whnf
    refine ⟨⟨Int.natCast_nonneg _, by omega⟩, ?_⟩
    conv => whnf
    conv => whnf
    refine ⟨_, map_at hx, ?_⟩
    conv => whnf
    conv => whnf
    refine ⟨_, h229, ?_⟩
    conv => whnf
    conv => whnf
    refine ⟨fun w2 => ?_, fun w2 => ?_⟩
    · conv => whnf
      refine Le.lit ?_
      exact Eq.symm <| List.any_eq_true.2 ⟨s, List.mem_of_getElem? hx, w2⟩
    · conv => whnf
      refine ⟨i + 1, ?_, ⟨w1, fun y hy => ?_⟩, by show l.length - (i + 1) < l.length - i; omega⟩
      · dsimp only
        rw [up1 w1 (by omega)]
        exact .of rfl
      · rw [snoc_take hx] at hy
        rcases List.mem_append.1 hy with hy | hy
        · exact hall y hy
        · rw [List.mem_singleton.1 hy]; exact w2
  · have hjN : i = l.length := by have := nlti (by rw [List.length_map] at w1; exact w1); omega
    rw [hjN, List.take_length] at hall
    conv => whnf
    refine Le.lit (Eq.symm ?_)
    unfold anyB
    rw [List.any_eq_false]
    exact fun s hs => by rw [hall s hs]; decide
theorem c41 (f : List ByteArray) (m : List S47) (v : Vw) (hm : CaOk f m) (id : ByteArray) : PCall cx.P 41 [caR f m v, .str id] (.int .i64 (stateV v m id)) := by
  have hE : (m.map (iC v.s)).length = m.length := List.length_map _
  unfold stateV
  cases hh : hasI m id with
  | true =>
    obtain ⟨j, y, h1, h2, _, h45⟩ := pl45 (f := f) hm.hn hm.hm (hasI_iff.1 hh)
    have hjl := (List.getElem?_eq_some_iff.1 h1).1
    have hml := hm.hm
    refine pcallB byR Tryz.f41 (by kernel_rfl) (by kernel_rfl) ?_
    unfold encM at h45
    unfold caR
    conv => whnf
    refine ⟨_, rfl, ?_⟩
    conv => whnf
    conv => whnf
    refine ⟨_, h45, ?_⟩
    conv => whnf
    conv => whnf
    refine ⟨fun w1 => ?_, fun w1 => ?_⟩
    · have := of_decide_eq_true w1
      omega
    conv => whnf
    refine ⟨_, rfl, ?_⟩
    conv => whnf
    conv => whnf
    refine ⟨⟨Int.natCast_nonneg _, by omega⟩, ?_⟩
    conv => whnf
    conv => whnf
    refine ⟨_, map_at h1, ?_⟩
    conv => whnf
    conv => whnf
    rw [← h2]
    exact .refl
  | false =>
    have h45 := c45p f m id (by have := hm.hm; omega)
    have hp : placeOf m id < 0 := by
      unfold hasI at hh
      have := of_decide_eq_false hh
      omega
    refine pcallB byR Tryz.f41 (by kernel_rfl) (by kernel_rfl) ?_
    unfold encM at h45
    unfold caR
    conv => whnf
    refine ⟨_, rfl, ?_⟩
    conv => whnf
    conv => whnf
    refine ⟨_, h45, ?_⟩
    conv => whnf
    conv => whnf
    refine ⟨fun w1 => ?_, fun w1 => ?_⟩
    · conv => whnf
      exact .refl
    · have := of_decide_eq_false w1
      omega
theorem c130 (f : List ByteArray) (m : List S47) (v : Vw) (hm : CaOk f m) {i : Nat} {x : S47} (hx : m[i]? = some x) (hp : (i = 0 ∧ rtB x = true) ∨ (0 < i ∧ rtB x = false ∧ ∃ y ∈ m, y.f0 = x.f2)) : PCall cx.P 130 [caR f m v, .int .i64 i] (.int .i64 (early v x)) := pcallB byR Tryz.f130 (by kernel_rfl) (by kernel_rfl) <| by
  have hE : (m.map (iC v.s)).length = m.length := List.length_map _
  have hEm : (m.map enc47).length = m.length := List.length_map _
  have hil := (List.getElem?_eq_some_iff.1 hx).1
  have hml := hm.hm
  have hse := hm.se x (List.mem_of_getElem? hx)
  have h133 := c133 f m v hx
  have h5 := c183 f m v hm x.f5 hse.1.1 hse.1.2
  have h6 := c183 f m v hm x.f6 hse.2.1 hse.2.2
  have h45 := fun {id : ByteArray} (h : ∃ y ∈ m, y.f0 = id) => pl45 (f := f) hm.hn hm.hm h
  unfold encM at h45
  unfold caR at h133 h5 h6 ⊢
  conv => whnf
  refine ⟨_, rfl, ?_⟩
  conv => whnf
  conv => whnf
  refine ⟨⟨Int.natCast_nonneg _, by omega⟩, ?_⟩
  conv => whnf
  conv => whnf
  refine ⟨_, map_at hx, ?_⟩
  conv => whnf
  conv => whnf
  refine ⟨_, h133, ?_⟩
  conv => whnf
  conv => whnf
  refine ⟨fun wT => ?_, fun wT => ?_⟩
  · conv => whnf
    refine ⟨_, h6, ?_⟩
    conv => whnf
    conv => whnf
    refine ⟨fun a6 => ?_, fun a6 => ?_⟩
    · conv => whnf
      rw [show early v x = 5 from by simp only [early, wT, a6, Bool.true_and, Bool.false_and, Bool.and_true, Bool.and_false, Bool.or_true, Bool.true_or, Bool.false_or, Bool.or_false, Bool.not_true, Bool.not_false, cond_true, cond_false]]
      exact .refl
    · conv => whnf
      refine ⟨_, rfl, ?_⟩
      conv => whnf
      conv => whnf
      refine ⟨⟨Int.natCast_nonneg _, by omega⟩, ?_⟩
      conv => whnf
      conv => whnf
      refine ⟨_, map_at hx, ?_⟩
      conv => whnf
      conv => whnf
      refine ⟨fun s1 => ?_, fun s1 => ?_⟩
      · have e1 : (v.s x.f0 == 1) = true := s1
        conv => whnf
        refine ⟨fun kk => ?_, fun kk => ?_⟩
        · have ek : decide (x.f1 ≤ 3) = true := kk
          conv => whnf
          refine ⟨fun l0 => ?_, fun l0 => ?_⟩
          · have el : decide (x.f5.length = 0) = true := by simpa using l0
            conv => whnf
            refine ⟨fun k3 => ?_, fun k3 => ?_⟩
            · have e3 : (x.f1 == 3) = true := k3
              conv => whnf
              rw [show early v x = 4 from by simp only [early, wT, a6, e1, ek, el, e3, Bool.true_and, Bool.false_and, Bool.and_true, Bool.and_false, Bool.or_true, Bool.true_or, Bool.false_or, Bool.or_false, Bool.not_true, Bool.not_false, cond_true, cond_false]]
              exact .refl
            · have e3 : (x.f1 == 3) = false := k3
              conv => whnf
              rw [show early v x = 2 from by simp only [early, wT, a6, e1, ek, el, e3, Bool.true_and, Bool.false_and, Bool.and_true, Bool.and_false, Bool.or_true, Bool.true_or, Bool.false_or, Bool.or_false, Bool.not_true, Bool.not_false, cond_true, cond_false]]
              exact .refl
          · have el : decide (x.f5.length = 0) = false := by simpa using l0
            conv => whnf
            refine ⟨_, h5, ?_⟩
            conv => whnf
            conv => whnf
            refine ⟨fun a5 => ?_, fun a5 => ?_⟩
            · conv => whnf
              refine ⟨fun k3 => ?_, fun k3 => ?_⟩
              · have e3 : (x.f1 == 3) = true := k3
                conv => whnf
                rw [show early v x = 4 from by simp only [early, wT, a6, e1, ek, el, a5, e3, Bool.true_and, Bool.false_and, Bool.and_true, Bool.and_false, Bool.or_true, Bool.true_or, Bool.false_or, Bool.or_false, Bool.not_true, Bool.not_false, cond_true, cond_false]]
                exact .refl
              · have e3 : (x.f1 == 3) = false := k3
                conv => whnf
                rw [show early v x = 2 from by simp only [early, wT, a6, e1, ek, el, a5, e3, Bool.true_and, Bool.false_and, Bool.and_true, Bool.and_false, Bool.or_true, Bool.true_or, Bool.false_or, Bool.or_false, Bool.not_true, Bool.not_false, cond_true, cond_false]]
                exact .refl
            · conv => whnf
              refine ⟨_, rfl, ?_⟩
              conv => whnf
              conv => whnf
              refine ⟨⟨Int.natCast_nonneg _, by omega⟩, ?_⟩
              conv => whnf
              conv => whnf
              refine ⟨_, map_at hx, ?_⟩
              conv => whnf
              conv => whnf
              refine ⟨fun u0 => ?_, fun u0 => ?_⟩
              · have e0 : (v.s x.f0 == 0) = true := u0
                rcases hp with ⟨hi0, hrt⟩ | ⟨hi0, hrt, hpar⟩
                · conv => whnf
                  refine ⟨fun u1 => ?_, fun u1 => ?_⟩
                  · have := of_decide_eq_true u1
                    omega
                  · conv => whnf
                    refine ⟨by kernel_rfl, ?_⟩
                    conv => whnf
                    conv => whnf
                    conv => whnf
                    rw [show early v x = 0 from by simp only [early, wT, a6, e1, ek, el, a5, e0, hrt, Bool.true_and, Bool.false_and, Bool.and_true, Bool.and_false, Bool.or_true, Bool.true_or, Bool.false_or, Bool.or_false, Bool.not_true, Bool.not_false, cond_true, cond_false]]
                    exact .refl
                · refine Exists.elim (h45 hpar) fun j hj => Exists.elim hj fun y hj => ?_
                  have hj1 := hj.1
                  have hj2 := hj.2.1
                  have hj4 := hj.2.2.2
                  have hjl := (List.getElem?_eq_some_iff.1 hj1).1
                  conv => whnf
                  refine ⟨fun u1 => ?_, fun u1 => ?_⟩
                  · conv => whnf
                    refine ⟨_, rfl, ?_⟩
                    conv => whnf
                    conv => whnf
                    refine ⟨_, rfl, ?_⟩
                    conv => whnf
                    conv => whnf
                    refine ⟨_, hj4, ?_⟩
                    conv => whnf
                    conv => whnf
                    refine ⟨⟨Int.natCast_nonneg _, by omega⟩, ?_⟩
                    conv => whnf
                    conv => whnf
                    refine ⟨_, map_at hj1, ?_⟩
                    conv => whnf
                    conv => whnf
                    refine ⟨by kernel_rfl, ?_⟩
                    conv => whnf
                    conv => whnf
                    refine ⟨fun u2 => ?_, fun u2 => ?_⟩
                    · have e2 : (v.s x.f2 == 2) = true := by rw [← hj2]; exact u2
                      conv => whnf
                      rw [show early v x = 1 from by simp only [early, wT, a6, e1, ek, el, a5, e0, hrt, e2, Bool.true_and, Bool.false_and, Bool.and_true, Bool.and_false, Bool.or_true, Bool.true_or, Bool.false_or, Bool.or_false, Bool.not_true, Bool.not_false, cond_true, cond_false]]
                      exact .refl
                    · have e2 : (v.s x.f2 == 2) = false := by rw [← hj2]; exact u2
                      conv => whnf
                      rw [show early v x = 0 from by simp only [early, wT, a6, e1, ek, el, a5, e0, hrt, e2, Bool.true_and, Bool.false_and, Bool.and_true, Bool.and_false, Bool.or_true, Bool.true_or, Bool.false_or, Bool.or_false, Bool.not_true, Bool.not_false, cond_true, cond_false]]
                      exact .refl
                  · have := of_decide_eq_false u1
                    omega
              · have e0 : (v.s x.f0 == 0) = false := u0
                conv => whnf
                refine ⟨by kernel_rfl, ?_⟩
                conv => whnf
                conv => whnf
                conv => whnf
                rw [show early v x = 0 from by simp only [early, wT, a6, e1, ek, el, a5, e0, Bool.true_and, Bool.false_and, Bool.and_true, Bool.and_false, Bool.or_true, Bool.true_or, Bool.false_or, Bool.or_false, Bool.not_true, Bool.not_false, cond_true, cond_false]]
                exact .refl
        · have ek : decide (x.f1 ≤ 3) = false := kk
          conv => whnf
          refine ⟨_, rfl, ?_⟩
          conv => whnf
          conv => whnf
          refine ⟨⟨Int.natCast_nonneg _, by omega⟩, ?_⟩
          conv => whnf
          conv => whnf
          refine ⟨_, map_at hx, ?_⟩
          conv => whnf
          conv => whnf
          refine ⟨fun u0 => ?_, fun u0 => ?_⟩
          · have e0 : (v.s x.f0 == 0) = true := u0
            rcases hp with ⟨hi0, hrt⟩ | ⟨hi0, hrt, hpar⟩
            · conv => whnf
              refine ⟨fun u1 => ?_, fun u1 => ?_⟩
              · have := of_decide_eq_true u1
                omega
              · conv => whnf
                refine ⟨by kernel_rfl, ?_⟩
                conv => whnf
                conv => whnf
                conv => whnf
                rw [show early v x = 0 from by simp only [early, wT, a6, e1, ek, e0, hrt, Bool.true_and, Bool.false_and, Bool.and_true, Bool.and_false, Bool.or_true, Bool.true_or, Bool.false_or, Bool.or_false, Bool.not_true, Bool.not_false, cond_true, cond_false]]
                exact .refl
            · refine Exists.elim (h45 hpar) fun j hj => Exists.elim hj fun y hj => ?_
              have hj1 := hj.1
              have hj2 := hj.2.1
              have hj4 := hj.2.2.2
              have hjl := (List.getElem?_eq_some_iff.1 hj1).1
              conv => whnf
              refine ⟨fun u1 => ?_, fun u1 => ?_⟩
              · conv => whnf
                refine ⟨_, rfl, ?_⟩
                conv => whnf
                conv => whnf
                refine ⟨_, rfl, ?_⟩
                conv => whnf
                conv => whnf
                refine ⟨_, hj4, ?_⟩
                conv => whnf
                conv => whnf
                refine ⟨⟨Int.natCast_nonneg _, by omega⟩, ?_⟩
                conv => whnf
                conv => whnf
                refine ⟨_, map_at hj1, ?_⟩
                conv => whnf
                conv => whnf
                refine ⟨by kernel_rfl, ?_⟩
                conv => whnf
                conv => whnf
                refine ⟨fun u2 => ?_, fun u2 => ?_⟩
                · have e2 : (v.s x.f2 == 2) = true := by rw [← hj2]; exact u2
                  conv => whnf
                  rw [show early v x = 1 from by simp only [early, wT, a6, e1, ek, e0, hrt, e2, Bool.true_and, Bool.false_and, Bool.and_true, Bool.and_false, Bool.or_true, Bool.true_or, Bool.false_or, Bool.or_false, Bool.not_true, Bool.not_false, cond_true, cond_false]]
                  exact .refl
                · have e2 : (v.s x.f2 == 2) = false := by rw [← hj2]; exact u2
                  conv => whnf
                  rw [show early v x = 0 from by simp only [early, wT, a6, e1, ek, e0, hrt, e2, Bool.true_and, Bool.false_and, Bool.and_true, Bool.and_false, Bool.or_true, Bool.true_or, Bool.false_or, Bool.or_false, Bool.not_true, Bool.not_false, cond_true, cond_false]]
                  exact .refl
              · have := of_decide_eq_false u1
                omega
          · have e0 : (v.s x.f0 == 0) = false := u0
            conv => whnf
            refine ⟨by kernel_rfl, ?_⟩
            conv => whnf
            conv => whnf
            conv => whnf
            rw [show early v x = 0 from by simp only [early, wT, a6, e1, ek, e0, Bool.true_and, Bool.false_and, Bool.and_true, Bool.and_false, Bool.or_true, Bool.true_or, Bool.false_or, Bool.or_false, Bool.not_true, Bool.not_false, cond_true, cond_false]]
            exact .refl
      · have e1 : (v.s x.f0 == 1) = false := s1
        conv => whnf
        refine ⟨_, rfl, ?_⟩
        conv => whnf
        conv => whnf
        refine ⟨⟨Int.natCast_nonneg _, by omega⟩, ?_⟩
        conv => whnf
        conv => whnf
        refine ⟨_, map_at hx, ?_⟩
        conv => whnf
        conv => whnf
        refine ⟨fun u0 => ?_, fun u0 => ?_⟩
        · have e0 : (v.s x.f0 == 0) = true := u0
          rcases hp with ⟨hi0, hrt⟩ | ⟨hi0, hrt, hpar⟩
          · conv => whnf
            refine ⟨fun u1 => ?_, fun u1 => ?_⟩
            · have := of_decide_eq_true u1
              omega
            · conv => whnf
              refine ⟨by kernel_rfl, ?_⟩
              conv => whnf
              conv => whnf
              conv => whnf
              rw [show early v x = 0 from by simp only [early, wT, a6, e1, e0, hrt, Bool.true_and, Bool.false_and, Bool.and_true, Bool.and_false, Bool.or_true, Bool.true_or, Bool.false_or, Bool.or_false, Bool.not_true, Bool.not_false, cond_true, cond_false]]
              exact .refl
          · refine Exists.elim (h45 hpar) fun j hj => Exists.elim hj fun y hj => ?_
            have hj1 := hj.1
            have hj2 := hj.2.1
            have hj4 := hj.2.2.2
            have hjl := (List.getElem?_eq_some_iff.1 hj1).1
            conv => whnf
            refine ⟨fun u1 => ?_, fun u1 => ?_⟩
            · conv => whnf
              refine ⟨_, rfl, ?_⟩
              conv => whnf
              conv => whnf
              refine ⟨_, rfl, ?_⟩
              conv => whnf
              conv => whnf
              refine ⟨_, hj4, ?_⟩
              conv => whnf
              conv => whnf
              refine ⟨⟨Int.natCast_nonneg _, by omega⟩, ?_⟩
              conv => whnf
              conv => whnf
              refine ⟨_, map_at hj1, ?_⟩
              conv => whnf
              conv => whnf
              refine ⟨by kernel_rfl, ?_⟩
              conv => whnf
              conv => whnf
              refine ⟨fun u2 => ?_, fun u2 => ?_⟩
              · have e2 : (v.s x.f2 == 2) = true := by rw [← hj2]; exact u2
                conv => whnf
                rw [show early v x = 1 from by simp only [early, wT, a6, e1, e0, hrt, e2, Bool.true_and, Bool.false_and, Bool.and_true, Bool.and_false, Bool.or_true, Bool.true_or, Bool.false_or, Bool.or_false, Bool.not_true, Bool.not_false, cond_true, cond_false]]
                exact .refl
              · have e2 : (v.s x.f2 == 2) = false := by rw [← hj2]; exact u2
                conv => whnf
                rw [show early v x = 0 from by simp only [early, wT, a6, e1, e0, hrt, e2, Bool.true_and, Bool.false_and, Bool.and_true, Bool.and_false, Bool.or_true, Bool.true_or, Bool.false_or, Bool.or_false, Bool.not_true, Bool.not_false, cond_true, cond_false]]
                exact .refl
            · have := of_decide_eq_false u1
              omega
        · have e0 : (v.s x.f0 == 0) = false := u0
          conv => whnf
          refine ⟨by kernel_rfl, ?_⟩
          conv => whnf
          conv => whnf
          conv => whnf
          rw [show early v x = 0 from by simp only [early, wT, a6, e1, e0, Bool.true_and, Bool.false_and, Bool.and_true, Bool.and_false, Bool.or_true, Bool.true_or, Bool.false_or, Bool.or_false, Bool.not_true, Bool.not_false, cond_true, cond_false]]
          exact .refl
  · conv => whnf
    refine ⟨_, rfl, ?_⟩
    conv => whnf
    conv => whnf
    refine ⟨⟨Int.natCast_nonneg _, by omega⟩, ?_⟩
    conv => whnf
    conv => whnf
    refine ⟨_, map_at hx, ?_⟩
    conv => whnf
    conv => whnf
    refine ⟨fun s1 => ?_, fun s1 => ?_⟩
    · have e1 : (v.s x.f0 == 1) = true := s1
      conv => whnf
      refine ⟨fun kk => ?_, fun kk => ?_⟩
      · have ek : decide (x.f1 ≤ 3) = true := kk
        conv => whnf
        refine ⟨fun l0 => ?_, fun l0 => ?_⟩
        · have el : decide (x.f5.length = 0) = true := by simpa using l0
          conv => whnf
          refine ⟨fun k3 => ?_, fun k3 => ?_⟩
          · have e3 : (x.f1 == 3) = true := k3
            conv => whnf
            rw [show early v x = 4 from by simp only [early, wT, e1, ek, el, e3, Bool.true_and, Bool.false_and, Bool.and_true, Bool.and_false, Bool.or_true, Bool.true_or, Bool.false_or, Bool.or_false, Bool.not_true, Bool.not_false, cond_true, cond_false]]
            exact .refl
          · have e3 : (x.f1 == 3) = false := k3
            conv => whnf
            rw [show early v x = 2 from by simp only [early, wT, e1, ek, el, e3, Bool.true_and, Bool.false_and, Bool.and_true, Bool.and_false, Bool.or_true, Bool.true_or, Bool.false_or, Bool.or_false, Bool.not_true, Bool.not_false, cond_true, cond_false]]
            exact .refl
        · have el : decide (x.f5.length = 0) = false := by simpa using l0
          conv => whnf
          refine ⟨_, h5, ?_⟩
          conv => whnf
          conv => whnf
          refine ⟨fun a5 => ?_, fun a5 => ?_⟩
          · conv => whnf
            refine ⟨fun k3 => ?_, fun k3 => ?_⟩
            · have e3 : (x.f1 == 3) = true := k3
              conv => whnf
              rw [show early v x = 4 from by simp only [early, wT, e1, ek, el, a5, e3, Bool.true_and, Bool.false_and, Bool.and_true, Bool.and_false, Bool.or_true, Bool.true_or, Bool.false_or, Bool.or_false, Bool.not_true, Bool.not_false, cond_true, cond_false]]
              exact .refl
            · have e3 : (x.f1 == 3) = false := k3
              conv => whnf
              rw [show early v x = 2 from by simp only [early, wT, e1, ek, el, a5, e3, Bool.true_and, Bool.false_and, Bool.and_true, Bool.and_false, Bool.or_true, Bool.true_or, Bool.false_or, Bool.or_false, Bool.not_true, Bool.not_false, cond_true, cond_false]]
              exact .refl
          · conv => whnf
            refine ⟨_, rfl, ?_⟩
            conv => whnf
            conv => whnf
            refine ⟨⟨Int.natCast_nonneg _, by omega⟩, ?_⟩
            conv => whnf
            conv => whnf
            refine ⟨_, map_at hx, ?_⟩
            conv => whnf
            conv => whnf
            refine ⟨fun u0 => ?_, fun u0 => ?_⟩
            · have e0 : (v.s x.f0 == 0) = true := u0
              rcases hp with ⟨hi0, hrt⟩ | ⟨hi0, hrt, hpar⟩
              · conv => whnf
                refine ⟨fun u1 => ?_, fun u1 => ?_⟩
                · have := of_decide_eq_true u1
                  omega
                · conv => whnf
                  refine ⟨by kernel_rfl, ?_⟩
                  conv => whnf
                  conv => whnf
                  conv => whnf
                  rw [show early v x = 0 from by simp only [early, wT, e1, ek, el, a5, e0, hrt, Bool.true_and, Bool.false_and, Bool.and_true, Bool.and_false, Bool.or_true, Bool.true_or, Bool.false_or, Bool.or_false, Bool.not_true, Bool.not_false, cond_true, cond_false]]
                  exact .refl
              · refine Exists.elim (h45 hpar) fun j hj => Exists.elim hj fun y hj => ?_
                have hj1 := hj.1
                have hj2 := hj.2.1
                have hj4 := hj.2.2.2
                have hjl := (List.getElem?_eq_some_iff.1 hj1).1
                conv => whnf
                refine ⟨fun u1 => ?_, fun u1 => ?_⟩
                · conv => whnf
                  refine ⟨_, rfl, ?_⟩
                  conv => whnf
                  conv => whnf
                  refine ⟨_, rfl, ?_⟩
                  conv => whnf
                  conv => whnf
                  refine ⟨_, hj4, ?_⟩
                  conv => whnf
                  conv => whnf
                  refine ⟨⟨Int.natCast_nonneg _, by omega⟩, ?_⟩
                  conv => whnf
                  conv => whnf
                  refine ⟨_, map_at hj1, ?_⟩
                  conv => whnf
                  conv => whnf
                  refine ⟨by kernel_rfl, ?_⟩
                  conv => whnf
                  conv => whnf
                  refine ⟨fun u2 => ?_, fun u2 => ?_⟩
                  · have e2 : (v.s x.f2 == 2) = true := by rw [← hj2]; exact u2
                    conv => whnf
                    rw [show early v x = 1 from by simp only [early, wT, e1, ek, el, a5, e0, hrt, e2, Bool.true_and, Bool.false_and, Bool.and_true, Bool.and_false, Bool.or_true, Bool.true_or, Bool.false_or, Bool.or_false, Bool.not_true, Bool.not_false, cond_true, cond_false]]
                    exact .refl
                  · have e2 : (v.s x.f2 == 2) = false := by rw [← hj2]; exact u2
                    conv => whnf
                    rw [show early v x = 0 from by simp only [early, wT, e1, ek, el, a5, e0, hrt, e2, Bool.true_and, Bool.false_and, Bool.and_true, Bool.and_false, Bool.or_true, Bool.true_or, Bool.false_or, Bool.or_false, Bool.not_true, Bool.not_false, cond_true, cond_false]]
                    exact .refl
                · have := of_decide_eq_false u1
                  omega
            · have e0 : (v.s x.f0 == 0) = false := u0
              conv => whnf
              refine ⟨by kernel_rfl, ?_⟩
              conv => whnf
              conv => whnf
              conv => whnf
              rw [show early v x = 0 from by simp only [early, wT, e1, ek, el, a5, e0, Bool.true_and, Bool.false_and, Bool.and_true, Bool.and_false, Bool.or_true, Bool.true_or, Bool.false_or, Bool.or_false, Bool.not_true, Bool.not_false, cond_true, cond_false]]
              exact .refl
      · have ek : decide (x.f1 ≤ 3) = false := kk
        conv => whnf
        refine ⟨_, rfl, ?_⟩
        conv => whnf
        conv => whnf
        refine ⟨⟨Int.natCast_nonneg _, by omega⟩, ?_⟩
        conv => whnf
        conv => whnf
        refine ⟨_, map_at hx, ?_⟩
        conv => whnf
        conv => whnf
        refine ⟨fun u0 => ?_, fun u0 => ?_⟩
        · have e0 : (v.s x.f0 == 0) = true := u0
          rcases hp with ⟨hi0, hrt⟩ | ⟨hi0, hrt, hpar⟩
          · conv => whnf
            refine ⟨fun u1 => ?_, fun u1 => ?_⟩
            · have := of_decide_eq_true u1
              omega
            · conv => whnf
              refine ⟨by kernel_rfl, ?_⟩
              conv => whnf
              conv => whnf
              conv => whnf
              rw [show early v x = 0 from by simp only [early, wT, e1, ek, e0, hrt, Bool.true_and, Bool.false_and, Bool.and_true, Bool.and_false, Bool.or_true, Bool.true_or, Bool.false_or, Bool.or_false, Bool.not_true, Bool.not_false, cond_true, cond_false]]
              exact .refl
          · refine Exists.elim (h45 hpar) fun j hj => Exists.elim hj fun y hj => ?_
            have hj1 := hj.1
            have hj2 := hj.2.1
            have hj4 := hj.2.2.2
            have hjl := (List.getElem?_eq_some_iff.1 hj1).1
            conv => whnf
            refine ⟨fun u1 => ?_, fun u1 => ?_⟩
            · conv => whnf
              refine ⟨_, rfl, ?_⟩
              conv => whnf
              conv => whnf
              refine ⟨_, rfl, ?_⟩
              conv => whnf
              conv => whnf
              refine ⟨_, hj4, ?_⟩
              conv => whnf
              conv => whnf
              refine ⟨⟨Int.natCast_nonneg _, by omega⟩, ?_⟩
              conv => whnf
              conv => whnf
              refine ⟨_, map_at hj1, ?_⟩
              conv => whnf
              conv => whnf
              refine ⟨by kernel_rfl, ?_⟩
              conv => whnf
              conv => whnf
              refine ⟨fun u2 => ?_, fun u2 => ?_⟩
              · have e2 : (v.s x.f2 == 2) = true := by rw [← hj2]; exact u2
                conv => whnf
                rw [show early v x = 1 from by simp only [early, wT, e1, ek, e0, hrt, e2, Bool.true_and, Bool.false_and, Bool.and_true, Bool.and_false, Bool.or_true, Bool.true_or, Bool.false_or, Bool.or_false, Bool.not_true, Bool.not_false, cond_true, cond_false]]
                exact .refl
              · have e2 : (v.s x.f2 == 2) = false := by rw [← hj2]; exact u2
                conv => whnf
                rw [show early v x = 0 from by simp only [early, wT, e1, ek, e0, hrt, e2, Bool.true_and, Bool.false_and, Bool.and_true, Bool.and_false, Bool.or_true, Bool.true_or, Bool.false_or, Bool.or_false, Bool.not_true, Bool.not_false, cond_true, cond_false]]
                exact .refl
            · have := of_decide_eq_false u1
              omega
        · have e0 : (v.s x.f0 == 0) = false := u0
          conv => whnf
          refine ⟨by kernel_rfl, ?_⟩
          conv => whnf
          conv => whnf
          conv => whnf
          rw [show early v x = 0 from by simp only [early, wT, e1, ek, e0, Bool.true_and, Bool.false_and, Bool.and_true, Bool.and_false, Bool.or_true, Bool.true_or, Bool.false_or, Bool.or_false, Bool.not_true, Bool.not_false, cond_true, cond_false]]
          exact .refl
    · have e1 : (v.s x.f0 == 1) = false := s1
      conv => whnf
      refine ⟨_, rfl, ?_⟩
      conv => whnf
      conv => whnf
      refine ⟨⟨Int.natCast_nonneg _, by omega⟩, ?_⟩
      conv => whnf
      conv => whnf
      refine ⟨_, map_at hx, ?_⟩
      conv => whnf
      conv => whnf
      refine ⟨fun u0 => ?_, fun u0 => ?_⟩
      · have e0 : (v.s x.f0 == 0) = true := u0
        rcases hp with ⟨hi0, hrt⟩ | ⟨hi0, hrt, hpar⟩
        · conv => whnf
          refine ⟨fun u1 => ?_, fun u1 => ?_⟩
          · have := of_decide_eq_true u1
            omega
          · conv => whnf
            refine ⟨by kernel_rfl, ?_⟩
            conv => whnf
            conv => whnf
            conv => whnf
            rw [show early v x = 0 from by simp only [early, wT, e1, e0, hrt, Bool.true_and, Bool.false_and, Bool.and_true, Bool.and_false, Bool.or_true, Bool.true_or, Bool.false_or, Bool.or_false, Bool.not_true, Bool.not_false, cond_true, cond_false]]
            exact .refl
        · refine Exists.elim (h45 hpar) fun j hj => Exists.elim hj fun y hj => ?_
          have hj1 := hj.1
          have hj2 := hj.2.1
          have hj4 := hj.2.2.2
          have hjl := (List.getElem?_eq_some_iff.1 hj1).1
          conv => whnf
          refine ⟨fun u1 => ?_, fun u1 => ?_⟩
          · conv => whnf
            refine ⟨_, rfl, ?_⟩
            conv => whnf
            conv => whnf
            refine ⟨_, rfl, ?_⟩
            conv => whnf
            conv => whnf
            refine ⟨_, hj4, ?_⟩
            conv => whnf
            conv => whnf
            refine ⟨⟨Int.natCast_nonneg _, by omega⟩, ?_⟩
            conv => whnf
            conv => whnf
            refine ⟨_, map_at hj1, ?_⟩
            conv => whnf
            conv => whnf
            refine ⟨by kernel_rfl, ?_⟩
            conv => whnf
            conv => whnf
            refine ⟨fun u2 => ?_, fun u2 => ?_⟩
            · have e2 : (v.s x.f2 == 2) = true := by rw [← hj2]; exact u2
              conv => whnf
              rw [show early v x = 1 from by simp only [early, wT, e1, e0, hrt, e2, Bool.true_and, Bool.false_and, Bool.and_true, Bool.and_false, Bool.or_true, Bool.true_or, Bool.false_or, Bool.or_false, Bool.not_true, Bool.not_false, cond_true, cond_false]]
              exact .refl
            · have e2 : (v.s x.f2 == 2) = false := by rw [← hj2]; exact u2
              conv => whnf
              rw [show early v x = 0 from by simp only [early, wT, e1, e0, hrt, e2, Bool.true_and, Bool.false_and, Bool.and_true, Bool.and_false, Bool.or_true, Bool.true_or, Bool.false_or, Bool.or_false, Bool.not_true, Bool.not_false, cond_true, cond_false]]
              exact .refl
          · have := of_decide_eq_false u1
            omega
      · have e0 : (v.s x.f0 == 0) = false := u0
        conv => whnf
        refine ⟨by kernel_rfl, ?_⟩
        conv => whnf
        conv => whnf
        conv => whnf
        rw [show early v x = 0 from by simp only [early, wT, e1, e0, Bool.true_and, Bool.false_and, Bool.and_true, Bool.and_false, Bool.or_true, Bool.true_or, Bool.false_or, Bool.or_false, Bool.not_true, Bool.not_false, cond_true, cond_false]]
        exact .refl
end Go.Ab
namespace Go.Ab
open Go.Proofs Sn
set_option maxRecDepth 100000
set_option linter.unnecessarySimpa false
set_option linter.unusedSimpArgs false
set_option linter.unusedVariables false
set_option maxHeartbeats 40000000
theorem c131 (f : List ByteArray) (m : List S47) (v : Vw) (hm : CaOk f m) (d : ByteArray → Int) {i : Nat} {x : S47} (hx : m[i]? = some x) : PCall cx.P 131 [caR f m v, .int .i64 i, .row 1 (m.map (iC d))] (.bool (complB v d m x)) := pcallB byR Tryz.f131 (by kernel_rfl) (by kernel_rfl) <| by
  have hE : (m.map (iC v.s)).length = m.length := List.length_map _
  have hEd : (m.map (iC d)).length = m.length := List.length_map _
  have hEm : (m.map enc47).length = m.length := List.length_map _
  have hil := (List.getElem?_eq_some_iff.1 hx).1
  have hml := hm.hm
  have h44 := c44 f m x.f0 (by omega)
  have hit := kidsI_items (xs := m) (s := x.f0)
  have hK : ∀ (j : Nat) (a : Int), (kidsI m x.f0)[j]? = some a → ∃ (k : Nat) (y : S47), a = k ∧ m[k]? = some y ∧ rd_T47 m a = y := fun j a h => by
    obtain ⟨k, e, hk, _⟩ := kidsI_mem (List.mem_of_getElem? h)
    exact ⟨k, _, e, List.getElem?_eq_getElem hk, by rw [e]; exact getD_of hk⟩
  have hKl : (kidsI m x.f0).length ≤ 1024 := Nat.le_trans (kidsI_len m x.f0) hml
  generalize kidsI m x.f0 = L at h44 hit hK hKl
  have hEL : (L.map enc0).length = L.length := List.length_map _
  unfold encM at h44
  unfold caR
  conv => whnf
  refine ⟨_, rfl, ?_⟩
  conv => whnf
  conv => whnf
  refine ⟨⟨Int.natCast_nonneg _, by omega⟩, ?_⟩
  conv => whnf
  conv => whnf
  refine ⟨_, map_at hx, ?_⟩
  conv => whnf
  conv => whnf
  refine ⟨fun k1 => ?_, fun k1 => ?_⟩
  · have k1 : (x.f1 == 1) = false := by simpa using k1
    conv => whnf
    rw [show complB v d m x = false from by simp only [complB, k1, Bool.true_and, Bool.false_and, Bool.and_true, Bool.and_false, Bool.or_true, Bool.true_or, Bool.false_or, Bool.or_false, Bool.not_true, Bool.not_false, cond_true, cond_false]]
    exact Le.lit rfl
  · have k1 : (x.f1 == 1) = true := by simpa using k1
    conv => whnf
    refine ⟨_, rfl, ?_⟩
    conv => whnf
    conv => whnf
    refine ⟨⟨Int.natCast_nonneg _, by omega⟩, ?_⟩
    conv => whnf
    conv => whnf
    refine ⟨_, map_at hx, ?_⟩
    conv => whnf
    conv => whnf
    refine ⟨fun s1 => ?_, fun s1 => ?_⟩
    · have s1 : (v.s x.f0 == 2) = false := by simpa using s1
      conv => whnf
      rw [show complB v d m x = false from by simp only [complB, k1, s1, Bool.true_and, Bool.false_and, Bool.and_true, Bool.and_false, Bool.or_true, Bool.true_or, Bool.false_or, Bool.or_false, Bool.not_true, Bool.not_false, cond_true, cond_false]]
      exact Le.lit rfl
    · have s1 : (v.s x.f0 == 2) = true := by simpa using s1
      conv => whnf
      refine ⟨⟨Int.natCast_nonneg _, by omega⟩, ?_⟩
      conv => whnf
      conv => whnf
      refine ⟨_, map_at hx, ?_⟩
      conv => whnf
      conv => whnf
      refine ⟨fun d1 => ?_, fun d1 => ?_⟩
      · have d1 : (d x.f0 == 0) = false := by simpa using d1
        conv => whnf
        rw [show complB v d m x = false from by simp only [complB, k1, s1, d1, Bool.true_and, Bool.false_and, Bool.and_true, Bool.and_false, Bool.or_true, Bool.true_or, Bool.false_or, Bool.or_false, Bool.not_true, Bool.not_false, cond_true, cond_false]]
        exact Le.lit rfl
      · have d1 : (d x.f0 == 0) = true := by simpa using d1
        conv => whnf
        refine ⟨_, rfl, ?_⟩
        conv => whnf
        conv => whnf
        refine ⟨_, h44, ?_⟩
        conv => whnf
        conv => whnf
        refine ⟨by kernel_rfl, ?_⟩
        conv => whnf
        conv => whnf
        refine .inr (.inl ⟨[0, 2, 8, 9], Nat, fun j => ([(0, caR f m v), (2, .row 1 (m.map (iC d))), (8, .row 1 (L.map enc0)), (9, .int .i64 j)], []), fun j => j ≤ L.length ∧ ∀ a ∈ L.take j, kidB v d (rd_T47 m a) = false, fun j => L.length - j, ?_, ?_⟩)
        · conv => whnf
          exact ⟨0, .of rfl, Nat.zero_le _, fun o h => by cases h⟩
        rintro j ⟨hj, hall⟩
        unfold caR
        conv => whnf
        refine ⟨fun w4 => ?_, fun w4 => ?_⟩
        · have w4 := ltm w4
          refine Exists.elim (at_ex w4) fun a ha => Exists.elim (hK j a ha) fun k hk => Exists.elim hk fun y hk => ?_
          have hak := hk.1
          have hrd := hk.2.2
          have hk := hk.2.1
          have ha' : L[j]? = some (k : Int) := hak ▸ ha
          have hkl := (List.getElem?_eq_some_iff.1 hk).1
          have hfin : kidB v d y = true → complB v d m x = false := fun h => by
            unfold complB
            rw [show (kidsOf S47.f2 m x.f0).any (kidB v d) = true from List.any_eq_true.2 ⟨y, by rw [← hit]; exact List.mem_map.2 ⟨a, List.mem_of_getElem? ha, hrd⟩, h⟩]
            simp only [Bool.not_true, Bool.and_false]
          have hnext : kidB v d y = false → ∀ b ∈ L.take (j + 1), kidB v d (rd_T47 m b) = false := fun h b hb => by
            rw [snoc_take ha] at hb
            rcases List.mem_append.1 hb with hb | hb
            · exact hall b hb
            · rw [List.mem_singleton.1 hb, hrd]; exact h
          conv => whnf
          refine ⟨⟨Int.natCast_nonneg _, by omega⟩, ?_⟩
          conv => whnf
          conv => whnf
          refine ⟨_, map_at ha', ?_⟩
          conv => whnf
          conv => whnf
          refine ⟨_, rfl, ?_⟩
          conv => whnf
          conv => whnf
          refine ⟨⟨Int.natCast_nonneg _, by omega⟩, ?_⟩
          conv => whnf
          conv => whnf
          refine ⟨_, map_at hk, ?_⟩
          conv => whnf
          conv => whnf
          refine ⟨fun e0 => ?_, fun e0 => ?_⟩
          · have e0 : (v.s y.f0 == 0) = true := e0
            conv => whnf
            rw [show complB v d m x = false from hfin (by simp only [kidB, e0, Bool.true_and, Bool.false_and, Bool.and_true, Bool.and_false, Bool.or_true, Bool.true_or, Bool.false_or, Bool.or_false, Bool.not_true, Bool.not_false, cond_true, cond_false])]
            exact Le.lit rfl
          · have e0 : (v.s y.f0 == 0) = false := e0
            conv => whnf
            refine ⟨_, rfl, ?_⟩
            conv => whnf
            conv => whnf
            refine ⟨⟨Int.natCast_nonneg _, by omega⟩, ?_⟩
            conv => whnf
            conv => whnf
            refine ⟨_, map_at hk, ?_⟩
            conv => whnf
            conv => whnf
            refine ⟨fun e2 => ?_, fun e2 => ?_⟩
            · have e2 : (v.s y.f0 == 2) = true := e2
              conv => whnf
              rw [show complB v d m x = false from hfin (by simp only [kidB, e0, e2, Bool.true_and, Bool.false_and, Bool.and_true, Bool.and_false, Bool.or_true, Bool.true_or, Bool.false_or, Bool.or_false, Bool.not_true, Bool.not_false, cond_true, cond_false])]
              exact Le.lit rfl
            · have e2 : (v.s y.f0 == 2) = false := e2
              conv => whnf
              refine ⟨⟨Int.natCast_nonneg _, by omega⟩, ?_⟩
              conv => whnf
              conv => whnf
              refine ⟨_, map_at hk, ?_⟩
              conv => whnf
              conv => whnf
              refine ⟨fun f2 => ?_, fun f2 => ?_⟩
              · have f2 : (d y.f0 == 2) = true := f2
                conv => whnf
                rw [show complB v d m x = false from hfin (by simp only [kidB, e0, e2, f2, Bool.true_and, Bool.false_and, Bool.and_true, Bool.and_false, Bool.or_true, Bool.true_or, Bool.false_or, Bool.or_false, Bool.not_true, Bool.not_false, cond_true, cond_false])]
                exact Le.lit rfl
              · have f2 : (d y.f0 == 2) = false := f2
                conv => whnf
                refine ⟨⟨Int.natCast_nonneg _, by omega⟩, ?_⟩
                conv => whnf
                conv => whnf
                refine ⟨_, map_at hk, ?_⟩
                conv => whnf
                conv => whnf
                refine ⟨fun f4 => ?_, fun f4 => ?_⟩
                · have f4 : (d y.f0 == 4) = true := f4
                  conv => whnf
                  rw [show complB v d m x = false from hfin (by simp only [kidB, e0, e2, f2, f4, Bool.true_and, Bool.false_and, Bool.and_true, Bool.and_false, Bool.or_true, Bool.true_or, Bool.false_or, Bool.or_false, Bool.not_true, Bool.not_false, cond_true, cond_false])]
                  exact Le.lit rfl
                · have f4 : (d y.f0 == 4) = false := f4
                  conv => whnf
                  refine ⟨_, rfl, ?_⟩
                  conv => whnf
                  conv => whnf
                  refine ⟨⟨Int.natCast_nonneg _, by omega⟩, ?_⟩
                  conv => whnf
                  conv => whnf
                  refine ⟨_, map_at hk, ?_⟩
                  conv => whnf
                  conv => whnf
                  refine ⟨fun e5 => ?_, fun e5 => ?_⟩
                  · conv => whnf
                    refine ⟨_, rfl, ?_⟩
                    conv => whnf
                    conv => whnf
                    refine ⟨⟨Int.natCast_nonneg _, by omega⟩, ?_⟩
                    conv => whnf
                    conv => whnf
                    refine ⟨_, map_at hk, ?_⟩
                    conv => whnf
                    conv => whnf
                    refine ⟨fun e6 => ?_, fun e6 => ?_⟩
                    · conv => whnf
                      rw [show complB v d m x = false from hfin (by simp only [kidB, e0, e2, f2, f4, e5, e6, Bool.true_and, Bool.false_and, Bool.and_true, Bool.and_false, Bool.or_true, Bool.true_or, Bool.false_or, Bool.or_false, Bool.not_true, Bool.not_false, cond_true, cond_false])]
                      exact Le.lit rfl
                    · conv => whnf
                      refine ⟨j + 1, ?_, ⟨w4, hnext (by simp only [kidB, e0, e2, f2, f4, e5, e6, Bool.true_and, Bool.false_and, Bool.and_true, Bool.and_false, Bool.or_true, Bool.true_or, Bool.false_or, Bool.or_false, Bool.not_true, Bool.not_false, cond_true, cond_false])⟩, by show L.length - (j + 1) < L.length - j; omega⟩
                      dsimp only
                      rw [up1 w4 (by omega)]
                      exact .of rfl
                  · conv => whnf
                    refine ⟨j + 1, ?_, ⟨w4, hnext (by simp only [kidB, e0, e2, f2, f4, e5, Bool.true_and, Bool.false_and, Bool.and_true, Bool.and_false, Bool.or_true, Bool.true_or, Bool.false_or, Bool.or_false, Bool.not_true, Bool.not_false, cond_true, cond_false])⟩, by show L.length - (j + 1) < L.length - j; omega⟩
                    dsimp only
                    rw [up1 w4 (by omega)]
                    exact .of rfl
        · have hjN : j = L.length := by have := nlti (by rw [List.length_map] at w4; exact w4); omega
          rw [hjN, List.take_length] at hall
          conv => whnf
          have hno : (kidsOf S47.f2 m x.f0).any (kidB v d) = false := by
            rw [← hit, List.any_eq_false]
            intro y hy
            obtain ⟨a, ha, rfl⟩ := List.mem_map.1 hy
            rw [hall a ha]
            decide
          rw [show complB v d m x = true from by simp only [complB, k1, s1, d1, hno, Bool.true_and, Bool.false_and, Bool.and_true, Bool.and_false, Bool.or_true, Bool.true_or, Bool.false_or, Bool.or_false, Bool.not_true, Bool.not_false, cond_true, cond_false]]
          exact Le.lit rfl
end Go.Ab
namespace Go.Ab
open Go.Proofs Sn
set_option maxRecDepth 100000
set_option linter.unnecessarySimpa false
set_option linter.unusedSimpArgs false
set_option linter.unusedVariables false
set_option maxHeartbeats 40000000
theorem LeXX.setc {c c' : List AV} (h : LeX c c') : ∀ (es : List (List AV)) (k : Nat), LeXX (es.set k c) (es.set k c')
  | [], _ => .nil
  | e :: es, 0 => .cons h (.refl _)
  | e :: es, k + 1 => .cons (.refl _) (LeXX.setc h es k)
theorem LeXX.of {a b : List (List AV)} (h : a = b) : LeXX a b := h ▸ .refl _
theorem mix_le {g0 g1 : S47 → List AV} {m : List S47} {i : Nat} {x : S47} {c : List AV} (hx : m[i]? = some x) (h : LeX c (g1 x)) : LeXX ((mix g0 g1 m i).set (0 + ((i : Int)).toNat) c) (mix g0 g1 m (i + 1)) := by
  rw [Nat.zero_add, Int.toNat_natCast, ← mix_set hx]
  exact .setc h _ _
theorem mix_le2 {g0 g1 : S47 → List AV} {m : List S47} {i : Nat} {x : S47} {c c' : List AV} (hx : m[i]? = some x) (h : LeX c (g1 x)) : LeXX (((mix g0 g1 m i).set (0 + ((i : Int)).toNat) c').set (0 + ((i : Int)).toNat) c) (mix g0 g1 m (i + 1)) := by
  rw [List.set_set]
  exact mix_le hx h
theorem LeX.one {a b : AV} (h : LeP a b) : LeX [a] [b] := .cons h .nil
theorem LeP.int {k : IntKind} {a b : Int} (h : a = b) : LeP (.int k a) (.int k b) := h ▸ .refl
theorem LeP.bool {a b : Bool} (h : a = b) : LeP (.bool a) (.bool b) := h ▸ .refl
structure MdOk (f : List ByteArray) (m : List S47) (r : S47) : Prop extends CaOk f m where
  fn : f.Nodup
  root : m[0]? = some r
  rt : rtB r = true
  clr : ∀ (v : Vw) (d : ByteArray → Int), clD v m d 16 r.f0 = d r.f0
  par : ∀ (i : Nat) (x : S47), m[i + 1]? = some x → rtB x = false ∧ ∃ (j : Nat) (p : S47), j ≤ i ∧ m[j]? = some p ∧ p.f0 = x.f2 ∧ ∀ (v : Vw) (d : ByteArray → Int), clD v m d 16 x.f0 = bif shutB (clD v m d 16 p.f0) then (bif thereB v x.f0 then 5 else 0) else d x.f0
theorem SeOk.of {fs : List ByteArray} {l : List S47} {s : S29} (h : OkSe fs l s) : SeOk fs l s := ⟨⟨Nat.le_trans h.on3 (by decide), Nat.le_trans h.if2 (by decide)⟩, fun o ho => by
  obtain ⟨x, hx, e, hl⟩ := h.on o ho
  exact ⟨⟨x, hx, e⟩, by rcases hl.2.2 with h | h | h <;> omega⟩, fun d hd => (h.cond d hd).1⟩
theorem MdOk.of {fs : List ByteArray} {r : S47} {F : List S47} (h : Ok fs r F) : MdOk fs (r :: F) r where
  hn := h.nodup
  hm := by have := h.n16; rw [List.length_cons]; omega
  hf := by have := h.files6; omega
  se x hx := ⟨⟨Nat.le_trans (h.items x hx).entry.1 (by decide), fun s hs => .of ((h.items x hx).entry.2 s hs)⟩, Nat.le_trans (h.items x hx).exit.1 (by decide), fun s hs => .of ((h.items x hx).exit.2 s hs)⟩
  fn := h.fnodup
  root := rfl
  rt := (h.rt List.mem_cons_self).2 rfl
  clr v d := h.cl_root v d
  par i x hx := by
    obtain ⟨j, p, hj, hp, e⟩ := h.first hx
    have hxm := List.mem_of_getElem? hx
    have hpm := List.mem_of_getElem? hp
    refine ⟨?_, j, p, hj, hp, e, fun v d => h.cl16 v d hxm hpm e⟩
    cases hr : rtB x with
    | false => rfl
    | true =>
      have := (h.rt hxm).1 hr
      rw [this] at e
      exact absurd e (h.rooted.top p hpm)
def csC (f : List ByteArray) (m : List S47) (v : Vw) (κ : Nat) : List AV := [.row 1 (f.map encT), .row 7 (m.map enc47), .own 1 (κ + 3) 0 m.length .full, .own 6 (κ + 4) 0 m.length .full, .own 1 (κ + 5) 0 f.length .full, .int .i64 v.T, .own 1 (κ + 7) 0 m.length .full, .int .i64 v.N]
def csS (f : List ByteArray) (m : List S47) (v : Vw) (κ : Nat) : Sto := [(κ + 7, .live (.arr 1 (m.map (iC v.e)))), (κ + 5, .live (.arr 1 (f.map (fC v.F)))), (κ + 4, .live (.arr 6 (m.map (hC v)))), (κ + 3, .live (.arr 1 (m.map (iC v.s)))), (κ, .live (.box (csC f m v κ)))]
def csT (f : List ByteArray) (m : List S47) (v : Vw) (κ : Nat) : Sto := [(κ, .live (.box (csC f m v κ))), (κ + 3, .live (.arr 1 (m.map (iC v.s)))), (κ + 4, .live (.arr 6 (m.map (hC v)))), (κ + 5, .live (.arr 1 (f.map (fC v.F)))), (κ + 7, .live (.arr 1 (m.map (iC v.e))))]
theorem c184 {f : List ByteArray} {m : List S47} {r : S47} (hM : MdOk f m r) (v : Vw) (d : ByteArray → Int) : ACall cx.P 184 [.bptr 32 0, .own 1 96 0 m.length .full] ((96, .live (.arr 1 (m.map (iC d)))) :: csS f m v 32) (.own 1 96 0 m.length .full) (csT f m v 32 ++ [(96, .live (.arr 1 (m.map (iC (clD v m d 16)))))]) := acallB byR Tryz.f184 (by kernel_rfl) (by kernel_rfl) rfl <| by
  have hml := hM.hm
  have hn := hM.hn
  have hEm : (m.map enc47).length = m.length := List.length_map _
  have h45 := fun {id : ByteArray} (h : ∃ y ∈ m, y.f0 = id) => pl45 (f := f) hM.hn hM.hm h
  have h133 := fun {i : Nat} {x : S47} (hx : m[i]? = some x) => c133 f m v hx
  unfold encM at h45
  unfold caR at h133
  unfold csS csC
  conv => whnf
  refine ⟨⟨⟨Int.natCast_nonneg _, rfl⟩, by show m.length * 1 ≤ 2 ^ 47; omega⟩, ?_⟩
  conv => whnf
  conv => whnf
  refine .inr (.inl ⟨[0, 1, 5, 6], Nat, fun i => ([(0, .bptr 32 0), (1, .own 1 96 0 m.length .full), (5, .own 1 336 0 m.length .full), (6, .int .i64 i)], (336, .live (.arr 1 (mix (fun _ => [.lit false]) (fun x => [.bool (shutB (clD v m d 16 x.f0))]) m i))) :: (csT f m v 32 ++ [(96, .live (.arr 1 (mix (iC d) (iC (clD v m d 16)) m i)))])), fun i => i ≤ m.length, fun i => m.length - i, ?_, ?_⟩)
  · conv => whnf
    refine ⟨0, ?_, Nat.zero_le _⟩
    dsimp only
    rw [mix_zero, mix_zero, List.map_const']
    exact .of rfl
  intro i hi
  have hi : i ≤ m.length := hi
  dsimp only
  have hEc : (mix (iC d) (iC (clD v m d 16)) m i).length = m.length := mix_len hi
  unfold csT csC
  conv => whnf
  refine ⟨fun w1 => ?_, fun w1 => ?_⟩
  · have w1 : i < m.length := lti w1
    refine Exists.elim (at_ex w1) fun x hx => ?_
    have dx : (i = 0 ∧ clD v m d 16 x.f0 = d x.f0) ∨ ∃ (j : Nat) (p : S47), j < i ∧ m[j]? = some p ∧ PCall cx.P 45 [.agg [.row 1 (f.map encT), .row 7 (m.map enc47)], .str x.f2] (.int .i64 j) ∧ clD v m d 16 x.f0 = bif shutB (clD v m d 16 p.f0) then (bif thereB v x.f0 then 5 else 0) else d x.f0 := by
      cases i with
      | zero =>
        have := hM.root.symm.trans hx
        cases this
        exact .inl ⟨rfl, hM.clr v d⟩
      | succ i =>
        obtain ⟨_, j, p, h1, h2, h3, h4⟩ := hM.par i x hx
        obtain ⟨j', p', k1, k2, k3, k4⟩ := h45 ⟨p, List.mem_of_getElem? h2, h3⟩
        have hp : p' = p := id_inj hn (List.mem_of_getElem? k1) (List.mem_of_getElem? h2) (k2.trans h3.symm)
        subst hp
        have hjj : j' = j := by
          have := (List.getElem?_inj (by exact (List.getElem?_eq_some_iff.1 k1).1) (nodup_of_map hn)).1 (k1.trans h2.symm)
          exact this
        subst hjj
        exact .inr ⟨j', p', by omega, h2, k4, h4 v d⟩
    refine Or.elim dx (fun hA => ?_) fun hB => ?_
    · have hi0 := hA.1
      have hcl := hA.2
      have hc := hcl
      conv => whnf
      refine ⟨fun w2 => ?_, fun w2 => ?_⟩
      · have := of_decide_eq_true w2
        omega
      · conv => whnf
        refine ⟨⟨Int.natCast_nonneg _, by omega⟩, ?_⟩
        conv => whnf
        conv => whnf
        refine ⟨_, mix_ge0 (Nat.le_refl i) hx, ?_⟩
        conv => whnf
        conv => whnf
        refine ⟨fun w5 => ?_, fun w5 => ?_⟩
        · conv => whnf
          refine ⟨⟨Int.natCast_nonneg _, by omega⟩, ?_⟩
          conv => whnf
          conv => whnf
          refine ⟨_, mix_ge0 (Nat.le_refl i) hx, ?_⟩
          conv => whnf
          conv => whnf
          refine ⟨i + 1, ?_, w1, by show m.length - (i + 1) < m.length - i; omega⟩
          dsimp only
          rw [up1 w1 (by omega)]
          exact .le (.refl _) (.cons _ _ _ _ _ (.rows (mix_le hx (.one (.lit (by show true = shutB _; rw [hc]; unfold shutB; rw [w5]; rfl))))) <| .cons _ _ _ _ _ (.refl _) <| .cons _ _ _ _ _ (.refl _) <| .cons _ _ _ _ _ (.refl _) <| .cons _ _ _ _ _ (.refl _) <| .cons _ _ _ _ _ (.refl _) <| .cons _ _ _ _ _ (.rows (.of (mix_skip hx (show iC (clD v m d 16) x = iC d x from by unfold iC; rw [hc])).symm)) <| .refl _)
        · conv => whnf
          refine ⟨⟨Int.natCast_nonneg _, by omega⟩, ?_⟩
          conv => whnf
          conv => whnf
          refine ⟨_, mix_ge0 (Nat.le_refl i) hx, ?_⟩
          conv => whnf
          conv => whnf
          refine ⟨⟨Int.natCast_nonneg _, by omega⟩, ?_⟩
          conv => whnf
          conv => whnf
          refine ⟨_, mix_ge0 (Nat.le_refl i) hx, ?_⟩
          conv => whnf
          conv => whnf
          refine ⟨i + 1, ?_, w1, by show m.length - (i + 1) < m.length - i; omega⟩
          dsimp only
          rw [up1 w1 (by omega)]
          exact .le (.refl _) (.cons _ _ _ _ _ (.rows (mix_le hx (.one (.bool (by show _ = shutB _; rw [hc]; unfold shutB; rw [w5]; rfl))))) <| .cons _ _ _ _ _ (.refl _) <| .cons _ _ _ _ _ (.refl _) <| .cons _ _ _ _ _ (.refl _) <| .cons _ _ _ _ _ (.refl _) <| .cons _ _ _ _ _ (.refl _) <| .cons _ _ _ _ _ (.rows (.of (mix_skip hx (show iC (clD v m d 16) x = iC d x from by unfold iC; rw [hc])).symm)) <| .refl _)
    · refine Exists.elim hB fun j hB => Exists.elim hB fun p hB => ?_
      have hji := hB.1
      have hj1 := hB.2.1
      have hj4 := hB.2.2.1
      have hcl := hB.2.2.2
      have h133 := h133 hx
      conv => whnf
      refine ⟨fun w2 => ?_, fun w2 => ?_⟩
      rotate_left
      · have := of_decide_eq_false w2
        omega
      conv => whnf
      refine ⟨⟨Int.natCast_nonneg _, by omega⟩, ?_⟩
      conv => whnf
      conv => whnf
      refine ⟨_, map_at hx, ?_⟩
      conv => whnf
      conv => whnf
      refine ⟨_, hj4, ?_⟩
      conv => whnf
      conv => whnf
      refine ⟨by kernel_rfl, ?_⟩
      conv => whnf
      conv => whnf
      refine ⟨⟨Int.natCast_nonneg _, by omega⟩, ?_⟩
      conv => whnf
      conv => whnf
      refine ⟨_, mix_lt0 hji hj1, ?_⟩
      conv => whnf
      conv => whnf
      refine ⟨fun w3 => ?_, fun w3 => ?_⟩
      · conv => whnf
        refine ⟨⟨Int.natCast_nonneg _, by omega⟩, ?_⟩
        conv => whnf
        conv => whnf
        refine ⟨_, mix_ge0 (Nat.le_refl i) hx, ?_⟩
        conv => whnf
        conv => whnf
        refine ⟨(by rw [List.length_map, Nat.zero_add]), ?_⟩
        conv => whnf
        conv => whnf
        refine ⟨(by rw [List.length_map, Nat.zero_add]), ?_⟩
        conv => whnf
        conv => whnf
        refine ⟨(by rw [List.length_map, Nat.zero_add]), ?_⟩
        conv => whnf
        conv => whnf
        refine ⟨(by rw [List.length_map, Nat.zero_add]), ?_⟩
        conv => whnf
        conv => whnf
        refine ⟨_, h133, ?_⟩
        conv => whnf
        conv => whnf
        refine ⟨fun w4 => ?_, fun w4 => ?_⟩
        · conv => whnf
          refine ⟨⟨Int.natCast_nonneg _, by omega⟩, ?_⟩
          conv => whnf
          conv => whnf
          refine ⟨_, set_at0 (by rw [hEc]; exact w1), ?_⟩
          conv => whnf
          have hc : clD v m d 16 x.f0 = 5 := by rw [hcl, w3, w4]; rfl
          conv => whnf
          refine ⟨⟨Int.natCast_nonneg _, by omega⟩, ?_⟩
          conv => whnf
          conv => whnf
          refine ⟨_, set_at0 (by rw [List.length_set, hEc]; exact w1), ?_⟩
          conv => whnf
          conv => whnf
          refine ⟨fun w5 => ?_, fun w5 => ?_⟩
          · conv => whnf
            refine ⟨⟨Int.natCast_nonneg _, by omega⟩, ?_⟩
            conv => whnf
            conv => whnf
            refine ⟨_, mix_ge0 (Nat.le_refl i) hx, ?_⟩
            conv => whnf
            conv => whnf
            refine ⟨i + 1, ?_, w1, by show m.length - (i + 1) < m.length - i; omega⟩
            dsimp only
            rw [up1 w1 (by omega)]
            exact .le (.refl _) (.cons _ _ _ _ _ (.rows (mix_le hx (.one (.lit (by show true = shutB _; rw [hc]; unfold shutB; rw [w5]; rfl))))) <| .cons _ _ _ _ _ (.refl _) <| .cons _ _ _ _ _ (.refl _) <| .cons _ _ _ _ _ (.refl _) <| .cons _ _ _ _ _ (.refl _) <| .cons _ _ _ _ _ (.refl _) <| .cons _ _ _ _ _ (.rows (mix_le2 hx (.one (.int (by show _ = clD v m d 16 x.f0; rw [hc]))))) <| .refl _)
          · exact absurd w5 (by decide)
        · have hc : clD v m d 16 x.f0 = 0 := by rw [hcl, w3, w4]; rfl
          conv => whnf
          refine ⟨⟨Int.natCast_nonneg _, by omega⟩, ?_⟩
          conv => whnf
          conv => whnf
          refine ⟨_, set_at0 (by rw [hEc]; exact w1), ?_⟩
          conv => whnf
          conv => whnf
          refine ⟨fun w5 => ?_, fun w5 => ?_⟩
          · exact absurd w5 (by decide)
          · conv => whnf
            refine ⟨⟨Int.natCast_nonneg _, by omega⟩, ?_⟩
            conv => whnf
            conv => whnf
            refine ⟨_, set_at0 (by rw [hEc]; exact w1), ?_⟩
            conv => whnf
            conv => whnf
            refine ⟨⟨Int.natCast_nonneg _, by omega⟩, ?_⟩
            conv => whnf
            conv => whnf
            refine ⟨_, mix_ge0 (Nat.le_refl i) hx, ?_⟩
            conv => whnf
            conv => whnf
            refine ⟨i + 1, ?_, w1, by show m.length - (i + 1) < m.length - i; omega⟩
            dsimp only
            rw [up1 w1 (by omega)]
            exact .le (.refl _) (.cons _ _ _ _ _ (.rows (mix_le hx (.one (.bool (by show _ = shutB _; rw [hc]; unfold shutB; rw [w5]; rfl))))) <| .cons _ _ _ _ _ (.refl _) <| .cons _ _ _ _ _ (.refl _) <| .cons _ _ _ _ _ (.refl _) <| .cons _ _ _ _ _ (.refl _) <| .cons _ _ _ _ _ (.refl _) <| .cons _ _ _ _ _ (.rows (mix_le hx (.one (.int (by show _ = clD v m d 16 x.f0; rw [hc]))))) <| .refl _)
      · have hc : clD v m d 16 x.f0 = d x.f0 := by rw [hcl, w3]; rfl
        conv => whnf
        refine ⟨⟨Int.natCast_nonneg _, by omega⟩, ?_⟩
        conv => whnf
        conv => whnf
        refine ⟨_, mix_ge0 (Nat.le_refl i) hx, ?_⟩
        conv => whnf
        conv => whnf
        refine ⟨fun w5 => ?_, fun w5 => ?_⟩
        · conv => whnf
          refine ⟨⟨Int.natCast_nonneg _, by omega⟩, ?_⟩
          conv => whnf
          conv => whnf
          refine ⟨_, mix_ge0 (Nat.le_refl i) hx, ?_⟩
          conv => whnf
          conv => whnf
          refine ⟨i + 1, ?_, w1, by show m.length - (i + 1) < m.length - i; omega⟩
          dsimp only
          rw [up1 w1 (by omega)]
          exact .le (.refl _) (.cons _ _ _ _ _ (.rows (mix_le hx (.one (.lit (by show true = shutB _; rw [hc]; unfold shutB; rw [w5]; rfl))))) <| .cons _ _ _ _ _ (.refl _) <| .cons _ _ _ _ _ (.refl _) <| .cons _ _ _ _ _ (.refl _) <| .cons _ _ _ _ _ (.refl _) <| .cons _ _ _ _ _ (.refl _) <| .cons _ _ _ _ _ (.rows (.of (mix_skip hx (show iC (clD v m d 16) x = iC d x from by unfold iC; rw [hc])).symm)) <| .refl _)
        · conv => whnf
          refine ⟨⟨Int.natCast_nonneg _, by omega⟩, ?_⟩
          conv => whnf
          conv => whnf
          refine ⟨_, mix_ge0 (Nat.le_refl i) hx, ?_⟩
          conv => whnf
          conv => whnf
          refine ⟨⟨Int.natCast_nonneg _, by omega⟩, ?_⟩
          conv => whnf
          conv => whnf
          refine ⟨_, mix_ge0 (Nat.le_refl i) hx, ?_⟩
          conv => whnf
          conv => whnf
          refine ⟨i + 1, ?_, w1, by show m.length - (i + 1) < m.length - i; omega⟩
          dsimp only
          rw [up1 w1 (by omega)]
          exact .le (.refl _) (.cons _ _ _ _ _ (.rows (mix_le hx (.one (.bool (by show _ = shutB _; rw [hc]; unfold shutB; rw [w5]; rfl))))) <| .cons _ _ _ _ _ (.refl _) <| .cons _ _ _ _ _ (.refl _) <| .cons _ _ _ _ _ (.refl _) <| .cons _ _ _ _ _ (.refl _) <| .cons _ _ _ _ _ (.refl _) <| .cons _ _ _ _ _ (.rows (.of (mix_skip hx (show iC (clD v m d 16) x = iC d x from by unfold iC; rw [hc])).symm)) <| .refl _)
  · have hjN : i = m.length := by have := nlti w1; omega
    conv => whnf
    rw [hjN, mix_all]
    exact .of rfl
end Go.Ab
namespace Go.Ab
open Go.Proofs Sn
set_option maxRecDepth 100000
set_option linter.unnecessarySimpa false
set_option linter.unusedSimpArgs false
set_option linter.unusedVariables false
set_option maxHeartbeats 40000000
theorem any_take {p : S47 → Bool} {m : List S47} {i : Nat} {x : S47} (hx : m[i]? = some x) : (m.take (i + 1)).any p = ((m.take i).any p || p x) := by
  rw [snoc_take hx, List.any_append]
  simp
def toL : List (List AV) := [[.int .i64 0], [.int .i64 1], [.int .i64 2], [.int .i64 3], [.int .i64 3], [.int .i64 4]]
theorem c132 {f : List ByteArray} {m : List S47} {r : S47} (hM : MdOk f m r) (v : Vw) (d : ByteArray → Int) (hc : ∀ x ∈ m, 0 ≤ clD v m d 16 x.f0 ∧ clD v m d 16 x.f0 ≤ 5) : ACall cx.P 132 [.bptr 32 0, .own 1 96 0 m.length .full] ((96, .live (.arr 1 (m.map (iC d)))) :: csS f m v 32) (.bool (doB v m d)) (csT f m (doV v m d) 32 ++ [(96, .live (.arr 1 (m.map (iC (clD v m d 16)))))]) := acallB byR Tryz.f132 (by kernel_rfl) (by kernel_rfl) rfl <| by
  have hml := hM.hm
  have h184 := c184 hM v d
  unfold doB doV doneB
  obtain ⟨c, hcd⟩ : ∃ c, c = clD v m d 16 := ⟨_, rfl⟩
  rw [← hcd] at hc h184 ⊢
  have hEc : (m.map (iC c)).length = m.length := List.length_map _
  unfold csS csT csC at h184
  unfold csS csC
  conv => whnf
  refine ⟨_, _, h184, ?_⟩
  conv => whnf
  conv => whnf
  conv => whnf
  refine .inr (.inl ⟨[0, 1, 5, 6, 7], Nat × Bool, fun x => ([(0, .bptr 32 0), (1, .own 1 96 0 m.length .full), (5, .bool x.2), (6, .own 1 400 0 6 .full), (7, .int .i64 x.1)], [(400, .live (.arr 1 toL)), (32, .live (.box (csC f m v 32))), (35, .live (.arr 1 (mix (iC v.s) (iC (stV v m c).s) m x.1))), (36, .live (.arr 6 (mix (hC v) (hC (stV v m c)) m x.1))), (37, .live (.arr 1 (f.map (fC v.F)))), (39, .live (.arr 1 (mix (iC v.e) (iC (stV v m c).e) m x.1))), (96, .live (.arr 1 (m.map (iC c))))]), fun x => x.1 ≤ m.length ∧ x.2 = (m.take x.1).any (fun y => c y.f0 != 0), fun x => m.length - x.1, ?_, ?_⟩)
  · conv => whnf
    refine ⟨(0, false), ?_, Nat.zero_le _, rfl⟩
    dsimp only
    rw [mix_zero, mix_zero, mix_zero]
    exact .le (.cons _ _ _ _ _ .refl <| .cons _ _ _ _ _ .refl <| .cons _ _ _ _ _ (.lit rfl) <| .refl _) (.refl _)
  rintro ⟨i, tb⟩ ⟨hi, htb⟩
  dsimp only at hi htb
  dsimp only
  unfold csC
  conv => whnf
  refine ⟨fun w1 => ?_, fun w1 => ?_⟩
  · have w1 : i < m.length := lti w1
    refine Exists.elim (at_ex w1) fun x hx => ?_
    have dk : c x.f0 = 0 ∨ c x.f0 = 1 ∨ c x.f0 = 2 ∨ c x.f0 = 3 ∨ c x.f0 = 4 ∨ c x.f0 = 5 := by have := hc x (List.mem_of_getElem? hx); omega
    refine Or.elim dk (fun hk => ?_) fun dk => ?_
    · have hxk : (m.map (iC c))[0 + ((i : Int)).toNat]? = some [.int .i64 0] := by rw [map_at0 hx]; unfold iC; rw [hk]
      have h0 : ∀ id, id = x.f0 → (c id == 0) = true ∧ (c id == 1) = false := fun id e => by rw [e, hk]; exact ⟨rfl, rfl⟩
      have hs1 : iC (stV v m c).s x = iC v.s x := by show [AV.int .i64 (bif c x.f0 == 0 then v.s x.f0 else toS (c x.f0))] = _; rw [hk]; rfl
      have hs2 : hC (stV v m c) x = hC v x := by
        have : ∀ e, (stV v m c).h x.f0 e = v.h x.f0 e := fun e => by show (bif c x.f0 == 0 then v.h x.f0 e else _) = _; rw [hk]; rfl
        unfold hC
        rw [this, this, this, this, this, this]
      have hs3 : iC (stV v m c).e x = iC v.e x := by show [AV.int .i64 (bif c x.f0 == 1 then v.T else v.e x.f0)] = _; rw [hk]; rfl
      conv => whnf
      refine ⟨⟨Int.natCast_nonneg _, by omega⟩, ?_⟩
      conv => whnf
      conv => whnf
      refine ⟨_, hxk, ?_⟩
      conv => whnf
      conv => whnf
      refine ⟨fun w2 => ?_, fun w2 => ?_⟩
      rotate_left
      · exact absurd w2 (by decide)
      conv => whnf
      refine ⟨(i + 1, tb), ?_, ⟨w1, by show tb = _; rw [any_take hx, ← htb, hk]; exact (Bool.or_false _).symm⟩, by show m.length - (i + 1) < m.length - i; omega⟩
      dsimp only
      rw [up1 w1 (by omega)]
      exact .le (.refl _) (.cons _ _ _ _ _ (.refl _) <| .cons _ _ _ _ _ (.refl _) <| .cons _ _ _ _ _ (.rows (.of (mix_skip hx hs1).symm)) <| .cons _ _ _ _ _ (.rows (.of (mix_skip hx hs2).symm)) <| .cons _ _ _ _ _ (.refl _) <| .cons _ _ _ _ _ (.rows (.of (mix_skip hx hs3).symm)) <| .refl _)
    refine Or.elim dk (fun hk => ?_) fun dk => ?_
    · have hxk : (m.map (iC c))[0 + ((i : Int)).toNat]? = some [.int .i64 1] := by rw [map_at0 hx]; unfold iC; rw [hk]
      conv => whnf
      refine ⟨⟨Int.natCast_nonneg _, by omega⟩, ?_⟩
      conv => whnf
      conv => whnf
      refine ⟨_, hxk, ?_⟩
      conv => whnf
      conv => whnf
      refine ⟨fun w2 => ?_, fun w2 => ?_⟩
      · exact absurd w2 (by decide)
      conv => whnf
      refine ⟨⟨Int.natCast_nonneg _, by omega⟩, ?_⟩
      conv => whnf
      conv => whnf
      refine ⟨_, hxk, ?_⟩
      conv => whnf
      conv => whnf
      refine ⟨(by show (0 : Int) ≤ 1 ∧ (1 : Int) < 6; decide), ?_⟩
      conv => whnf
      conv => whnf
      refine ⟨_, rfl, ?_⟩
      conv => whnf
      conv => whnf
      refine ⟨⟨Int.natCast_nonneg _, by omega⟩, ?_⟩
      conv => whnf
      conv => whnf
      refine ⟨_, mix_ge0 (Nat.le_refl i) hx, ?_⟩
      conv => whnf
      conv => whnf
      refine ⟨by kernel_rfl, ?_⟩
      conv => whnf
      conv => whnf
      refine ⟨⟨Int.natCast_nonneg _, by omega⟩, ?_⟩
      conv => whnf
      conv => whnf
      refine ⟨_, hxk, ?_⟩
      conv => whnf
      conv => whnf
      refine ⟨⟨Int.natCast_nonneg _, by omega⟩, ?_⟩
      conv => whnf
      conv => whnf
      refine ⟨(by show (0 : Int) ≤ 1 ∧ (1 : Int) < 6; decide), ?_⟩
      conv => whnf
      conv => whnf
      refine ⟨_, mix_ge0 (Nat.le_refl i) hx, ?_⟩
      conv => whnf
      conv => whnf
      refine ⟨by kernel_rfl, ?_⟩
      conv => whnf
      conv => whnf
      refine ⟨⟨Int.natCast_nonneg _, by omega⟩, ?_⟩
      conv => whnf
      conv => whnf
      refine ⟨_, hxk, ?_⟩
      conv => whnf
      conv => whnf
      refine ⟨fun w3 => ?_, fun w3 => ?_⟩
      rotate_left
      · exact absurd w3 (by decide)
      conv => whnf
      refine ⟨⟨Int.natCast_nonneg _, by omega⟩, ?_⟩
      conv => whnf
      conv => whnf
      refine ⟨_, mix_ge0 (Nat.le_refl i) hx, ?_⟩
      conv => whnf
      conv => whnf
      refine ⟨by kernel_rfl, ?_⟩
      conv => whnf
      conv => whnf
      refine ⟨(i + 1, true), ?_, ⟨w1, by show true = _; rw [any_take hx, hk]; exact (Bool.or_true _).symm⟩, by show m.length - (i + 1) < m.length - i; omega⟩
      dsimp only
      rw [up1 w1 (by omega)]
      exact .le (.cons _ _ _ _ _ .refl <| .cons _ _ _ _ _ .refl <| .cons _ _ _ _ _ (.lit rfl) <| .refl _) (.cons _ _ _ _ _ (.refl _) <| .cons _ _ _ _ _ (.refl _) <| .cons _ _ _ _ _ (.rows (mix_le hx (.one (.int (by show _ = (bif c x.f0 == 0 then v.s x.f0 else toS (c x.f0)); rw [hk]; rfl))))) <| .cons _ _ _ _ _ (.rows (mix_le hx (.cons (.bool (by show _ = (bif c x.f0 == 0 then _ else bif c x.f0 == ((0 : Nat) : Int) then true else _); rw [hk]; rfl)) <| .cons (.lit (by show true = (bif c x.f0 == 0 then _ else bif c x.f0 == ((1 : Nat) : Int) then true else _); rw [hk]; rfl)) <| .cons (.bool (by show _ = (bif c x.f0 == 0 then _ else bif c x.f0 == ((2 : Nat) : Int) then true else _); rw [hk]; rfl)) <| .cons (.bool (by show _ = (bif c x.f0 == 0 then _ else bif c x.f0 == ((3 : Nat) : Int) then true else _); rw [hk]; rfl)) <| .cons (.bool (by show _ = (bif c x.f0 == 0 then _ else bif c x.f0 == ((4 : Nat) : Int) then true else _); rw [hk]; rfl)) <| .cons (.bool (by show _ = (bif c x.f0 == 0 then _ else bif c x.f0 == ((5 : Nat) : Int) then true else _); rw [hk]; rfl)) <| .nil))) <| .cons _ _ _ _ _ (.refl _) <| .cons _ _ _ _ _ (.rows (mix_le hx (.one (.int (by show _ = (bif c x.f0 == 1 then v.T else v.e x.f0); rw [hk]; rfl))))) <| .refl _)
    refine Or.elim dk (fun hk => ?_) fun dk => ?_
    · have hxk : (m.map (iC c))[0 + ((i : Int)).toNat]? = some [.int .i64 2] := by rw [map_at0 hx]; unfold iC; rw [hk]
      conv => whnf
      refine ⟨⟨Int.natCast_nonneg _, by omega⟩, ?_⟩
      conv => whnf
      conv => whnf
      refine ⟨_, hxk, ?_⟩
      conv => whnf
      conv => whnf
      refine ⟨fun w2 => ?_, fun w2 => ?_⟩
      · exact absurd w2 (by decide)
      conv => whnf
      refine ⟨⟨Int.natCast_nonneg _, by omega⟩, ?_⟩
      conv => whnf
      conv => whnf
      refine ⟨_, hxk, ?_⟩
      conv => whnf
      conv => whnf
      refine ⟨(by show (0 : Int) ≤ 2 ∧ (2 : Int) < 6; decide), ?_⟩
      conv => whnf
      conv => whnf
      refine ⟨_, rfl, ?_⟩
      conv => whnf
      conv => whnf
      refine ⟨⟨Int.natCast_nonneg _, by omega⟩, ?_⟩
      conv => whnf
      conv => whnf
      refine ⟨_, mix_ge0 (Nat.le_refl i) hx, ?_⟩
      conv => whnf
      conv => whnf
      refine ⟨by kernel_rfl, ?_⟩
      conv => whnf
      conv => whnf
      refine ⟨⟨Int.natCast_nonneg _, by omega⟩, ?_⟩
      conv => whnf
      conv => whnf
      refine ⟨_, hxk, ?_⟩
      conv => whnf
      conv => whnf
      refine ⟨⟨Int.natCast_nonneg _, by omega⟩, ?_⟩
      conv => whnf
      conv => whnf
      refine ⟨(by show (0 : Int) ≤ 2 ∧ (2 : Int) < 6; decide), ?_⟩
      conv => whnf
      conv => whnf
      refine ⟨_, mix_ge0 (Nat.le_refl i) hx, ?_⟩
      conv => whnf
      conv => whnf
      refine ⟨by kernel_rfl, ?_⟩
      conv => whnf
      conv => whnf
      refine ⟨⟨Int.natCast_nonneg _, by omega⟩, ?_⟩
      conv => whnf
      conv => whnf
      refine ⟨_, hxk, ?_⟩
      conv => whnf
      conv => whnf
      refine ⟨fun w3 => ?_, fun w3 => ?_⟩
      · exact absurd w3 (by decide)
      conv => whnf
      refine ⟨(i + 1, true), ?_, ⟨w1, by show true = _; rw [any_take hx, hk]; exact (Bool.or_true _).symm⟩, by show m.length - (i + 1) < m.length - i; omega⟩
      dsimp only
      rw [up1 w1 (by omega)]
      exact .le (.cons _ _ _ _ _ .refl <| .cons _ _ _ _ _ .refl <| .cons _ _ _ _ _ (.lit rfl) <| .refl _) (.cons _ _ _ _ _ (.refl _) <| .cons _ _ _ _ _ (.refl _) <| .cons _ _ _ _ _ (.rows (mix_le hx (.one (.int (by show _ = (bif c x.f0 == 0 then v.s x.f0 else toS (c x.f0)); rw [hk]; rfl))))) <| .cons _ _ _ _ _ (.rows (mix_le hx (.cons (.bool (by show _ = (bif c x.f0 == 0 then _ else bif c x.f0 == ((0 : Nat) : Int) then true else _); rw [hk]; rfl)) <| .cons (.bool (by show _ = (bif c x.f0 == 0 then _ else bif c x.f0 == ((1 : Nat) : Int) then true else _); rw [hk]; rfl)) <| .cons (.lit (by show true = (bif c x.f0 == 0 then _ else bif c x.f0 == ((2 : Nat) : Int) then true else _); rw [hk]; rfl)) <| .cons (.bool (by show _ = (bif c x.f0 == 0 then _ else bif c x.f0 == ((3 : Nat) : Int) then true else _); rw [hk]; rfl)) <| .cons (.bool (by show _ = (bif c x.f0 == 0 then _ else bif c x.f0 == ((4 : Nat) : Int) then true else _); rw [hk]; rfl)) <| .cons (.bool (by show _ = (bif c x.f0 == 0 then _ else bif c x.f0 == ((5 : Nat) : Int) then true else _); rw [hk]; rfl)) <| .nil))) <| .cons _ _ _ _ _ (.refl _) <| .cons _ _ _ _ _ (.rows (.of (mix_skip hx (show iC (stV v m c).e x = iC v.e x from by show [AV.int .i64 (bif c x.f0 == 1 then v.T else v.e x.f0)] = _; rw [hk]; rfl)).symm)) <| .refl _)
    refine Or.elim dk (fun hk => ?_) fun dk => ?_
    · have hxk : (m.map (iC c))[0 + ((i : Int)).toNat]? = some [.int .i64 3] := by rw [map_at0 hx]; unfold iC; rw [hk]
      conv => whnf
      refine ⟨⟨Int.natCast_nonneg _, by omega⟩, ?_⟩
      conv => whnf
      conv => whnf
      refine ⟨_, hxk, ?_⟩
      conv => whnf
      conv => whnf
      refine ⟨fun w2 => ?_, fun w2 => ?_⟩
      · exact absurd w2 (by decide)
      conv => whnf
      refine ⟨⟨Int.natCast_nonneg _, by omega⟩, ?_⟩
      conv => whnf
      conv => whnf
      refine ⟨_, hxk, ?_⟩
      conv => whnf
      conv => whnf
      refine ⟨(by show (0 : Int) ≤ 3 ∧ (3 : Int) < 6; decide), ?_⟩
      conv => whnf
      conv => whnf
      refine ⟨_, rfl, ?_⟩
      conv => whnf
      conv => whnf
      refine ⟨⟨Int.natCast_nonneg _, by omega⟩, ?_⟩
      conv => whnf
      conv => whnf
      refine ⟨_, mix_ge0 (Nat.le_refl i) hx, ?_⟩
      conv => whnf
      conv => whnf
      refine ⟨by kernel_rfl, ?_⟩
      conv => whnf
      conv => whnf
      refine ⟨⟨Int.natCast_nonneg _, by omega⟩, ?_⟩
      conv => whnf
      conv => whnf
      refine ⟨_, hxk, ?_⟩
      conv => whnf
      conv => whnf
      refine ⟨⟨Int.natCast_nonneg _, by omega⟩, ?_⟩
      conv => whnf
      conv => whnf
      refine ⟨(by show (0 : Int) ≤ 3 ∧ (3 : Int) < 6; decide), ?_⟩
      conv => whnf
      conv => whnf
      refine ⟨_, mix_ge0 (Nat.le_refl i) hx, ?_⟩
      conv => whnf
      conv => whnf
      refine ⟨by kernel_rfl, ?_⟩
      conv => whnf
      conv => whnf
      refine ⟨⟨Int.natCast_nonneg _, by omega⟩, ?_⟩
      conv => whnf
      conv => whnf
      refine ⟨_, hxk, ?_⟩
      conv => whnf
      conv => whnf
      refine ⟨fun w3 => ?_, fun w3 => ?_⟩
      · exact absurd w3 (by decide)
      conv => whnf
      refine ⟨(i + 1, true), ?_, ⟨w1, by show true = _; rw [any_take hx, hk]; exact (Bool.or_true _).symm⟩, by show m.length - (i + 1) < m.length - i; omega⟩
      dsimp only
      rw [up1 w1 (by omega)]
      exact .le (.cons _ _ _ _ _ .refl <| .cons _ _ _ _ _ .refl <| .cons _ _ _ _ _ (.lit rfl) <| .refl _) (.cons _ _ _ _ _ (.refl _) <| .cons _ _ _ _ _ (.refl _) <| .cons _ _ _ _ _ (.rows (mix_le hx (.one (.int (by show _ = (bif c x.f0 == 0 then v.s x.f0 else toS (c x.f0)); rw [hk]; rfl))))) <| .cons _ _ _ _ _ (.rows (mix_le hx (.cons (.bool (by show _ = (bif c x.f0 == 0 then _ else bif c x.f0 == ((0 : Nat) : Int) then true else _); rw [hk]; rfl)) <| .cons (.bool (by show _ = (bif c x.f0 == 0 then _ else bif c x.f0 == ((1 : Nat) : Int) then true else _); rw [hk]; rfl)) <| .cons (.bool (by show _ = (bif c x.f0 == 0 then _ else bif c x.f0 == ((2 : Nat) : Int) then true else _); rw [hk]; rfl)) <| .cons (.lit (by show true = (bif c x.f0 == 0 then _ else bif c x.f0 == ((3 : Nat) : Int) then true else _); rw [hk]; rfl)) <| .cons (.bool (by show _ = (bif c x.f0 == 0 then _ else bif c x.f0 == ((4 : Nat) : Int) then true else _); rw [hk]; rfl)) <| .cons (.bool (by show _ = (bif c x.f0 == 0 then _ else bif c x.f0 == ((5 : Nat) : Int) then true else _); rw [hk]; rfl)) <| .nil))) <| .cons _ _ _ _ _ (.refl _) <| .cons _ _ _ _ _ (.rows (.of (mix_skip hx (show iC (stV v m c).e x = iC v.e x from by show [AV.int .i64 (bif c x.f0 == 1 then v.T else v.e x.f0)] = _; rw [hk]; rfl)).symm)) <| .refl _)
    refine Or.elim dk (fun hk => ?_) fun dk => ?_
    · have hxk : (m.map (iC c))[0 + ((i : Int)).toNat]? = some [.int .i64 4] := by rw [map_at0 hx]; unfold iC; rw [hk]
      conv => whnf
      refine ⟨⟨Int.natCast_nonneg _, by omega⟩, ?_⟩
      conv => whnf
      conv => whnf
      refine ⟨_, hxk, ?_⟩
      conv => whnf
      conv => whnf
      refine ⟨fun w2 => ?_, fun w2 => ?_⟩
      · exact absurd w2 (by decide)
      conv => whnf
      refine ⟨⟨Int.natCast_nonneg _, by omega⟩, ?_⟩
      conv => whnf
      conv => whnf
      refine ⟨_, hxk, ?_⟩
      conv => whnf
      conv => whnf
      refine ⟨(by show (0 : Int) ≤ 4 ∧ (4 : Int) < 6; decide), ?_⟩
      conv => whnf
      conv => whnf
      refine ⟨_, rfl, ?_⟩
      conv => whnf
      conv => whnf
      refine ⟨⟨Int.natCast_nonneg _, by omega⟩, ?_⟩
      conv => whnf
      conv => whnf
      refine ⟨_, mix_ge0 (Nat.le_refl i) hx, ?_⟩
      conv => whnf
      conv => whnf
      refine ⟨by kernel_rfl, ?_⟩
      conv => whnf
      conv => whnf
      refine ⟨⟨Int.natCast_nonneg _, by omega⟩, ?_⟩
      conv => whnf
      conv => whnf
      refine ⟨_, hxk, ?_⟩
      conv => whnf
      conv => whnf
      refine ⟨⟨Int.natCast_nonneg _, by omega⟩, ?_⟩
      conv => whnf
      conv => whnf
      refine ⟨(by show (0 : Int) ≤ 4 ∧ (4 : Int) < 6; decide), ?_⟩
      conv => whnf
      conv => whnf
      refine ⟨_, mix_ge0 (Nat.le_refl i) hx, ?_⟩
      conv => whnf
      conv => whnf
      refine ⟨by kernel_rfl, ?_⟩
      conv => whnf
      conv => whnf
      refine ⟨⟨Int.natCast_nonneg _, by omega⟩, ?_⟩
      conv => whnf
      conv => whnf
      refine ⟨_, hxk, ?_⟩
      conv => whnf
      conv => whnf
      refine ⟨fun w3 => ?_, fun w3 => ?_⟩
      · exact absurd w3 (by decide)
      conv => whnf
      refine ⟨(i + 1, true), ?_, ⟨w1, by show true = _; rw [any_take hx, hk]; exact (Bool.or_true _).symm⟩, by show m.length - (i + 1) < m.length - i; omega⟩
      dsimp only
      rw [up1 w1 (by omega)]
      exact .le (.cons _ _ _ _ _ .refl <| .cons _ _ _ _ _ .refl <| .cons _ _ _ _ _ (.lit rfl) <| .refl _) (.cons _ _ _ _ _ (.refl _) <| .cons _ _ _ _ _ (.refl _) <| .cons _ _ _ _ _ (.rows (mix_le hx (.one (.int (by show _ = (bif c x.f0 == 0 then v.s x.f0 else toS (c x.f0)); rw [hk]; rfl))))) <| .cons _ _ _ _ _ (.rows (mix_le hx (.cons (.bool (by show _ = (bif c x.f0 == 0 then _ else bif c x.f0 == ((0 : Nat) : Int) then true else _); rw [hk]; rfl)) <| .cons (.bool (by show _ = (bif c x.f0 == 0 then _ else bif c x.f0 == ((1 : Nat) : Int) then true else _); rw [hk]; rfl)) <| .cons (.bool (by show _ = (bif c x.f0 == 0 then _ else bif c x.f0 == ((2 : Nat) : Int) then true else _); rw [hk]; rfl)) <| .cons (.bool (by show _ = (bif c x.f0 == 0 then _ else bif c x.f0 == ((3 : Nat) : Int) then true else _); rw [hk]; rfl)) <| .cons (.lit (by show true = (bif c x.f0 == 0 then _ else bif c x.f0 == ((4 : Nat) : Int) then true else _); rw [hk]; rfl)) <| .cons (.bool (by show _ = (bif c x.f0 == 0 then _ else bif c x.f0 == ((5 : Nat) : Int) then true else _); rw [hk]; rfl)) <| .nil))) <| .cons _ _ _ _ _ (.refl _) <| .cons _ _ _ _ _ (.rows (.of (mix_skip hx (show iC (stV v m c).e x = iC v.e x from by show [AV.int .i64 (bif c x.f0 == 1 then v.T else v.e x.f0)] = _; rw [hk]; rfl)).symm)) <| .refl _)
    have hk := dk
    have hxk : (m.map (iC c))[0 + ((i : Int)).toNat]? = some [.int .i64 5] := by rw [map_at0 hx]; unfold iC; rw [hk]
    conv => whnf
    refine ⟨⟨Int.natCast_nonneg _, by omega⟩, ?_⟩
    conv => whnf
    conv => whnf
    refine ⟨_, hxk, ?_⟩
    conv => whnf
    conv => whnf
    refine ⟨fun w2 => ?_, fun w2 => ?_⟩
    · exact absurd w2 (by decide)
    conv => whnf
    refine ⟨⟨Int.natCast_nonneg _, by omega⟩, ?_⟩
    conv => whnf
    conv => whnf
    refine ⟨_, hxk, ?_⟩
    conv => whnf
    conv => whnf
    refine ⟨(by show (0 : Int) ≤ 5 ∧ (5 : Int) < 6; decide), ?_⟩
    conv => whnf
    conv => whnf
    refine ⟨_, rfl, ?_⟩
    conv => whnf
    conv => whnf
    refine ⟨⟨Int.natCast_nonneg _, by omega⟩, ?_⟩
    conv => whnf
    conv => whnf
    refine ⟨_, mix_ge0 (Nat.le_refl i) hx, ?_⟩
    conv => whnf
    conv => whnf
    refine ⟨by kernel_rfl, ?_⟩
    conv => whnf
    conv => whnf
    refine ⟨⟨Int.natCast_nonneg _, by omega⟩, ?_⟩
    conv => whnf
    conv => whnf
    refine ⟨_, hxk, ?_⟩
    conv => whnf
    conv => whnf
    refine ⟨⟨Int.natCast_nonneg _, by omega⟩, ?_⟩
    conv => whnf
    conv => whnf
    refine ⟨(by show (0 : Int) ≤ 5 ∧ (5 : Int) < 6; decide), ?_⟩
    conv => whnf
    conv => whnf
    refine ⟨_, mix_ge0 (Nat.le_refl i) hx, ?_⟩
    conv => whnf
    conv => whnf
    refine ⟨by kernel_rfl, ?_⟩
    conv => whnf
    conv => whnf
    refine ⟨⟨Int.natCast_nonneg _, by omega⟩, ?_⟩
    conv => whnf
    conv => whnf
    refine ⟨_, hxk, ?_⟩
    conv => whnf
    conv => whnf
    refine ⟨fun w3 => ?_, fun w3 => ?_⟩
    · exact absurd w3 (by decide)
    conv => whnf
    refine ⟨(i + 1, true), ?_, ⟨w1, by show true = _; rw [any_take hx, hk]; exact (Bool.or_true _).symm⟩, by show m.length - (i + 1) < m.length - i; omega⟩
    dsimp only
    rw [up1 w1 (by omega)]
    exact .le (.cons _ _ _ _ _ .refl <| .cons _ _ _ _ _ .refl <| .cons _ _ _ _ _ (.lit rfl) <| .refl _) (.cons _ _ _ _ _ (.refl _) <| .cons _ _ _ _ _ (.refl _) <| .cons _ _ _ _ _ (.rows (mix_le hx (.one (.int (by show _ = (bif c x.f0 == 0 then v.s x.f0 else toS (c x.f0)); rw [hk]; rfl))))) <| .cons _ _ _ _ _ (.rows (mix_le hx (.cons (.bool (by show _ = (bif c x.f0 == 0 then _ else bif c x.f0 == ((0 : Nat) : Int) then true else _); rw [hk]; rfl)) <| .cons (.bool (by show _ = (bif c x.f0 == 0 then _ else bif c x.f0 == ((1 : Nat) : Int) then true else _); rw [hk]; rfl)) <| .cons (.bool (by show _ = (bif c x.f0 == 0 then _ else bif c x.f0 == ((2 : Nat) : Int) then true else _); rw [hk]; rfl)) <| .cons (.bool (by show _ = (bif c x.f0 == 0 then _ else bif c x.f0 == ((3 : Nat) : Int) then true else _); rw [hk]; rfl)) <| .cons (.bool (by show _ = (bif c x.f0 == 0 then _ else bif c x.f0 == ((4 : Nat) : Int) then true else _); rw [hk]; rfl)) <| .cons (.lit (by show true = (bif c x.f0 == 0 then _ else bif c x.f0 == ((5 : Nat) : Int) then true else _); rw [hk]; rfl)) <| .nil))) <| .cons _ _ _ _ _ (.refl _) <| .cons _ _ _ _ _ (.rows (.of (mix_skip hx (show iC (stV v m c).e x = iC v.e x from by show [AV.int .i64 (bif c x.f0 == 1 then v.T else v.e x.f0)] = _; rw [hk]; rfl)).symm)) <| .refl _)
  · have hjN : i = m.length := by have := nlti w1; omega
    rw [hjN, List.take_length] at htb
    have hN : (stV v m c).N = bif m.any (fun y => c y.f0 != 0) then wr (v.N + 1) else v.N := rfl
    conv => whnf
    refine ⟨fun w2 => ?_, fun w2 => ?_⟩
    · have hN' : (stV v m c).N = wr (v.N + 1) := by rw [hN, ← htb, w2]; rfl
      conv => whnf
      rw [hjN, mix_all, mix_all, mix_all]
      unfold csT csC
      rw [hN']
      exact .le (.cons _ _ _ _ _ (.bool htb) <| .refl _) (.refl _)
    · have hN' : (stV v m c).N = v.N := by rw [hN, ← htb, w2]; rfl
      conv => whnf
      rw [hjN, mix_all, mix_all, mix_all]
      unfold csT csC
      rw [hN']
      exact .le (.cons _ _ _ _ _ (.bool htb) <| .refl _) (.refl _)
end Go.Ab
namespace Go.Ab
open Go.Proofs Sn
set_option maxRecDepth 100000
set_option linter.unnecessarySimpa false
set_option linter.unusedSimpArgs false
set_option linter.unusedVariables false
set_option maxHeartbeats 40000000
theorem rds_inv {m : List S47} {k : Nat} {v w : Vw} (h : Rds m k v w) : (doB v m (doesD v m) = false ∧ w = doV v m (doesD v m)) ∨ (doB v m (doesD v m) = true ∧ ∃ k', k = k' + 1 ∧ Rds m k' (doV v m (doesD v m)) w) := by
  cases h with
  | stop h => exact .inl ⟨h, rfl⟩
  | go h hr => exact .inr ⟨h, _, rfl, hr⟩
theorem sEq_ne {a b : ByteArray} (h : a ≠ b) : sEq a b = false := by
  cases hs : sEq a b with
  | false => rfl
  | true =>
    exfalso
    apply h
    unfold sEq at hs
    rw [beq_iff_eq, ByteArray.toList_eq, ByteArray.toList_eq] at hs
    exact ByteArray.ext (Array.ext' hs)
theorem sEq_self (a : ByteArray) : sEq a a = true := by unfold sEq; exact beq_self_eq_true _
theorem set_map {m : List S47} (hn : (m.map S47.f0).Nodup) (g : ByteArray → Int) (n : Int) {j : Nat} {x : S47} (hx : m[j]? = some x) : (m.map (iC g)).set j [.int .i64 n] = m.map (iC (fun id => bif sEq id x.f0 then n else g id)) := by
  have hj := (List.getElem?_eq_some_iff.1 hx).1
  refine List.ext_getElem? fun k => ?_
  rw [List.getElem?_set, List.length_map]
  by_cases hk : j = k
  · subst hk
    rw [if_pos rfl, if_pos hj, map_at hx]
    show some [AV.int .i64 n] = some [AV.int .i64 (bif sEq x.f0 x.f0 then n else g x.f0)]
    rw [sEq_self]
    rfl
  · rw [if_neg hk, List.getElem?_map, List.getElem?_map]
    cases hy : m[k]? with
    | none => rfl
    | some y =>
      show some [AV.int .i64 (g y.f0)] = some [AV.int .i64 (bif sEq y.f0 x.f0 then n else g y.f0)]
      rw [sEq_ne fun e => hk ?_]
      · rfl
      · have hkl := (List.getElem?_eq_some_iff.1 hy).1
        have h1 : (m.map S47.f0)[j]? = some x.f0 := by rw [List.getElem?_map, hx]; rfl
        have h2 : (m.map S47.f0)[k]? = some y.f0 := by rw [List.getElem?_map, hy]; rfl
        exact (List.getElem?_inj (by rw [List.length_map]; exact hj) hn).1 (by rw [h1, h2, e])
theorem early_5 (v : Vw) (x : S47) : 0 ≤ early v x ∧ early v x ≤ 5 := by
  unfold early
  cases (thereB v x.f0 && anyB v x.f6) with
  | true => exact ⟨by show (0 : Int) ≤ 5; decide, by show (5 : Int) ≤ 5; decide⟩
  | false =>
    cases (v.s x.f0 == 1 && (decide (x.f1 ≤ 3) && (decide (x.f5.length = 0) || anyB v x.f5))) with
    | true =>
      cases (x.f1 == 3) with
      | true => exact ⟨by show (0 : Int) ≤ 4; decide, by show (4 : Int) ≤ 5; decide⟩
      | false => exact ⟨by show (0 : Int) ≤ 2; decide, by show (2 : Int) ≤ 5; decide⟩
    | false =>
      cases (v.s x.f0 == 0 && (!rtB x && v.s x.f2 == 2)) with
      | true => exact ⟨by show (0 : Int) ≤ 1; decide, by show (1 : Int) ≤ 5; decide⟩
      | false => exact ⟨by show (0 : Int) ≤ 0; decide, by show (0 : Int) ≤ 5; decide⟩
theorem does_5 (v : Vw) (m : List S47) (id : ByteArray) : 0 ≤ doesD v m id ∧ doesD v m id ≤ 5 := by
  unfold doesD
  cases complB v (earlyD v m) m (getI m id) with
  | true => exact ⟨by show (0 : Int) ≤ 3; decide, by show (3 : Int) ≤ 5; decide⟩
  | false => exact early_5 v _
theorem cl_5 (v : Vw) (m : List S47) {d : ByteArray → Int} (h : ∀ id, 0 ≤ d id ∧ d id ≤ 5) : ∀ (k : Nat) (id : ByteArray), 0 ≤ clD v m d k id ∧ clD v m d k id ≤ 5
  | 0, id => h id
  | k + 1, id => by
    unfold clD
    cases rtB (getI m id) with
    | true => exact h id
    | false =>
      cases shutB (clD v m d k (getI m id).f2) with
      | false => exact h id
      | true =>
        cases thereB v id with
        | true => exact ⟨by show (0 : Int) ≤ 5; decide, by show (5 : Int) ≤ 5; decide⟩
        | false => exact ⟨by show (0 : Int) ≤ 0; decide, by show (0 : Int) ≤ 5; decide⟩
def eN (j : Nat) : List AV := [.int .i64 j]
def cB (v : Vw) (m : List S47) (j : Nat) : Bool := complB v (earlyD v m) m (m.getD j z47)
def gP (v : Vw) (m : List S47) (l : List Nat) (id : ByteArray) : Int := bif l.any (fun j => sEq id (m.getD j z47).f0) then 3 else earlyD v m id
theorem gP_snoc (v : Vw) (m : List S47) (l : List Nat) {j : Nat} {x : S47} (hx : m[j]? = some x) : (fun id => bif sEq id x.f0 then 3 else gP v m l id) = gP v m (l ++ [j]) := by
  funext id
  unfold gP
  rw [List.any_append, List.any_cons, List.any_nil, Bool.or_false, getD_at hx]
  cases sEq id x.f0 <;> cases l.any (fun j => sEq id (m.getD j z47).f0) <;> rfl
theorem gP_end {m : List S47} (hn : (m.map S47.f0).Nodup) (v : Vw) : m.map (iC (gP v m ((List.range m.length).filter (cB v m)))) = m.map (iC (doesD v m)) := by
  refine List.map_congr_left fun x hx => ?_
  obtain ⟨k, hk⟩ := List.getElem?_of_mem hx
  have hkl := (List.getElem?_eq_some_iff.1 hk).1
  unfold iC gP doesD
  rw [getI_is hn hx rfl]
  have : ((List.range m.length).filter (cB v m)).any (fun j => sEq x.f0 (m.getD j z47).f0) = complB v (earlyD v m) m x := by
    rw [Bool.eq_iff_iff, List.any_eq_true]
    constructor
    · rintro ⟨j, hj, e⟩
      rw [List.mem_filter, List.mem_range] at hj
      have hy := List.getElem?_eq_getElem hj.1
      have e2 := (sEq_iff _ _).1 e
      rw [getD_at hy] at e2
      have : j = k := by
        have h1 : (m.map S47.f0)[j]? = some m[j].f0 := by rw [List.getElem?_map, hy]; rfl
        have h2 : (m.map S47.f0)[k]? = some x.f0 := by rw [List.getElem?_map, hk]; rfl
        exact (List.getElem?_inj (by rw [List.length_map]; exact hj.1) hn).1 (by rw [h1, h2, e2])
      subst this
      have := hj.2
      unfold cB at this
      rwa [getD_at hk] at this
    · intro h
      refine ⟨k, List.mem_filter.2 ⟨List.mem_range.2 hkl, ?_⟩, ?_⟩
      · unfold cB; rw [getD_at hk]; exact h
      · rw [getD_at hk]; exact sEq_self _
  rw [this]
theorem c83 {f : List ByteArray} {m : List S47} {r : S47} (hM : MdOk f m r) {k : Nat} {v w : Vw} (hR : Rds m k v w) : ACall cx.P 83 [.bptr 32 0] (csS f m v 32) (.tup []) (csT f m w 32) := acallB byR Tryz.f83 (by kernel_rfl) (by kernel_rfl) rfl <| by
  have hml := hM.hm
  have hfl := hM.hf
  have h130 := fun (v : Vw) {i : Nat} {x : S47} (hx : m[i]? = some x) => show PCall cx.P 130 [caR f m v, .int .i64 i] (.int .i64 (earlyD v m x.f0)) from by
    have := c130 f m v hM.toCaOk hx (by
      cases i with
      | zero =>
        have := hM.root.symm.trans hx
        cases this
        exact .inl ⟨rfl, hM.rt⟩
      | succ i =>
        obtain ⟨h1, j, p, _, h2, h3, _⟩ := hM.par i x hx
        exact .inr ⟨Nat.succ_pos _, h1, p, List.mem_of_getElem? h2, h3⟩)
    unfold earlyD
    rw [getI_is hM.hn (List.mem_of_getElem? hx) rfl]
    exact this
  have h131 := fun (v : Vw) {i : Nat} {x : S47} (hx : m[i]? = some x) => show PCall cx.P 131 [caR f m v, .int .i64 i, .row 1 (m.map (iC (earlyD v m)))] (.bool (cB v m i)) from by
    have := c131 f m v hM.toCaOk (earlyD v m) hx
    unfold cB
    rwa [getD_at hx]
  have h132 := fun (v : Vw) => c132 hM v (doesD v m) fun x _ => cl_5 v m (does_5 v m) 16 x.f0
  unfold caR at h130 h131
  unfold csS csT csC at h132
  unfold csS csC
  conv => whnf
  refine .inr (.inl ⟨[0], Nat × Vw, fun x => ([(0, .bptr 32 0)], csT f m x.2 32), fun x => Rds m x.1 x.2 w, fun x => x.1, ?_, ?_⟩)
  · conv => whnf
    exact ⟨(k, v), .of rfl, hR⟩
  clear hR k
  rintro ⟨k, u⟩ hR
  dsimp only at hR ⊢
  have h132 := h132 u
  have h130 := fun {i : Nat} {x : S47} (hx : m[i]? = some x) => h130 u hx
  have h131 := fun {i : Nat} {x : S47} (hx : m[i]? = some x) => h131 u hx
  refine Or.elim (rds_inv hR) (fun hend => ?_) fun hgo => ?_
  · replace h132 := h132.to (.blit hend.1)
    unfold csT csC
    conv => whnf
    refine ⟨⟨⟨Int.natCast_nonneg _, rfl⟩, by show m.length * 8 ≤ 2 ^ 47; omega⟩, ?_⟩
    conv => whnf
    conv => whnf
    refine .inr (.inl ⟨[0, 2, 3], Nat, fun i => ([(0, .bptr 32 0), (2, .own 1 144 0 m.length .full), (3, .int .i64 i)], [(144, .live (.arr 1 (mix (fun _ => [.int .i64 0]) (iC (earlyD u m)) m i))), (32, .live (.box (csC f m u 32))), (35, .live (.arr 1 (m.map (iC u.s)))), (36, .live (.arr 6 (m.map (hC u)))), (37, .live (.arr 1 (f.map (fC u.F)))), (39, .live (.arr 1 (m.map (iC u.e))))]), fun i => i ≤ m.length, fun i => m.length - i, ?_, ?_⟩)
    · conv => whnf
      refine ⟨0, ?_, Nat.zero_le _⟩
      dsimp only
      rw [mix_zero, List.map_const']
      exact .of rfl
    intro i hi
    have hi : i ≤ m.length := hi
    dsimp only
    unfold csC
    conv => whnf
    refine ⟨fun w1 => ?_, fun w1 => ?_⟩
    · have w1 : i < m.length := lti w1
      refine Exists.elim (at_ex w1) fun x hx => ?_
      have h130 := h130 hx
      conv => whnf
      refine ⟨(by rw [List.length_map, Nat.zero_add]), ?_⟩
      conv => whnf
      conv => whnf
      refine ⟨(by rw [List.length_map, Nat.zero_add]), ?_⟩
      conv => whnf
      conv => whnf
      refine ⟨(by rw [List.length_map, Nat.zero_add]), ?_⟩
      conv => whnf
      conv => whnf
      refine ⟨(by rw [List.length_map, Nat.zero_add]), ?_⟩
      conv => whnf
      conv => whnf
      refine ⟨_, h130, ?_⟩
      conv => whnf
      conv => whnf
      refine ⟨⟨Int.natCast_nonneg _, by omega⟩, ?_⟩
      conv => whnf
      conv => whnf
      refine ⟨_, mix_ge0 (Nat.le_refl i) hx, ?_⟩
      conv => whnf
      conv => whnf
      refine ⟨i + 1, ?_, w1, by show m.length - (i + 1) < m.length - i; omega⟩
      dsimp only
      rw [up1 w1 (by omega)]
      exact .le (.refl _) (.cons _ _ _ _ _ (.rows (mix_le hx (.one .refl))) <| .refl _)
    · have hjN : i = m.length := by have := nlti w1; omega
      obtain ⟨Ea, hEa⟩ : ∃ Ea, Ea = mix (fun _ => [.int .i64 0]) (iC (earlyD u m)) m i := ⟨_, rfl⟩
      have hEa2 : Ea = m.map (iC (earlyD u m)) := by rw [hEa, hjN, mix_all]
      conv => whnf
      refine .inr (.inl ⟨[0, 2, 4, 5], Nat × List Nat, fun x => ([(0, .bptr 32 0), (2, .own 1 144 0 m.length .full), (4, .own 1 272 0 (x.2.map eN).length .opn), (5, .int .i64 x.1)], [(272, .live (.arr 1 (x.2.map eN))), (144, .live (.arr 1 Ea)), (32, .live (.box (csC f m u 32))), (35, .live (.arr 1 (m.map (iC u.s)))), (36, .live (.arr 6 (m.map (hC u)))), (37, .live (.arr 1 (f.map (fC u.F)))), (39, .live (.arr 1 (m.map (iC u.e))))]), fun x => x.1 ≤ m.length ∧ x.2 = (List.range x.1).filter (cB u m), fun x => m.length - x.1, ?_, ?_⟩)
      · conv => whnf
        refine ⟨(0, []), ?_, Nat.zero_le _, rfl⟩
        dsimp only
        rw [hEa]
        exact .nil (s := 1) (k := 272) rfl rfl (.same <| .same <| .chg <| .same .nil) .here
      have h131 := fun {i : Nat} {x : S47} (hx : m[i]? = some x) => hEa2 ▸ h131 hx
      rintro ⟨i, L⟩ ⟨hi, hL⟩
      dsimp only at hi hL
      have hLl : L.length ≤ 1024 := by rw [hL]; refine Nat.le_trans (List.length_filter_le _ _) ?_; rw [List.length_range]; omega
      have hLe : (L.map eN).length = L.length := List.length_map _
      have hEl : Ea.length = m.length := by rw [hEa2, List.length_map]
      dsimp only
      unfold csC
      conv => whnf
      refine ⟨fun w1 => ?_, fun w1 => ?_⟩
      · have w1 : i < m.length := lti w1
        refine Exists.elim (at_ex w1) fun x hx => ?_
        have h131 := h131 hx
        conv => whnf
        refine ⟨(by rw [List.length_map, Nat.zero_add]), ?_⟩
        conv => whnf
        conv => whnf
        refine ⟨(by rw [List.length_map, Nat.zero_add]), ?_⟩
        conv => whnf
        conv => whnf
        refine ⟨(by rw [List.length_map, Nat.zero_add]), ?_⟩
        conv => whnf
        conv => whnf
        refine ⟨(by rw [List.length_map, Nat.zero_add]), ?_⟩
        conv => whnf
        conv => whnf
        refine ⟨(by rw [hEl, Nat.zero_add]), ?_⟩
        conv => whnf
        conv => whnf
        refine ⟨_, h131, ?_⟩
        conv => whnf
        conv => whnf
        refine ⟨fun w2 => ?_, fun w2 => ?_⟩
        · conv => whnf
          refine ⟨rfl, ?_⟩
          conv => whnf
          conv => whnf
          refine ⟨⟨Nat.zero_add _, by show (_ + 1) * 8 ≤ 2 ^ 47; omega⟩, ?_⟩
          conv => whnf
          conv => whnf
          refine ⟨(i + 1, L ++ [i]), ?_, ⟨w1, by show L ++ [i] = _; rw [List.range_succ, List.filter_append, ← hL, List.filter_cons_of_pos w2]; rfl⟩, by show m.length - (i + 1) < m.length - i; omega⟩
          dsimp only
          rw [up1 w1 (by omega), List.map_append, List.length_append]
          exact .of rfl
        · conv => whnf
          refine ⟨(i + 1, L), ?_, ⟨w1, by show L = _; rw [List.range_succ, List.filter_append, ← hL, List.filter_cons_of_neg (by rw [w2]; decide)]; exact (List.append_nil _).symm⟩, by show m.length - (i + 1) < m.length - i; omega⟩
          dsimp only
          rw [up1 w1 (by omega)]
          exact .of rfl
      · have hjN : i = m.length := by have := nlti w1; omega
        rw [hjN] at hL
        conv => whnf
        refine .inr (.inl ⟨[0, 2, 4, 6], Nat × List (List AV), fun x => ([(0, .bptr 32 0), (2, .own 1 144 0 m.length .full), (4, .own 1 272 0 (L.map eN).length .opn), (6, .int .i64 x.1)], [(272, .live (.arr 1 (L.map eN))), (144, .live (.arr 1 x.2)), (32, .live (.box (csC f m u 32))), (35, .live (.arr 1 (m.map (iC u.s)))), (36, .live (.arr 6 (m.map (hC u)))), (37, .live (.arr 1 (f.map (fC u.F)))), (39, .live (.arr 1 (m.map (iC u.e))))]), fun x => x.1 ≤ L.length ∧ x.2 = m.map (iC (gP u m (L.take x.1))), fun x => L.length - x.1, ?_, ?_⟩)
        · conv => whnf
          refine ⟨(0, Ea), ?_, Nat.zero_le _, hEa2.trans rfl⟩
          exact .of rfl
        rintro ⟨p, Rw⟩ ⟨hp, hRw⟩
        dsimp only at hp hRw
        dsimp only
        unfold csC
        conv => whnf
        refine ⟨fun w1 => ?_, fun w1 => ?_⟩
        · have w1 : p < L.length := ltm w1
          refine Exists.elim (at_ex w1) fun j hj => ?_
          have hjm : j < m.length := by
            have := List.mem_of_getElem? hj
            rw [hL, List.mem_filter, List.mem_range] at this
            exact this.1
          refine Exists.elim (at_ex hjm) fun x hx => ?_
          have hRx : Rw[0 + ((j : Int)).toNat]? = some (iC (gP u m (L.take p)) x) := by rw [hRw]; exact map_at0 hx
          have hRs : Rw.set (0 + ((j : Int)).toNat) [.int .i64 3] = m.map (iC (gP u m (L.take (p + 1)))) := by
            rw [hRw, Nat.zero_add, Int.toNat_natCast, set_map hM.hn _ _ hx, gP_snoc _ _ _ hx, snoc_take hj]
          conv => whnf
          refine ⟨⟨Int.natCast_nonneg _, by omega⟩, ?_⟩
          conv => whnf
          conv => whnf
          refine ⟨_, map_at0 hj, ?_⟩
          conv => whnf
          conv => whnf
          refine ⟨⟨Int.natCast_nonneg _, by omega⟩, ?_⟩
          conv => whnf
          conv => whnf
          refine ⟨_, hRx, ?_⟩
          conv => whnf
          conv => whnf
          refine ⟨(p + 1, Rw.set (0 + ((j : Int)).toNat) [.int .i64 3]), ?_, ⟨w1, hRs⟩, by show L.length - (p + 1) < L.length - p; omega⟩
          dsimp only
          rw [up1 w1 (by omega)]
          exact .of rfl
        · have hpN : p = L.length := by have := nlti (by rw [List.length_map] at w1; exact w1); omega
          have hRd : Rw = m.map (iC (doesD u m)) := by rw [hRw, hpN, List.take_length, hL, gP_end hM.hn]
          rw [← hRd] at h132
          conv => whnf
          refine ⟨_, _, h132, ?_⟩
          conv => whnf
          conv => whnf
          rw [hend.2]
          exact .of rfl
  · replace h132 := h132.to (.blit hgo.1)
    unfold csT csC
    conv => whnf
    refine ⟨⟨⟨Int.natCast_nonneg _, rfl⟩, by show m.length * 8 ≤ 2 ^ 47; omega⟩, ?_⟩
    conv => whnf
    conv => whnf
    refine .inr (.inl ⟨[0, 2, 3], Nat, fun i => ([(0, .bptr 32 0), (2, .own 1 144 0 m.length .full), (3, .int .i64 i)], [(144, .live (.arr 1 (mix (fun _ => [.int .i64 0]) (iC (earlyD u m)) m i))), (32, .live (.box (csC f m u 32))), (35, .live (.arr 1 (m.map (iC u.s)))), (36, .live (.arr 6 (m.map (hC u)))), (37, .live (.arr 1 (f.map (fC u.F)))), (39, .live (.arr 1 (m.map (iC u.e))))]), fun i => i ≤ m.length, fun i => m.length - i, ?_, ?_⟩)
    · conv => whnf
      refine ⟨0, ?_, Nat.zero_le _⟩
      dsimp only
      rw [mix_zero, List.map_const']
      exact .of rfl
    intro i hi
    have hi : i ≤ m.length := hi
    dsimp only
    unfold csC
    conv => whnf
    refine ⟨fun w1 => ?_, fun w1 => ?_⟩
    · have w1 : i < m.length := lti w1
      refine Exists.elim (at_ex w1) fun x hx => ?_
      have h130 := h130 hx
      conv => whnf
      refine ⟨(by rw [List.length_map, Nat.zero_add]), ?_⟩
      conv => whnf
      conv => whnf
      refine ⟨(by rw [List.length_map, Nat.zero_add]), ?_⟩
      conv => whnf
      conv => whnf
      refine ⟨(by rw [List.length_map, Nat.zero_add]), ?_⟩
      conv => whnf
      conv => whnf
      refine ⟨(by rw [List.length_map, Nat.zero_add]), ?_⟩
      conv => whnf
      conv => whnf
      refine ⟨_, h130, ?_⟩
      conv => whnf
      conv => whnf
      refine ⟨⟨Int.natCast_nonneg _, by omega⟩, ?_⟩
      conv => whnf
      conv => whnf
      refine ⟨_, mix_ge0 (Nat.le_refl i) hx, ?_⟩
      conv => whnf
      conv => whnf
      refine ⟨i + 1, ?_, w1, by show m.length - (i + 1) < m.length - i; omega⟩
      dsimp only
      rw [up1 w1 (by omega)]
      exact .le (.refl _) (.cons _ _ _ _ _ (.rows (mix_le hx (.one .refl))) <| .refl _)
    · have hjN : i = m.length := by have := nlti w1; omega
      obtain ⟨Ea, hEa⟩ : ∃ Ea, Ea = mix (fun _ => [.int .i64 0]) (iC (earlyD u m)) m i := ⟨_, rfl⟩
      have hEa2 : Ea = m.map (iC (earlyD u m)) := by rw [hEa, hjN, mix_all]
      conv => whnf
      refine .inr (.inl ⟨[0, 2, 4, 5], Nat × List Nat, fun x => ([(0, .bptr 32 0), (2, .own 1 144 0 m.length .full), (4, .own 1 272 0 (x.2.map eN).length .opn), (5, .int .i64 x.1)], [(272, .live (.arr 1 (x.2.map eN))), (144, .live (.arr 1 Ea)), (32, .live (.box (csC f m u 32))), (35, .live (.arr 1 (m.map (iC u.s)))), (36, .live (.arr 6 (m.map (hC u)))), (37, .live (.arr 1 (f.map (fC u.F)))), (39, .live (.arr 1 (m.map (iC u.e))))]), fun x => x.1 ≤ m.length ∧ x.2 = (List.range x.1).filter (cB u m), fun x => m.length - x.1, ?_, ?_⟩)
      · conv => whnf
        refine ⟨(0, []), ?_, Nat.zero_le _, rfl⟩
        dsimp only
        rw [hEa]
        exact .nil (s := 1) (k := 272) rfl rfl (.same <| .same <| .chg <| .same .nil) .here
      have h131 := fun {i : Nat} {x : S47} (hx : m[i]? = some x) => hEa2 ▸ h131 hx
      rintro ⟨i, L⟩ ⟨hi, hL⟩
      dsimp only at hi hL
      have hLl : L.length ≤ 1024 := by rw [hL]; refine Nat.le_trans (List.length_filter_le _ _) ?_; rw [List.length_range]; omega
      have hLe : (L.map eN).length = L.length := List.length_map _
      have hEl : Ea.length = m.length := by rw [hEa2, List.length_map]
      dsimp only
      unfold csC
      conv => whnf
      refine ⟨fun w1 => ?_, fun w1 => ?_⟩
      · have w1 : i < m.length := lti w1
        refine Exists.elim (at_ex w1) fun x hx => ?_
        have h131 := h131 hx
        conv => whnf
        refine ⟨(by rw [List.length_map, Nat.zero_add]), ?_⟩
        conv => whnf
        conv => whnf
        refine ⟨(by rw [List.length_map, Nat.zero_add]), ?_⟩
        conv => whnf
        conv => whnf
        refine ⟨(by rw [List.length_map, Nat.zero_add]), ?_⟩
        conv => whnf
        conv => whnf
        refine ⟨(by rw [List.length_map, Nat.zero_add]), ?_⟩
        conv => whnf
        conv => whnf
        refine ⟨(by rw [hEl, Nat.zero_add]), ?_⟩
        conv => whnf
        conv => whnf
        refine ⟨_, h131, ?_⟩
        conv => whnf
        conv => whnf
        refine ⟨fun w2 => ?_, fun w2 => ?_⟩
        · conv => whnf
          refine ⟨rfl, ?_⟩
          conv => whnf
          conv => whnf
          refine ⟨⟨Nat.zero_add _, by show (_ + 1) * 8 ≤ 2 ^ 47; omega⟩, ?_⟩
          conv => whnf
          conv => whnf
          refine ⟨(i + 1, L ++ [i]), ?_, ⟨w1, by show L ++ [i] = _; rw [List.range_succ, List.filter_append, ← hL, List.filter_cons_of_pos w2]; rfl⟩, by show m.length - (i + 1) < m.length - i; omega⟩
          dsimp only
          rw [up1 w1 (by omega), List.map_append, List.length_append]
          exact .of rfl
        · conv => whnf
          refine ⟨(i + 1, L), ?_, ⟨w1, by show L = _; rw [List.range_succ, List.filter_append, ← hL, List.filter_cons_of_neg (by rw [w2]; decide)]; exact (List.append_nil _).symm⟩, by show m.length - (i + 1) < m.length - i; omega⟩
          dsimp only
          rw [up1 w1 (by omega)]
          exact .of rfl
      · have hjN : i = m.length := by have := nlti w1; omega
        rw [hjN] at hL
        conv => whnf
        refine .inr (.inl ⟨[0, 2, 4, 6], Nat × List (List AV), fun x => ([(0, .bptr 32 0), (2, .own 1 144 0 m.length .full), (4, .own 1 272 0 (L.map eN).length .opn), (6, .int .i64 x.1)], [(272, .live (.arr 1 (L.map eN))), (144, .live (.arr 1 x.2)), (32, .live (.box (csC f m u 32))), (35, .live (.arr 1 (m.map (iC u.s)))), (36, .live (.arr 6 (m.map (hC u)))), (37, .live (.arr 1 (f.map (fC u.F)))), (39, .live (.arr 1 (m.map (iC u.e))))]), fun x => x.1 ≤ L.length ∧ x.2 = m.map (iC (gP u m (L.take x.1))), fun x => L.length - x.1, ?_, ?_⟩)
        · conv => whnf
          refine ⟨(0, Ea), ?_, Nat.zero_le _, hEa2.trans rfl⟩
          exact .of rfl
        rintro ⟨p, Rw⟩ ⟨hp, hRw⟩
        dsimp only at hp hRw
        dsimp only
        unfold csC
        conv => whnf
        refine ⟨fun w1 => ?_, fun w1 => ?_⟩
        · have w1 : p < L.length := ltm w1
          refine Exists.elim (at_ex w1) fun j hj => ?_
          have hjm : j < m.length := by
            have := List.mem_of_getElem? hj
            rw [hL, List.mem_filter, List.mem_range] at this
            exact this.1
          refine Exists.elim (at_ex hjm) fun x hx => ?_
          have hRx : Rw[0 + ((j : Int)).toNat]? = some (iC (gP u m (L.take p)) x) := by rw [hRw]; exact map_at0 hx
          have hRs : Rw.set (0 + ((j : Int)).toNat) [.int .i64 3] = m.map (iC (gP u m (L.take (p + 1)))) := by
            rw [hRw, Nat.zero_add, Int.toNat_natCast, set_map hM.hn _ _ hx, gP_snoc _ _ _ hx, snoc_take hj]
          conv => whnf
          refine ⟨⟨Int.natCast_nonneg _, by omega⟩, ?_⟩
          conv => whnf
          conv => whnf
          refine ⟨_, map_at0 hj, ?_⟩
          conv => whnf
          conv => whnf
          refine ⟨⟨Int.natCast_nonneg _, by omega⟩, ?_⟩
          conv => whnf
          conv => whnf
          refine ⟨_, hRx, ?_⟩
          conv => whnf
          conv => whnf
          refine ⟨(p + 1, Rw.set (0 + ((j : Int)).toNat) [.int .i64 3]), ?_, ⟨w1, hRs⟩, by show L.length - (p + 1) < L.length - p; omega⟩
          dsimp only
          rw [up1 w1 (by omega)]
          exact .of rfl
        · have hpN : p = L.length := by have := nlti (by rw [List.length_map] at w1; exact w1); omega
          have hRd : Rw = m.map (iC (doesD u m)) := by rw [hRw, hpN, List.take_length, hL, gP_end hM.hn]
          rw [← hRd] at h132
          conv => whnf
          refine ⟨_, _, h132, ?_⟩
          conv => whnf
          conv => whnf
          refine Exists.elim hgo.2 fun k2 hk2 => ?_
          refine ⟨(k2, doV u m (doesD u m)), ?_, hk2.2, by show k2 < k; rw [hk2.1]; exact Nat.lt_succ_self _⟩
          exact .of rfl
end Go.Ab
namespace Go.Ab
open Go.Proofs Sn
set_option maxRecDepth 100000
set_option linter.unnecessarySimpa false
set_option linter.unusedSimpArgs false
set_option linter.unusedVariables false
set_option maxHeartbeats 40000000
def enc43 (a : S43) : List AV := [.int .i64 a.f0, .str a.f1, .int .i64 a.f2, .str a.f3, .int .i64 a.f4]
theorem rt_place {f : List ByteArray} {m : List S47} {r : S47} (hM : MdOk f m r) {x : S47} (hx : x ∈ m) : ∃ i : Nat, placeOf m x.f0 = i ∧ m[i]? = some x ∧ (rtB x = true → i = 0) ∧ (rtB x = false → 0 < i) := by
  obtain ⟨i, hi, e, ep⟩ := place_mem hM.hn hx
  have hxi : m[i]? = some x := by rw [← e, getD_of hi]; exact List.getElem?_eq_getElem hi
  refine ⟨i, ep, hxi, fun h => ?_, fun h => ?_⟩
  · cases i with
    | zero => rfl
    | succ i =>
      obtain ⟨h1, _⟩ := hM.par i x hxi
      rw [h1] at h; cases h
  · cases i with
    | zero =>
      have := hM.root.symm.trans hxi
      cases this
      rw [hM.rt] at h; cases h
    | succ i => exact Nat.succ_pos _
theorem user_row {m : List S47} (hn : (m.map S47.f0).Nodup) {i : Nat} {x : S47} (hx : m[i]? = some x) {a : S43} (e : x.f0 = a.f1) : (List.replicate m.length [AV.int .i64 0]).set (0 + ((i : Int)).toNat) [.int .i64 a.f2] = m.map (iC (userD a)) := by
  rw [Nat.zero_add, Int.toNat_natCast, ← List.map_const' (l := m), show (List.map (fun _ : S47 => [AV.int .i64 0]) m) = m.map (iC fun _ => 0) from rfl, set_map hn _ _ hx]
  rw [e]
  rfl
theorem c84 {f : List ByteArray} {m : List S47} {r : S47} (hM : MdOk f m r) (v : Vw) (a : S43) : ACall cx.P 84 [.bptr 32 0, .agg (enc43 a)] (csS f m v 32) (.int .i64 (userV v m a).2) (csT f m (userV v m a).1 32) := acallB byR Tryz.f84 (by kernel_rfl) (by kernel_rfl) rfl <| by
  have hml := hM.hm
  have hEm : (m.map enc47).length = m.length := List.length_map _
  have dh : (hasI m a.f1 = false ∨ ∃ x ∈ m, x.f0 = a.f1 ∧ rtB x = true) ∨ ∃ x ∈ m, x.f0 = a.f1 ∧ rtB x = false := by
    cases h : hasI m a.f1 with
    | false => exact .inl (.inl rfl)
    | true =>
      obtain ⟨x, hx, e⟩ := hasI_iff.1 h
      cases hr : rtB x with
      | true => exact .inl (.inr ⟨x, hx, e, hr⟩)
      | false => exact .inr ⟨x, hx, e, hr⟩
  rcases dh with dh | ⟨x, hxm, e, hr⟩
  · have hU : userV v m a = (v, 1) := by
      unfold userV
      rcases dh with h | ⟨x, hx, e, hr⟩
      · rw [h]; rfl
      · rw [getI_is hM.hn hx e, hr]
        cases hasI m a.f1 <;> rfl
    have hp : placeOf m a.f1 < 1 := by
      rcases dh with h | ⟨x, hx, e, hr⟩
      · unfold hasI at h
        have := of_decide_eq_false h
        omega
      · obtain ⟨i, h1, _, h2, _⟩ := rt_place hM hx
        rw [← e, h1, h2 hr]
        decide
    have h45 := c45p f m a.f1 (by omega)
    unfold encM at h45
    rw [hU]
    unfold csS csT csC enc43
    conv => whnf
    refine ⟨_, h45, ?_⟩
    conv => whnf
    conv => whnf
    refine ⟨by kernel_rfl, ?_⟩
    conv => whnf
    conv => whnf
    refine ⟨fun w1 => ?_, fun w1 => ?_⟩
    · conv => whnf
      exact .of rfl
    · have := of_decide_eq_false w1
      omega
  · obtain ⟨i, hi1, hx, _, hi3⟩ := rt_place hM hxm
    have hi3 := hi3 hr
    have hil := (List.getElem?_eq_some_iff.1 hx).1
    have hhas : hasI m a.f1 = true := hasI_iff.2 ⟨x, hxm, e⟩
    have hg : getI m a.f1 = x := getI_is hM.hn hxm e
    have h45 := c45p f m a.f1 (by omega)
    rw [← e, hi1] at h45
    have h133 := c133 f m v hx
    unfold encM at h45
    unfold caR at h133
    rw [e] at h45
    have hSx : (m.map (iC v.s))[0 + ((i : Int)).toNat]? = some [.int .i64 (v.s a.f1)] := by rw [map_at0 hx]; unfold iC; rw [e]
    rw [e] at h133
    cases hok : okB v m a with
    | false =>
      have hU : userV v m a = (v, 8) := by
        unfold userV
        rw [hhas, hg, hr, hok]; rfl
      rw [hU]
      unfold okB at hok
      rw [hg] at hok
      unfold csS csT csC enc43
      conv => whnf
      refine ⟨_, h45, ?_⟩
      conv => whnf
      conv => whnf
      refine ⟨by kernel_rfl, ?_⟩
      conv => whnf
      conv => whnf
      refine ⟨fun w1 => ?_, fun w1 => ?_⟩
      · have := of_decide_eq_true w1
        omega
      conv => whnf
      refine ⟨⟨Int.natCast_nonneg _, by omega⟩, ?_⟩
      conv => whnf
      conv => whnf
      refine ⟨_, map_at hx, ?_⟩
      conv => whnf
      conv => whnf
      refine ⟨fun k2 => ?_, fun k2 => ?_⟩
      · have k2 : (x.f1 == 2) = true := k2
        conv => whnf
        refine ⟨⟨Int.natCast_nonneg _, by omega⟩, ?_⟩
        conv => whnf
        conv => whnf
        refine ⟨_, hSx, ?_⟩
        conv => whnf
        conv => whnf
        refine ⟨fun s2 => ?_, fun s2 => ?_⟩
        · have s2 : (v.s a.f1 == 2) = true := s2
          conv => whnf
          refine ⟨fun e3 => ?_, fun e3 => ?_⟩
          · have e3 : (a.f2 == 3) = true := e3
            exact absurd hok (by rw [show ((x.f1 == 2 && (v.s a.f1 == 2 && a.f2 == 3)) || ((x.f1 == 4 && (v.s a.f1 == 1 && a.f2 == 4)) || (thereB v a.f1 && a.f2 == 5))) = true from by simp only [k2, s2, e3, Bool.true_and, Bool.false_and, Bool.and_true, Bool.and_false, Bool.or_true, Bool.true_or, Bool.false_or, Bool.or_false, Bool.not_true, Bool.not_false, cond_true, cond_false]]; decide)
          · have e3 : (a.f2 == 3) = false := e3
            conv => whnf
            refine ⟨fun k4 => ?_, fun k4 => ?_⟩
            · have k4 : (x.f1 == 4) = true := k4
              conv => whnf
              refine ⟨⟨Int.natCast_nonneg _, by omega⟩, ?_⟩
              conv => whnf
              conv => whnf
              refine ⟨_, hSx, ?_⟩
              conv => whnf
              conv => whnf
              refine ⟨fun s1 => ?_, fun s1 => ?_⟩
              · have s1 : (v.s a.f1 == 1) = true := s1
                conv => whnf
                refine ⟨fun e4 => ?_, fun e4 => ?_⟩
                · have e4 : (a.f2 == 4) = true := e4
                  exact absurd hok (by rw [show ((x.f1 == 2 && (v.s a.f1 == 2 && a.f2 == 3)) || ((x.f1 == 4 && (v.s a.f1 == 1 && a.f2 == 4)) || (thereB v a.f1 && a.f2 == 5))) = true from by simp only [k2, s2, e3, k4, s1, e4, Bool.true_and, Bool.false_and, Bool.and_true, Bool.and_false, Bool.or_true, Bool.true_or, Bool.false_or, Bool.or_false, Bool.not_true, Bool.not_false, cond_true, cond_false]]; decide)
                · have e4 : (a.f2 == 4) = false := e4
                  conv => whnf
                  refine ⟨(by rw [List.length_map, Nat.zero_add]), ?_⟩
                  conv => whnf
                  conv => whnf
                  refine ⟨(by rw [List.length_map, Nat.zero_add]), ?_⟩
                  conv => whnf
                  conv => whnf
                  refine ⟨(by rw [List.length_map, Nat.zero_add]), ?_⟩
                  conv => whnf
                  conv => whnf
                  refine ⟨(by rw [List.length_map, Nat.zero_add]), ?_⟩
                  conv => whnf
                  conv => whnf
                  refine ⟨_, h133, ?_⟩
                  conv => whnf
                  conv => whnf
                  refine ⟨fun th => ?_, fun th => ?_⟩
                  · have th : (thereB v a.f1) = true := th
                    conv => whnf
                    refine ⟨fun e5 => ?_, fun e5 => ?_⟩
                    · have e5 : (a.f2 == 5) = false := by simpa using e5
                      conv => whnf
                      exact .of rfl
                    · have e5 : (a.f2 == 5) = true := by simpa using e5
                      exact absurd hok (by rw [show ((x.f1 == 2 && (v.s a.f1 == 2 && a.f2 == 3)) || ((x.f1 == 4 && (v.s a.f1 == 1 && a.f2 == 4)) || (thereB v a.f1 && a.f2 == 5))) = true from by simp only [k2, s2, e3, k4, s1, e4, th, e5, Bool.true_and, Bool.false_and, Bool.and_true, Bool.and_false, Bool.or_true, Bool.true_or, Bool.false_or, Bool.or_false, Bool.not_true, Bool.not_false, cond_true, cond_false]]; decide)
                  · have th : (thereB v a.f1) = false := th
                    conv => whnf
                    exact .of rfl
              · have s1 : (v.s a.f1 == 1) = false := s1
                conv => whnf
                refine ⟨(by rw [List.length_map, Nat.zero_add]), ?_⟩
                conv => whnf
                conv => whnf
                refine ⟨(by rw [List.length_map, Nat.zero_add]), ?_⟩
                conv => whnf
                conv => whnf
                refine ⟨(by rw [List.length_map, Nat.zero_add]), ?_⟩
                conv => whnf
                conv => whnf
                refine ⟨(by rw [List.length_map, Nat.zero_add]), ?_⟩
                conv => whnf
                conv => whnf
                refine ⟨_, h133, ?_⟩
                conv => whnf
                conv => whnf
                refine ⟨fun th => ?_, fun th => ?_⟩
                · have th : (thereB v a.f1) = true := th
                  conv => whnf
                  refine ⟨fun e5 => ?_, fun e5 => ?_⟩
                  · have e5 : (a.f2 == 5) = false := by simpa using e5
                    conv => whnf
                    exact .of rfl
                  · have e5 : (a.f2 == 5) = true := by simpa using e5
                    exact absurd hok (by rw [show ((x.f1 == 2 && (v.s a.f1 == 2 && a.f2 == 3)) || ((x.f1 == 4 && (v.s a.f1 == 1 && a.f2 == 4)) || (thereB v a.f1 && a.f2 == 5))) = true from by simp only [k2, s2, e3, k4, s1, th, e5, Bool.true_and, Bool.false_and, Bool.and_true, Bool.and_false, Bool.or_true, Bool.true_or, Bool.false_or, Bool.or_false, Bool.not_true, Bool.not_false, cond_true, cond_false]]; decide)
                · have th : (thereB v a.f1) = false := th
                  conv => whnf
                  exact .of rfl
            · have k4 : (x.f1 == 4) = false := k4
              conv => whnf
              refine ⟨(by rw [List.length_map, Nat.zero_add]), ?_⟩
              conv => whnf
              conv => whnf
              refine ⟨(by rw [List.length_map, Nat.zero_add]), ?_⟩
              conv => whnf
              conv => whnf
              refine ⟨(by rw [List.length_map, Nat.zero_add]), ?_⟩
              conv => whnf
              conv => whnf
              refine ⟨(by rw [List.length_map, Nat.zero_add]), ?_⟩
              conv => whnf
              conv => whnf
              refine ⟨_, h133, ?_⟩
              conv => whnf
              conv => whnf
              refine ⟨fun th => ?_, fun th => ?_⟩
              · have th : (thereB v a.f1) = true := th
                conv => whnf
                refine ⟨fun e5 => ?_, fun e5 => ?_⟩
                · have e5 : (a.f2 == 5) = false := by simpa using e5
                  conv => whnf
                  exact .of rfl
                · have e5 : (a.f2 == 5) = true := by simpa using e5
                  exact absurd hok (by rw [show ((x.f1 == 2 && (v.s a.f1 == 2 && a.f2 == 3)) || ((x.f1 == 4 && (v.s a.f1 == 1 && a.f2 == 4)) || (thereB v a.f1 && a.f2 == 5))) = true from by simp only [k2, s2, e3, k4, th, e5, Bool.true_and, Bool.false_and, Bool.and_true, Bool.and_false, Bool.or_true, Bool.true_or, Bool.false_or, Bool.or_false, Bool.not_true, Bool.not_false, cond_true, cond_false]]; decide)
              · have th : (thereB v a.f1) = false := th
                conv => whnf
                exact .of rfl
        · have s2 : (v.s a.f1 == 2) = false := s2
          conv => whnf
          refine ⟨fun k4 => ?_, fun k4 => ?_⟩
          · have k4 : (x.f1 == 4) = true := k4
            conv => whnf
            refine ⟨⟨Int.natCast_nonneg _, by omega⟩, ?_⟩
            conv => whnf
            conv => whnf
            refine ⟨_, hSx, ?_⟩
            conv => whnf
            conv => whnf
            refine ⟨fun s1 => ?_, fun s1 => ?_⟩
            · have s1 : (v.s a.f1 == 1) = true := s1
              conv => whnf
              refine ⟨fun e4 => ?_, fun e4 => ?_⟩
              · have e4 : (a.f2 == 4) = true := e4
                exact absurd hok (by rw [show ((x.f1 == 2 && (v.s a.f1 == 2 && a.f2 == 3)) || ((x.f1 == 4 && (v.s a.f1 == 1 && a.f2 == 4)) || (thereB v a.f1 && a.f2 == 5))) = true from by simp only [k2, s2, k4, s1, e4, Bool.true_and, Bool.false_and, Bool.and_true, Bool.and_false, Bool.or_true, Bool.true_or, Bool.false_or, Bool.or_false, Bool.not_true, Bool.not_false, cond_true, cond_false]]; decide)
              · have e4 : (a.f2 == 4) = false := e4
                conv => whnf
                refine ⟨(by rw [List.length_map, Nat.zero_add]), ?_⟩
                conv => whnf
                conv => whnf
                refine ⟨(by rw [List.length_map, Nat.zero_add]), ?_⟩
                conv => whnf
                conv => whnf
                refine ⟨(by rw [List.length_map, Nat.zero_add]), ?_⟩
                conv => whnf
                conv => whnf
                refine ⟨(by rw [List.length_map, Nat.zero_add]), ?_⟩
                conv => whnf
                conv => whnf
                refine ⟨_, h133, ?_⟩
                conv => whnf
                conv => whnf
                refine ⟨fun th => ?_, fun th => ?_⟩
                · have th : (thereB v a.f1) = true := th
                  conv => whnf
                  refine ⟨fun e5 => ?_, fun e5 => ?_⟩
                  · have e5 : (a.f2 == 5) = false := by simpa using e5
                    conv => whnf
                    exact .of rfl
                  · have e5 : (a.f2 == 5) = true := by simpa using e5
                    exact absurd hok (by rw [show ((x.f1 == 2 && (v.s a.f1 == 2 && a.f2 == 3)) || ((x.f1 == 4 && (v.s a.f1 == 1 && a.f2 == 4)) || (thereB v a.f1 && a.f2 == 5))) = true from by simp only [k2, s2, k4, s1, e4, th, e5, Bool.true_and, Bool.false_and, Bool.and_true, Bool.and_false, Bool.or_true, Bool.true_or, Bool.false_or, Bool.or_false, Bool.not_true, Bool.not_false, cond_true, cond_false]]; decide)
                · have th : (thereB v a.f1) = false := th
                  conv => whnf
                  exact .of rfl
            · have s1 : (v.s a.f1 == 1) = false := s1
              conv => whnf
              refine ⟨(by rw [List.length_map, Nat.zero_add]), ?_⟩
              conv => whnf
              conv => whnf
              refine ⟨(by rw [List.length_map, Nat.zero_add]), ?_⟩
              conv => whnf
              conv => whnf
              refine ⟨(by rw [List.length_map, Nat.zero_add]), ?_⟩
              conv => whnf
              conv => whnf
              refine ⟨(by rw [List.length_map, Nat.zero_add]), ?_⟩
              conv => whnf
              conv => whnf
              refine ⟨_, h133, ?_⟩
              conv => whnf
              conv => whnf
              refine ⟨fun th => ?_, fun th => ?_⟩
              · have th : (thereB v a.f1) = true := th
                conv => whnf
                refine ⟨fun e5 => ?_, fun e5 => ?_⟩
                · have e5 : (a.f2 == 5) = false := by simpa using e5
                  conv => whnf
                  exact .of rfl
                · have e5 : (a.f2 == 5) = true := by simpa using e5
                  exact absurd hok (by rw [show ((x.f1 == 2 && (v.s a.f1 == 2 && a.f2 == 3)) || ((x.f1 == 4 && (v.s a.f1 == 1 && a.f2 == 4)) || (thereB v a.f1 && a.f2 == 5))) = true from by simp only [k2, s2, k4, s1, th, e5, Bool.true_and, Bool.false_and, Bool.and_true, Bool.and_false, Bool.or_true, Bool.true_or, Bool.false_or, Bool.or_false, Bool.not_true, Bool.not_false, cond_true, cond_false]]; decide)
              · have th : (thereB v a.f1) = false := th
                conv => whnf
                exact .of rfl
          · have k4 : (x.f1 == 4) = false := k4
            conv => whnf
            refine ⟨(by rw [List.length_map, Nat.zero_add]), ?_⟩
            conv => whnf
            conv => whnf
            refine ⟨(by rw [List.length_map, Nat.zero_add]), ?_⟩
            conv => whnf
            conv => whnf
            refine ⟨(by rw [List.length_map, Nat.zero_add]), ?_⟩
            conv => whnf
            conv => whnf
            refine ⟨(by rw [List.length_map, Nat.zero_add]), ?_⟩
            conv => whnf
            conv => whnf
            refine ⟨_, h133, ?_⟩
            conv => whnf
            conv => whnf
            refine ⟨fun th => ?_, fun th => ?_⟩
            · have th : (thereB v a.f1) = true := th
              conv => whnf
              refine ⟨fun e5 => ?_, fun e5 => ?_⟩
              · have e5 : (a.f2 == 5) = false := by simpa using e5
                conv => whnf
                exact .of rfl
              · have e5 : (a.f2 == 5) = true := by simpa using e5
                exact absurd hok (by rw [show ((x.f1 == 2 && (v.s a.f1 == 2 && a.f2 == 3)) || ((x.f1 == 4 && (v.s a.f1 == 1 && a.f2 == 4)) || (thereB v a.f1 && a.f2 == 5))) = true from by simp only [k2, s2, k4, th, e5, Bool.true_and, Bool.false_and, Bool.and_true, Bool.and_false, Bool.or_true, Bool.true_or, Bool.false_or, Bool.or_false, Bool.not_true, Bool.not_false, cond_true, cond_false]]; decide)
            · have th : (thereB v a.f1) = false := th
              conv => whnf
              exact .of rfl
      · have k2 : (x.f1 == 2) = false := k2
        conv => whnf
        refine ⟨fun k4 => ?_, fun k4 => ?_⟩
        · have k4 : (x.f1 == 4) = true := k4
          conv => whnf
          refine ⟨⟨Int.natCast_nonneg _, by omega⟩, ?_⟩
          conv => whnf
          conv => whnf
          refine ⟨_, hSx, ?_⟩
          conv => whnf
          conv => whnf
          refine ⟨fun s1 => ?_, fun s1 => ?_⟩
          · have s1 : (v.s a.f1 == 1) = true := s1
            conv => whnf
            refine ⟨fun e4 => ?_, fun e4 => ?_⟩
            · have e4 : (a.f2 == 4) = true := e4
              exact absurd hok (by rw [show ((x.f1 == 2 && (v.s a.f1 == 2 && a.f2 == 3)) || ((x.f1 == 4 && (v.s a.f1 == 1 && a.f2 == 4)) || (thereB v a.f1 && a.f2 == 5))) = true from by simp only [k2, k4, s1, e4, Bool.true_and, Bool.false_and, Bool.and_true, Bool.and_false, Bool.or_true, Bool.true_or, Bool.false_or, Bool.or_false, Bool.not_true, Bool.not_false, cond_true, cond_false]]; decide)
            · have e4 : (a.f2 == 4) = false := e4
              conv => whnf
              refine ⟨(by rw [List.length_map, Nat.zero_add]), ?_⟩
              conv => whnf
              conv => whnf
              refine ⟨(by rw [List.length_map, Nat.zero_add]), ?_⟩
              conv => whnf
              conv => whnf
              refine ⟨(by rw [List.length_map, Nat.zero_add]), ?_⟩
              conv => whnf
              conv => whnf
              refine ⟨(by rw [List.length_map, Nat.zero_add]), ?_⟩
              conv => whnf
              conv => whnf
              refine ⟨_, h133, ?_⟩
              conv => whnf
              conv => whnf
              refine ⟨fun th => ?_, fun th => ?_⟩
              · have th : (thereB v a.f1) = true := th
                conv => whnf
                refine ⟨fun e5 => ?_, fun e5 => ?_⟩
                · have e5 : (a.f2 == 5) = false := by simpa using e5
                  conv => whnf
                  exact .of rfl
                · have e5 : (a.f2 == 5) = true := by simpa using e5
                  exact absurd hok (by rw [show ((x.f1 == 2 && (v.s a.f1 == 2 && a.f2 == 3)) || ((x.f1 == 4 && (v.s a.f1 == 1 && a.f2 == 4)) || (thereB v a.f1 && a.f2 == 5))) = true from by simp only [k2, k4, s1, e4, th, e5, Bool.true_and, Bool.false_and, Bool.and_true, Bool.and_false, Bool.or_true, Bool.true_or, Bool.false_or, Bool.or_false, Bool.not_true, Bool.not_false, cond_true, cond_false]]; decide)
              · have th : (thereB v a.f1) = false := th
                conv => whnf
                exact .of rfl
          · have s1 : (v.s a.f1 == 1) = false := s1
            conv => whnf
            refine ⟨(by rw [List.length_map, Nat.zero_add]), ?_⟩
            conv => whnf
            conv => whnf
            refine ⟨(by rw [List.length_map, Nat.zero_add]), ?_⟩
            conv => whnf
            conv => whnf
            refine ⟨(by rw [List.length_map, Nat.zero_add]), ?_⟩
            conv => whnf
            conv => whnf
            refine ⟨(by rw [List.length_map, Nat.zero_add]), ?_⟩
            conv => whnf
            conv => whnf
            refine ⟨_, h133, ?_⟩
            conv => whnf
            conv => whnf
            refine ⟨fun th => ?_, fun th => ?_⟩
            · have th : (thereB v a.f1) = true := th
              conv => whnf
              refine ⟨fun e5 => ?_, fun e5 => ?_⟩
              · have e5 : (a.f2 == 5) = false := by simpa using e5
                conv => whnf
                exact .of rfl
              · have e5 : (a.f2 == 5) = true := by simpa using e5
                exact absurd hok (by rw [show ((x.f1 == 2 && (v.s a.f1 == 2 && a.f2 == 3)) || ((x.f1 == 4 && (v.s a.f1 == 1 && a.f2 == 4)) || (thereB v a.f1 && a.f2 == 5))) = true from by simp only [k2, k4, s1, th, e5, Bool.true_and, Bool.false_and, Bool.and_true, Bool.and_false, Bool.or_true, Bool.true_or, Bool.false_or, Bool.or_false, Bool.not_true, Bool.not_false, cond_true, cond_false]]; decide)
            · have th : (thereB v a.f1) = false := th
              conv => whnf
              exact .of rfl
        · have k4 : (x.f1 == 4) = false := k4
          conv => whnf
          refine ⟨(by rw [List.length_map, Nat.zero_add]), ?_⟩
          conv => whnf
          conv => whnf
          refine ⟨(by rw [List.length_map, Nat.zero_add]), ?_⟩
          conv => whnf
          conv => whnf
          refine ⟨(by rw [List.length_map, Nat.zero_add]), ?_⟩
          conv => whnf
          conv => whnf
          refine ⟨(by rw [List.length_map, Nat.zero_add]), ?_⟩
          conv => whnf
          conv => whnf
          refine ⟨_, h133, ?_⟩
          conv => whnf
          conv => whnf
          refine ⟨fun th => ?_, fun th => ?_⟩
          · have th : (thereB v a.f1) = true := th
            conv => whnf
            refine ⟨fun e5 => ?_, fun e5 => ?_⟩
            · have e5 : (a.f2 == 5) = false := by simpa using e5
              conv => whnf
              exact .of rfl
            · have e5 : (a.f2 == 5) = true := by simpa using e5
              exact absurd hok (by rw [show ((x.f1 == 2 && (v.s a.f1 == 2 && a.f2 == 3)) || ((x.f1 == 4 && (v.s a.f1 == 1 && a.f2 == 4)) || (thereB v a.f1 && a.f2 == 5))) = true from by simp only [k2, k4, th, e5, Bool.true_and, Bool.false_and, Bool.and_true, Bool.and_false, Bool.or_true, Bool.true_or, Bool.false_or, Bool.or_false, Bool.not_true, Bool.not_false, cond_true, cond_false]]; decide)
          · have th : (thereB v a.f1) = false := th
            conv => whnf
            exact .of rfl
    | true =>
      have hU : userV v m a = (rnd m (doV v m (userD a)), 0) := by
        unfold userV
        rw [hhas, hg, hr, hok]; rfl
      rw [hU]
      unfold okB at hok
      rw [hg] at hok
      have he : 3 ≤ a.f2 ∧ a.f2 ≤ 5 := by
        simp only [Bool.or_eq_true, Bool.and_eq_true, beq_iff_eq] at hok
        rcases hok with h | h | h <;> omega
      have h132 := c132 hM v (userD a) fun y _ => cl_5 v m (fun id => by
        unfold userD
        cases sEq id a.f1 with
        | true => exact ⟨by show 0 ≤ a.f2; omega, by show a.f2 ≤ 5; omega⟩
        | false => exact ⟨by show (0 : Int) ≤ 0; decide, by show (0 : Int) ≤ 5; decide⟩) 16 y.f0
      rw [← user_row hM.hn hx e] at h132
      have hz : (List.replicate m.length [AV.int .i64 0])[0 + ((i : Int)).toNat]? = some [.int .i64 0] := by
        rw [Nat.zero_add]
        show (List.replicate m.length [AV.int .i64 0])[i]? = _
        rw [List.getElem?_replicate, if_pos hil]
      refine Exists.elim (rnd_is hM.hn (doV v m (userD a))) fun k hR => ?_
      have h83 := c83 hM hR
      unfold csS csT csC at h132
      unfold csS csT csC at h83
      unfold csS csT csC enc43
      conv => whnf
      refine ⟨_, h45, ?_⟩
      conv => whnf
      conv => whnf
      refine ⟨by kernel_rfl, ?_⟩
      conv => whnf
      conv => whnf
      refine ⟨fun w1 => ?_, fun w1 => ?_⟩
      · have := of_decide_eq_true w1
        omega
      conv => whnf
      refine ⟨⟨Int.natCast_nonneg _, by omega⟩, ?_⟩
      conv => whnf
      conv => whnf
      refine ⟨_, map_at hx, ?_⟩
      conv => whnf
      conv => whnf
      refine ⟨fun k2 => ?_, fun k2 => ?_⟩
      · have k2 : (x.f1 == 2) = true := k2
        conv => whnf
        refine ⟨⟨Int.natCast_nonneg _, by omega⟩, ?_⟩
        conv => whnf
        conv => whnf
        refine ⟨_, hSx, ?_⟩
        conv => whnf
        conv => whnf
        refine ⟨fun s2 => ?_, fun s2 => ?_⟩
        · have s2 : (v.s a.f1 == 2) = true := s2
          conv => whnf
          refine ⟨fun e3 => ?_, fun e3 => ?_⟩
          · have e3 : (a.f2 == 3) = true := e3
            conv => whnf
            refine ⟨⟨⟨Int.natCast_nonneg _, rfl⟩, by show m.length * 8 ≤ 2 ^ 47; omega⟩, ?_⟩
            conv => whnf
            conv => whnf
            refine ⟨⟨Int.natCast_nonneg _, by omega⟩, ?_⟩
            conv => whnf
            conv => whnf
            refine ⟨_, hz, ?_⟩
            conv => whnf
            conv => whnf
            refine ⟨_, _, h132, ?_⟩
            conv => whnf
            conv => whnf
            refine ⟨_, _, h83, ?_⟩
            conv => whnf
            conv => whnf
            exact .of rfl
          · have e3 : (a.f2 == 3) = false := e3
            conv => whnf
            refine ⟨fun k4 => ?_, fun k4 => ?_⟩
            · have k4 : (x.f1 == 4) = true := k4
              conv => whnf
              refine ⟨⟨Int.natCast_nonneg _, by omega⟩, ?_⟩
              conv => whnf
              conv => whnf
              refine ⟨_, hSx, ?_⟩
              conv => whnf
              conv => whnf
              refine ⟨fun s1 => ?_, fun s1 => ?_⟩
              · have s1 : (v.s a.f1 == 1) = true := s1
                conv => whnf
                refine ⟨fun e4 => ?_, fun e4 => ?_⟩
                · have e4 : (a.f2 == 4) = true := e4
                  conv => whnf
                  refine ⟨⟨⟨Int.natCast_nonneg _, rfl⟩, by show m.length * 8 ≤ 2 ^ 47; omega⟩, ?_⟩
                  conv => whnf
                  conv => whnf
                  refine ⟨⟨Int.natCast_nonneg _, by omega⟩, ?_⟩
                  conv => whnf
                  conv => whnf
                  refine ⟨_, hz, ?_⟩
                  conv => whnf
                  conv => whnf
                  refine ⟨_, _, h132, ?_⟩
                  conv => whnf
                  conv => whnf
                  refine ⟨_, _, h83, ?_⟩
                  conv => whnf
                  conv => whnf
                  exact .of rfl
                · have e4 : (a.f2 == 4) = false := e4
                  conv => whnf
                  refine ⟨(by rw [List.length_map, Nat.zero_add]), ?_⟩
                  conv => whnf
                  conv => whnf
                  refine ⟨(by rw [List.length_map, Nat.zero_add]), ?_⟩
                  conv => whnf
                  conv => whnf
                  refine ⟨(by rw [List.length_map, Nat.zero_add]), ?_⟩
                  conv => whnf
                  conv => whnf
                  refine ⟨(by rw [List.length_map, Nat.zero_add]), ?_⟩
                  conv => whnf
                  conv => whnf
                  refine ⟨_, h133, ?_⟩
                  conv => whnf
                  conv => whnf
                  refine ⟨fun th => ?_, fun th => ?_⟩
                  · have th : (thereB v a.f1) = true := th
                    conv => whnf
                    refine ⟨fun e5 => ?_, fun e5 => ?_⟩
                    · have e5 : (a.f2 == 5) = false := by simpa using e5
                      exact absurd hok (by rw [show ((x.f1 == 2 && (v.s a.f1 == 2 && a.f2 == 3)) || ((x.f1 == 4 && (v.s a.f1 == 1 && a.f2 == 4)) || (thereB v a.f1 && a.f2 == 5))) = false from by simp only [k2, s2, e3, k4, s1, e4, th, e5, Bool.true_and, Bool.false_and, Bool.and_true, Bool.and_false, Bool.or_true, Bool.true_or, Bool.false_or, Bool.or_false, Bool.not_true, Bool.not_false, cond_true, cond_false]]; decide)
                    · have e5 : (a.f2 == 5) = true := by simpa using e5
                      conv => whnf
                      refine ⟨⟨⟨Int.natCast_nonneg _, rfl⟩, by show m.length * 8 ≤ 2 ^ 47; omega⟩, ?_⟩
                      conv => whnf
                      conv => whnf
                      refine ⟨⟨Int.natCast_nonneg _, by omega⟩, ?_⟩
                      conv => whnf
                      conv => whnf
                      refine ⟨_, hz, ?_⟩
                      conv => whnf
                      conv => whnf
                      refine ⟨_, _, h132, ?_⟩
                      conv => whnf
                      conv => whnf
                      refine ⟨_, _, h83, ?_⟩
                      conv => whnf
                      conv => whnf
                      exact .of rfl
                  · have th : (thereB v a.f1) = false := th
                    exact absurd hok (by rw [show ((x.f1 == 2 && (v.s a.f1 == 2 && a.f2 == 3)) || ((x.f1 == 4 && (v.s a.f1 == 1 && a.f2 == 4)) || (thereB v a.f1 && a.f2 == 5))) = false from by simp only [k2, s2, e3, k4, s1, e4, th, Bool.true_and, Bool.false_and, Bool.and_true, Bool.and_false, Bool.or_true, Bool.true_or, Bool.false_or, Bool.or_false, Bool.not_true, Bool.not_false, cond_true, cond_false]]; decide)
              · have s1 : (v.s a.f1 == 1) = false := s1
                conv => whnf
                refine ⟨(by rw [List.length_map, Nat.zero_add]), ?_⟩
                conv => whnf
                conv => whnf
                refine ⟨(by rw [List.length_map, Nat.zero_add]), ?_⟩
                conv => whnf
                conv => whnf
                refine ⟨(by rw [List.length_map, Nat.zero_add]), ?_⟩
                conv => whnf
                conv => whnf
                refine ⟨(by rw [List.length_map, Nat.zero_add]), ?_⟩
                conv => whnf
                conv => whnf
                refine ⟨_, h133, ?_⟩
                conv => whnf
                conv => whnf
                refine ⟨fun th => ?_, fun th => ?_⟩
                · have th : (thereB v a.f1) = true := th
                  conv => whnf
                  refine ⟨fun e5 => ?_, fun e5 => ?_⟩
                  · have e5 : (a.f2 == 5) = false := by simpa using e5
                    exact absurd hok (by rw [show ((x.f1 == 2 && (v.s a.f1 == 2 && a.f2 == 3)) || ((x.f1 == 4 && (v.s a.f1 == 1 && a.f2 == 4)) || (thereB v a.f1 && a.f2 == 5))) = false from by simp only [k2, s2, e3, k4, s1, th, e5, Bool.true_and, Bool.false_and, Bool.and_true, Bool.and_false, Bool.or_true, Bool.true_or, Bool.false_or, Bool.or_false, Bool.not_true, Bool.not_false, cond_true, cond_false]]; decide)
                  · have e5 : (a.f2 == 5) = true := by simpa using e5
                    conv => whnf
                    refine ⟨⟨⟨Int.natCast_nonneg _, rfl⟩, by show m.length * 8 ≤ 2 ^ 47; omega⟩, ?_⟩
                    conv => whnf
                    conv => whnf
                    refine ⟨⟨Int.natCast_nonneg _, by omega⟩, ?_⟩
                    conv => whnf
                    conv => whnf
                    refine ⟨_, hz, ?_⟩
                    conv => whnf
                    conv => whnf
                    refine ⟨_, _, h132, ?_⟩
                    conv => whnf
                    conv => whnf
                    refine ⟨_, _, h83, ?_⟩
                    conv => whnf
                    conv => whnf
                    exact .of rfl
                · have th : (thereB v a.f1) = false := th
                  exact absurd hok (by rw [show ((x.f1 == 2 && (v.s a.f1 == 2 && a.f2 == 3)) || ((x.f1 == 4 && (v.s a.f1 == 1 && a.f2 == 4)) || (thereB v a.f1 && a.f2 == 5))) = false from by simp only [k2, s2, e3, k4, s1, th, Bool.true_and, Bool.false_and, Bool.and_true, Bool.and_false, Bool.or_true, Bool.true_or, Bool.false_or, Bool.or_false, Bool.not_true, Bool.not_false, cond_true, cond_false]]; decide)
            · have k4 : (x.f1 == 4) = false := k4
              conv => whnf
              refine ⟨(by rw [List.length_map, Nat.zero_add]), ?_⟩
              conv => whnf
              conv => whnf
              refine ⟨(by rw [List.length_map, Nat.zero_add]), ?_⟩
              conv => whnf
              conv => whnf
              refine ⟨(by rw [List.length_map, Nat.zero_add]), ?_⟩
              conv => whnf
              conv => whnf
              refine ⟨(by rw [List.length_map, Nat.zero_add]), ?_⟩
              conv => whnf
              conv => whnf
              refine ⟨_, h133, ?_⟩
              conv => whnf
              conv => whnf
              refine ⟨fun th => ?_, fun th => ?_⟩
              · have th : (thereB v a.f1) = true := th
                conv => whnf
                refine ⟨fun e5 => ?_, fun e5 => ?_⟩
                · have e5 : (a.f2 == 5) = false := by simpa using e5
                  exact absurd hok (by rw [show ((x.f1 == 2 && (v.s a.f1 == 2 && a.f2 == 3)) || ((x.f1 == 4 && (v.s a.f1 == 1 && a.f2 == 4)) || (thereB v a.f1 && a.f2 == 5))) = false from by simp only [k2, s2, e3, k4, th, e5, Bool.true_and, Bool.false_and, Bool.and_true, Bool.and_false, Bool.or_true, Bool.true_or, Bool.false_or, Bool.or_false, Bool.not_true, Bool.not_false, cond_true, cond_false]]; decide)
                · have e5 : (a.f2 == 5) = true := by simpa using e5
                  conv => whnf
                  refine ⟨⟨⟨Int.natCast_nonneg _, rfl⟩, by show m.length * 8 ≤ 2 ^ 47; omega⟩, ?_⟩
                  conv => whnf
                  conv => whnf
                  refine ⟨⟨Int.natCast_nonneg _, by omega⟩, ?_⟩
                  conv => whnf
                  conv => whnf
                  refine ⟨_, hz, ?_⟩
                  conv => whnf
                  conv => whnf
                  refine ⟨_, _, h132, ?_⟩
                  conv => whnf
                  conv => whnf
                  refine ⟨_, _, h83, ?_⟩
                  conv => whnf
                  conv => whnf
                  exact .of rfl
              · have th : (thereB v a.f1) = false := th
                exact absurd hok (by rw [show ((x.f1 == 2 && (v.s a.f1 == 2 && a.f2 == 3)) || ((x.f1 == 4 && (v.s a.f1 == 1 && a.f2 == 4)) || (thereB v a.f1 && a.f2 == 5))) = false from by simp only [k2, s2, e3, k4, th, Bool.true_and, Bool.false_and, Bool.and_true, Bool.and_false, Bool.or_true, Bool.true_or, Bool.false_or, Bool.or_false, Bool.not_true, Bool.not_false, cond_true, cond_false]]; decide)
        · have s2 : (v.s a.f1 == 2) = false := s2
          conv => whnf
          refine ⟨fun k4 => ?_, fun k4 => ?_⟩
          · have k4 : (x.f1 == 4) = true := k4
            conv => whnf
            refine ⟨⟨Int.natCast_nonneg _, by omega⟩, ?_⟩
            conv => whnf
            conv => whnf
            refine ⟨_, hSx, ?_⟩
            conv => whnf
            conv => whnf
            refine ⟨fun s1 => ?_, fun s1 => ?_⟩
            · have s1 : (v.s a.f1 == 1) = true := s1
              conv => whnf
              refine ⟨fun e4 => ?_, fun e4 => ?_⟩
              · have e4 : (a.f2 == 4) = true := e4
                conv => whnf
                refine ⟨⟨⟨Int.natCast_nonneg _, rfl⟩, by show m.length * 8 ≤ 2 ^ 47; omega⟩, ?_⟩
                conv => whnf
                conv => whnf
                refine ⟨⟨Int.natCast_nonneg _, by omega⟩, ?_⟩
                conv => whnf
                conv => whnf
                refine ⟨_, hz, ?_⟩
                conv => whnf
                conv => whnf
                refine ⟨_, _, h132, ?_⟩
                conv => whnf
                conv => whnf
                refine ⟨_, _, h83, ?_⟩
                conv => whnf
                conv => whnf
                exact .of rfl
              · have e4 : (a.f2 == 4) = false := e4
                conv => whnf
                refine ⟨(by rw [List.length_map, Nat.zero_add]), ?_⟩
                conv => whnf
                conv => whnf
                refine ⟨(by rw [List.length_map, Nat.zero_add]), ?_⟩
                conv => whnf
                conv => whnf
                refine ⟨(by rw [List.length_map, Nat.zero_add]), ?_⟩
                conv => whnf
                conv => whnf
                refine ⟨(by rw [List.length_map, Nat.zero_add]), ?_⟩
                conv => whnf
                conv => whnf
                refine ⟨_, h133, ?_⟩
                conv => whnf
                conv => whnf
                refine ⟨fun th => ?_, fun th => ?_⟩
                · have th : (thereB v a.f1) = true := th
                  conv => whnf
                  refine ⟨fun e5 => ?_, fun e5 => ?_⟩
                  · have e5 : (a.f2 == 5) = false := by simpa using e5
                    exact absurd hok (by rw [show ((x.f1 == 2 && (v.s a.f1 == 2 && a.f2 == 3)) || ((x.f1 == 4 && (v.s a.f1 == 1 && a.f2 == 4)) || (thereB v a.f1 && a.f2 == 5))) = false from by simp only [k2, s2, k4, s1, e4, th, e5, Bool.true_and, Bool.false_and, Bool.and_true, Bool.and_false, Bool.or_true, Bool.true_or, Bool.false_or, Bool.or_false, Bool.not_true, Bool.not_false, cond_true, cond_false]]; decide)
                  · have e5 : (a.f2 == 5) = true := by simpa using e5
                    conv => whnf
                    refine ⟨⟨⟨Int.natCast_nonneg _, rfl⟩, by show m.length * 8 ≤ 2 ^ 47; omega⟩, ?_⟩
                    conv => whnf
                    conv => whnf
                    refine ⟨⟨Int.natCast_nonneg _, by omega⟩, ?_⟩
                    conv => whnf
                    conv => whnf
                    refine ⟨_, hz, ?_⟩
                    conv => whnf
                    conv => whnf
                    refine ⟨_, _, h132, ?_⟩
                    conv => whnf
                    conv => whnf
                    refine ⟨_, _, h83, ?_⟩
                    conv => whnf
                    conv => whnf
                    exact .of rfl
                · have th : (thereB v a.f1) = false := th
                  exact absurd hok (by rw [show ((x.f1 == 2 && (v.s a.f1 == 2 && a.f2 == 3)) || ((x.f1 == 4 && (v.s a.f1 == 1 && a.f2 == 4)) || (thereB v a.f1 && a.f2 == 5))) = false from by simp only [k2, s2, k4, s1, e4, th, Bool.true_and, Bool.false_and, Bool.and_true, Bool.and_false, Bool.or_true, Bool.true_or, Bool.false_or, Bool.or_false, Bool.not_true, Bool.not_false, cond_true, cond_false]]; decide)
            · have s1 : (v.s a.f1 == 1) = false := s1
              conv => whnf
              refine ⟨(by rw [List.length_map, Nat.zero_add]), ?_⟩
              conv => whnf
              conv => whnf
              refine ⟨(by rw [List.length_map, Nat.zero_add]), ?_⟩
              conv => whnf
              conv => whnf
              refine ⟨(by rw [List.length_map, Nat.zero_add]), ?_⟩
              conv => whnf
              conv => whnf
              refine ⟨(by rw [List.length_map, Nat.zero_add]), ?_⟩
              conv => whnf
              conv => whnf
              refine ⟨_, h133, ?_⟩
              conv => whnf
              conv => whnf
              refine ⟨fun th => ?_, fun th => ?_⟩
              · have th : (thereB v a.f1) = true := th
                conv => whnf
                refine ⟨fun e5 => ?_, fun e5 => ?_⟩
                · have e5 : (a.f2 == 5) = false := by simpa using e5
                  exact absurd hok (by rw [show ((x.f1 == 2 && (v.s a.f1 == 2 && a.f2 == 3)) || ((x.f1 == 4 && (v.s a.f1 == 1 && a.f2 == 4)) || (thereB v a.f1 && a.f2 == 5))) = false from by simp only [k2, s2, k4, s1, th, e5, Bool.true_and, Bool.false_and, Bool.and_true, Bool.and_false, Bool.or_true, Bool.true_or, Bool.false_or, Bool.or_false, Bool.not_true, Bool.not_false, cond_true, cond_false]]; decide)
                · have e5 : (a.f2 == 5) = true := by simpa using e5
                  conv => whnf
                  refine ⟨⟨⟨Int.natCast_nonneg _, rfl⟩, by show m.length * 8 ≤ 2 ^ 47; omega⟩, ?_⟩
                  conv => whnf
                  conv => whnf
                  refine ⟨⟨Int.natCast_nonneg _, by omega⟩, ?_⟩
                  conv => whnf
                  conv => whnf
                  refine ⟨_, hz, ?_⟩
                  conv => whnf
                  conv => whnf
                  refine ⟨_, _, h132, ?_⟩
                  conv => whnf
                  conv => whnf
                  refine ⟨_, _, h83, ?_⟩
                  conv => whnf
                  conv => whnf
                  exact .of rfl
              · have th : (thereB v a.f1) = false := th
                exact absurd hok (by rw [show ((x.f1 == 2 && (v.s a.f1 == 2 && a.f2 == 3)) || ((x.f1 == 4 && (v.s a.f1 == 1 && a.f2 == 4)) || (thereB v a.f1 && a.f2 == 5))) = false from by simp only [k2, s2, k4, s1, th, Bool.true_and, Bool.false_and, Bool.and_true, Bool.and_false, Bool.or_true, Bool.true_or, Bool.false_or, Bool.or_false, Bool.not_true, Bool.not_false, cond_true, cond_false]]; decide)
          · have k4 : (x.f1 == 4) = false := k4
            conv => whnf
            refine ⟨(by rw [List.length_map, Nat.zero_add]), ?_⟩
            conv => whnf
            conv => whnf
            refine ⟨(by rw [List.length_map, Nat.zero_add]), ?_⟩
            conv => whnf
            conv => whnf
            refine ⟨(by rw [List.length_map, Nat.zero_add]), ?_⟩
            conv => whnf
            conv => whnf
            refine ⟨(by rw [List.length_map, Nat.zero_add]), ?_⟩
            conv => whnf
            conv => whnf
            refine ⟨_, h133, ?_⟩
            conv => whnf
            conv => whnf
            refine ⟨fun th => ?_, fun th => ?_⟩
            · have th : (thereB v a.f1) = true := th
              conv => whnf
              refine ⟨fun e5 => ?_, fun e5 => ?_⟩
              · have e5 : (a.f2 == 5) = false := by simpa using e5
                exact absurd hok (by rw [show ((x.f1 == 2 && (v.s a.f1 == 2 && a.f2 == 3)) || ((x.f1 == 4 && (v.s a.f1 == 1 && a.f2 == 4)) || (thereB v a.f1 && a.f2 == 5))) = false from by simp only [k2, s2, k4, th, e5, Bool.true_and, Bool.false_and, Bool.and_true, Bool.and_false, Bool.or_true, Bool.true_or, Bool.false_or, Bool.or_false, Bool.not_true, Bool.not_false, cond_true, cond_false]]; decide)
              · have e5 : (a.f2 == 5) = true := by simpa using e5
                conv => whnf
                refine ⟨⟨⟨Int.natCast_nonneg _, rfl⟩, by show m.length * 8 ≤ 2 ^ 47; omega⟩, ?_⟩
                conv => whnf
                conv => whnf
                refine ⟨⟨Int.natCast_nonneg _, by omega⟩, ?_⟩
                conv => whnf
                conv => whnf
                refine ⟨_, hz, ?_⟩
                conv => whnf
                conv => whnf
                refine ⟨_, _, h132, ?_⟩
                conv => whnf
                conv => whnf
                refine ⟨_, _, h83, ?_⟩
                conv => whnf
                conv => whnf
                exact .of rfl
            · have th : (thereB v a.f1) = false := th
              exact absurd hok (by rw [show ((x.f1 == 2 && (v.s a.f1 == 2 && a.f2 == 3)) || ((x.f1 == 4 && (v.s a.f1 == 1 && a.f2 == 4)) || (thereB v a.f1 && a.f2 == 5))) = false from by simp only [k2, s2, k4, th, Bool.true_and, Bool.false_and, Bool.and_true, Bool.and_false, Bool.or_true, Bool.true_or, Bool.false_or, Bool.or_false, Bool.not_true, Bool.not_false, cond_true, cond_false]]; decide)
      · have k2 : (x.f1 == 2) = false := k2
        conv => whnf
        refine ⟨fun k4 => ?_, fun k4 => ?_⟩
        · have k4 : (x.f1 == 4) = true := k4
          conv => whnf
          refine ⟨⟨Int.natCast_nonneg _, by omega⟩, ?_⟩
          conv => whnf
          conv => whnf
          refine ⟨_, hSx, ?_⟩
          conv => whnf
          conv => whnf
          refine ⟨fun s1 => ?_, fun s1 => ?_⟩
          · have s1 : (v.s a.f1 == 1) = true := s1
            conv => whnf
            refine ⟨fun e4 => ?_, fun e4 => ?_⟩
            · have e4 : (a.f2 == 4) = true := e4
              conv => whnf
              refine ⟨⟨⟨Int.natCast_nonneg _, rfl⟩, by show m.length * 8 ≤ 2 ^ 47; omega⟩, ?_⟩
              conv => whnf
              conv => whnf
              refine ⟨⟨Int.natCast_nonneg _, by omega⟩, ?_⟩
              conv => whnf
              conv => whnf
              refine ⟨_, hz, ?_⟩
              conv => whnf
              conv => whnf
              refine ⟨_, _, h132, ?_⟩
              conv => whnf
              conv => whnf
              refine ⟨_, _, h83, ?_⟩
              conv => whnf
              conv => whnf
              exact .of rfl
            · have e4 : (a.f2 == 4) = false := e4
              conv => whnf
              refine ⟨(by rw [List.length_map, Nat.zero_add]), ?_⟩
              conv => whnf
              conv => whnf
              refine ⟨(by rw [List.length_map, Nat.zero_add]), ?_⟩
              conv => whnf
              conv => whnf
              refine ⟨(by rw [List.length_map, Nat.zero_add]), ?_⟩
              conv => whnf
              conv => whnf
              refine ⟨(by rw [List.length_map, Nat.zero_add]), ?_⟩
              conv => whnf
              conv => whnf
              refine ⟨_, h133, ?_⟩
              conv => whnf
              conv => whnf
              refine ⟨fun th => ?_, fun th => ?_⟩
              · have th : (thereB v a.f1) = true := th
                conv => whnf
                refine ⟨fun e5 => ?_, fun e5 => ?_⟩
                · have e5 : (a.f2 == 5) = false := by simpa using e5
                  exact absurd hok (by rw [show ((x.f1 == 2 && (v.s a.f1 == 2 && a.f2 == 3)) || ((x.f1 == 4 && (v.s a.f1 == 1 && a.f2 == 4)) || (thereB v a.f1 && a.f2 == 5))) = false from by simp only [k2, k4, s1, e4, th, e5, Bool.true_and, Bool.false_and, Bool.and_true, Bool.and_false, Bool.or_true, Bool.true_or, Bool.false_or, Bool.or_false, Bool.not_true, Bool.not_false, cond_true, cond_false]]; decide)
                · have e5 : (a.f2 == 5) = true := by simpa using e5
                  conv => whnf
                  refine ⟨⟨⟨Int.natCast_nonneg _, rfl⟩, by show m.length * 8 ≤ 2 ^ 47; omega⟩, ?_⟩
                  conv => whnf
                  conv => whnf
                  refine ⟨⟨Int.natCast_nonneg _, by omega⟩, ?_⟩
                  conv => whnf
                  conv => whnf
                  refine ⟨_, hz, ?_⟩
                  conv => whnf
                  conv => whnf
                  refine ⟨_, _, h132, ?_⟩
                  conv => whnf
                  conv => whnf
                  refine ⟨_, _, h83, ?_⟩
                  conv => whnf
                  conv => whnf
                  exact .of rfl
              · have th : (thereB v a.f1) = false := th
                exact absurd hok (by rw [show ((x.f1 == 2 && (v.s a.f1 == 2 && a.f2 == 3)) || ((x.f1 == 4 && (v.s a.f1 == 1 && a.f2 == 4)) || (thereB v a.f1 && a.f2 == 5))) = false from by simp only [k2, k4, s1, e4, th, Bool.true_and, Bool.false_and, Bool.and_true, Bool.and_false, Bool.or_true, Bool.true_or, Bool.false_or, Bool.or_false, Bool.not_true, Bool.not_false, cond_true, cond_false]]; decide)
          · have s1 : (v.s a.f1 == 1) = false := s1
            conv => whnf
            refine ⟨(by rw [List.length_map, Nat.zero_add]), ?_⟩
            conv => whnf
            conv => whnf
            refine ⟨(by rw [List.length_map, Nat.zero_add]), ?_⟩
            conv => whnf
            conv => whnf
            refine ⟨(by rw [List.length_map, Nat.zero_add]), ?_⟩
            conv => whnf
            conv => whnf
            refine ⟨(by rw [List.length_map, Nat.zero_add]), ?_⟩
            conv => whnf
            conv => whnf
            refine ⟨_, h133, ?_⟩
            conv => whnf
            conv => whnf
            refine ⟨fun th => ?_, fun th => ?_⟩
            · have th : (thereB v a.f1) = true := th
              conv => whnf
              refine ⟨fun e5 => ?_, fun e5 => ?_⟩
              · have e5 : (a.f2 == 5) = false := by simpa using e5
                exact absurd hok (by rw [show ((x.f1 == 2 && (v.s a.f1 == 2 && a.f2 == 3)) || ((x.f1 == 4 && (v.s a.f1 == 1 && a.f2 == 4)) || (thereB v a.f1 && a.f2 == 5))) = false from by simp only [k2, k4, s1, th, e5, Bool.true_and, Bool.false_and, Bool.and_true, Bool.and_false, Bool.or_true, Bool.true_or, Bool.false_or, Bool.or_false, Bool.not_true, Bool.not_false, cond_true, cond_false]]; decide)
              · have e5 : (a.f2 == 5) = true := by simpa using e5
                conv => whnf
                refine ⟨⟨⟨Int.natCast_nonneg _, rfl⟩, by show m.length * 8 ≤ 2 ^ 47; omega⟩, ?_⟩
                conv => whnf
                conv => whnf
                refine ⟨⟨Int.natCast_nonneg _, by omega⟩, ?_⟩
                conv => whnf
                conv => whnf
                refine ⟨_, hz, ?_⟩
                conv => whnf
                conv => whnf
                refine ⟨_, _, h132, ?_⟩
                conv => whnf
                conv => whnf
                refine ⟨_, _, h83, ?_⟩
                conv => whnf
                conv => whnf
                exact .of rfl
            · have th : (thereB v a.f1) = false := th
              exact absurd hok (by rw [show ((x.f1 == 2 && (v.s a.f1 == 2 && a.f2 == 3)) || ((x.f1 == 4 && (v.s a.f1 == 1 && a.f2 == 4)) || (thereB v a.f1 && a.f2 == 5))) = false from by simp only [k2, k4, s1, th, Bool.true_and, Bool.false_and, Bool.and_true, Bool.and_false, Bool.or_true, Bool.true_or, Bool.false_or, Bool.or_false, Bool.not_true, Bool.not_false, cond_true, cond_false]]; decide)
        · have k4 : (x.f1 == 4) = false := k4
          conv => whnf
          refine ⟨(by rw [List.length_map, Nat.zero_add]), ?_⟩
          conv => whnf
          conv => whnf
          refine ⟨(by rw [List.length_map, Nat.zero_add]), ?_⟩
          conv => whnf
          conv => whnf
          refine ⟨(by rw [List.length_map, Nat.zero_add]), ?_⟩
          conv => whnf
          conv => whnf
          refine ⟨(by rw [List.length_map, Nat.zero_add]), ?_⟩
          conv => whnf
          conv => whnf
          refine ⟨_, h133, ?_⟩
          conv => whnf
          conv => whnf
          refine ⟨fun th => ?_, fun th => ?_⟩
          · have th : (thereB v a.f1) = true := th
            conv => whnf
            refine ⟨fun e5 => ?_, fun e5 => ?_⟩
            · have e5 : (a.f2 == 5) = false := by simpa using e5
              exact absurd hok (by rw [show ((x.f1 == 2 && (v.s a.f1 == 2 && a.f2 == 3)) || ((x.f1 == 4 && (v.s a.f1 == 1 && a.f2 == 4)) || (thereB v a.f1 && a.f2 == 5))) = false from by simp only [k2, k4, th, e5, Bool.true_and, Bool.false_and, Bool.and_true, Bool.and_false, Bool.or_true, Bool.true_or, Bool.false_or, Bool.or_false, Bool.not_true, Bool.not_false, cond_true, cond_false]]; decide)
            · have e5 : (a.f2 == 5) = true := by simpa using e5
              conv => whnf
              refine ⟨⟨⟨Int.natCast_nonneg _, rfl⟩, by show m.length * 8 ≤ 2 ^ 47; omega⟩, ?_⟩
              conv => whnf
              conv => whnf
              refine ⟨⟨Int.natCast_nonneg _, by omega⟩, ?_⟩
              conv => whnf
              conv => whnf
              refine ⟨_, hz, ?_⟩
              conv => whnf
              conv => whnf
              refine ⟨_, _, h132, ?_⟩
              conv => whnf
              conv => whnf
              refine ⟨_, _, h83, ?_⟩
              conv => whnf
              conv => whnf
              exact .of rfl
          · have th : (thereB v a.f1) = false := th
            exact absurd hok (by rw [show ((x.f1 == 2 && (v.s a.f1 == 2 && a.f2 == 3)) || ((x.f1 == 4 && (v.s a.f1 == 1 && a.f2 == 4)) || (thereB v a.f1 && a.f2 == 5))) = false from by simp only [k2, k4, th, Bool.true_and, Bool.false_and, Bool.and_true, Bool.and_false, Bool.or_true, Bool.true_or, Bool.false_or, Bool.or_false, Bool.not_true, Bool.not_false, cond_true, cond_false]]; decide)
end Go.Ab
namespace Go.Ab
open Go.Proofs Sn
set_option maxRecDepth 100000
set_option linter.unnecessarySimpa false
set_option linter.unusedSimpArgs false
set_option linter.unusedVariables false
set_option maxHeartbeats 40000000
theorem c86 {f : List ByteArray} {m : List S47} {r : S47} (hM : MdOk f m r) (v : Vw) : ACall cx.P 86 [.bptr 32 0] (csS f m v 32) (.tup []) (csT f m (tickV v m) 32) := acallB byR Tryz.f86 (by kernel_rfl) (by kernel_rfl) rfl <| by
  have hml := hM.hm
  have hEm : (m.map enc47).length = m.length := List.length_map _
  have h132 := c132 hM (tick1 v) (tickD (tick1 v) m) fun y _ => cl_5 (tick1 v) m (fun id => by
    unfold tickD
    cases ((getI m id).f1 == 5 && ((tick1 v).s id == 1 && decide (wr ((tick1 v).T - (tick1 v).e id) ≥ (getI m id).f4))) with
    | true => exact ⟨by show (0 : Int) ≤ 4; decide, by show (4 : Int) ≤ 5; decide⟩
    | false => exact ⟨by show (0 : Int) ≤ 0; decide, by show (0 : Int) ≤ 5; decide⟩) 16 y.f0
  unfold tickV
  refine Exists.elim (rnd_is hM.hn (doV (tick1 v) m (tickD (tick1 v) m))) fun k hR => ?_
  have h83 := c83 hM hR
  unfold csS csT csC at h132
  unfold csS csT csC at h83
  unfold csS csT csC
  conv => whnf
  refine ⟨⟨⟨Int.natCast_nonneg _, rfl⟩, by show m.length * 8 ≤ 2 ^ 47; omega⟩, ?_⟩
  conv => whnf
  conv => whnf
  refine .inr (.inl ⟨[0, 2, 3], Nat, fun i => ([(0, .bptr 32 0), (2, .own 1 144 0 m.length .full), (3, .int .i64 i)], [(144, .live (.arr 1 (mix (fun _ => [.int .i64 0]) (iC (tickD (tick1 v) m)) m i))), (32, .live (.box (csC f m (tick1 v) 32))), (35, .live (.arr 1 (m.map (iC v.s)))), (36, .live (.arr 6 (m.map (hC v)))), (37, .live (.arr 1 (f.map (fC v.F)))), (39, .live (.arr 1 (m.map (iC v.e))))]), fun i => i ≤ m.length, fun i => m.length - i, ?_, ?_⟩)
  · conv => whnf
    refine ⟨0, ?_, Nat.zero_le _⟩
    dsimp only
    rw [mix_zero, List.map_const']
    exact .of rfl
  intro i hi
  have hi : i ≤ m.length := hi
  dsimp only
  unfold csC
  conv => whnf
  refine ⟨fun w1 => ?_, fun w1 => ?_⟩
  · have w1 : i < m.length := lti w1
    refine Exists.elim (at_ex w1) fun x hx => ?_
    have hg : getI m x.f0 = x := getI_is hM.hn (List.mem_of_getElem? hx) rfl
    conv => whnf
    refine ⟨⟨Int.natCast_nonneg _, by omega⟩, ?_⟩
    conv => whnf
    conv => whnf
    refine ⟨_, map_at hx, ?_⟩
    conv => whnf
    conv => whnf
    refine ⟨fun k5 => ?_, fun k5 => ?_⟩
    · have k5 : (x.f1 == 5) = true := k5
      conv => whnf
      refine ⟨⟨Int.natCast_nonneg _, by omega⟩, ?_⟩
      conv => whnf
      conv => whnf
      refine ⟨_, map_at0 hx, ?_⟩
      conv => whnf
      conv => whnf
      refine ⟨fun s1 => ?_, fun s1 => ?_⟩
      · have s1 : (v.s x.f0 == 1) = true := s1
        conv => whnf
        refine ⟨⟨Int.natCast_nonneg _, by omega⟩, ?_⟩
        conv => whnf
        conv => whnf
        refine ⟨_, map_at0 hx, ?_⟩
        conv => whnf
        conv => whnf
        refine ⟨⟨Int.natCast_nonneg _, by omega⟩, ?_⟩
        conv => whnf
        conv => whnf
        refine ⟨_, map_at hx, ?_⟩
        conv => whnf
        conv => whnf
        refine ⟨by kernel_rfl, ?_⟩
        conv => whnf
        conv => whnf
        refine ⟨fun t4 => ?_, fun t4 => ?_⟩
        · have t4 : decide (wr (wr (v.T + 1) - v.e x.f0) ≥ x.f4) = true := t4
          conv => whnf
          refine ⟨⟨Int.natCast_nonneg _, by omega⟩, ?_⟩
          conv => whnf
          conv => whnf
          refine ⟨_, mix_ge0 (Nat.le_refl i) hx, ?_⟩
          conv => whnf
          conv => whnf
          refine ⟨i + 1, ?_, w1, by show m.length - (i + 1) < m.length - i; omega⟩
          dsimp only
          rw [up1 w1 (by omega)]
          exact .le (.refl _) (.cons _ _ _ _ _ (.rows (mix_le hx (.one (.int (by show _ = (bif (getI m x.f0).f1 == 5 && (v.s x.f0 == 1 && decide (wr (wr (v.T + 1) - v.e x.f0) ≥ (getI m x.f0).f4)) then 4 else 0); rw [hg]; simp only [k5, s1, t4, Bool.true_and, Bool.false_and, Bool.and_true, Bool.and_false, Bool.or_true, Bool.true_or, Bool.false_or, Bool.or_false, Bool.not_true, Bool.not_false, cond_true, cond_false]))))) <| .refl _)
        · have t4 : decide (wr (wr (v.T + 1) - v.e x.f0) ≥ x.f4) = false := t4
          conv => whnf
          refine ⟨i + 1, ?_, w1, by show m.length - (i + 1) < m.length - i; omega⟩
          dsimp only
          rw [up1 w1 (by omega)]
          exact .le (.refl _) (.cons _ _ _ _ _ (.rows (.of (mix_skip hx (show iC (tickD (tick1 v) m) x = [.int .i64 0] from congrArg (fun n => [AV.int .i64 n]) (Eq.symm (by show _ = (bif (getI m x.f0).f1 == 5 && (v.s x.f0 == 1 && decide (wr (wr (v.T + 1) - v.e x.f0) ≥ (getI m x.f0).f4)) then 4 else 0); rw [hg]; simp only [k5, s1, t4, Bool.true_and, Bool.false_and, Bool.and_true, Bool.and_false, Bool.or_true, Bool.true_or, Bool.false_or, Bool.or_false, Bool.not_true, Bool.not_false, cond_true, cond_false])))).symm)) <| .refl _)
      · have s1 : (v.s x.f0 == 1) = false := s1
        conv => whnf
        refine ⟨by kernel_rfl, ?_⟩
        conv => whnf
        conv => whnf
        refine ⟨i + 1, ?_, w1, by show m.length - (i + 1) < m.length - i; omega⟩
        dsimp only
        rw [up1 w1 (by omega)]
        exact .le (.refl _) (.cons _ _ _ _ _ (.rows (.of (mix_skip hx (show iC (tickD (tick1 v) m) x = [.int .i64 0] from congrArg (fun n => [AV.int .i64 n]) (Eq.symm (by show _ = (bif (getI m x.f0).f1 == 5 && (v.s x.f0 == 1 && decide (wr (wr (v.T + 1) - v.e x.f0) ≥ (getI m x.f0).f4)) then 4 else 0); rw [hg]; simp only [k5, s1, Bool.true_and, Bool.false_and, Bool.and_true, Bool.and_false, Bool.or_true, Bool.true_or, Bool.false_or, Bool.or_false, Bool.not_true, Bool.not_false, cond_true, cond_false])))).symm)) <| .refl _)
    · have k5 : (x.f1 == 5) = false := k5
      conv => whnf
      refine ⟨by kernel_rfl, ?_⟩
      conv => whnf
      conv => whnf
      refine ⟨i + 1, ?_, w1, by show m.length - (i + 1) < m.length - i; omega⟩
      dsimp only
      rw [up1 w1 (by omega)]
      exact .le (.refl _) (.cons _ _ _ _ _ (.rows (.of (mix_skip hx (show iC (tickD (tick1 v) m) x = [.int .i64 0] from congrArg (fun n => [AV.int .i64 n]) (Eq.symm (by show _ = (bif (getI m x.f0).f1 == 5 && (v.s x.f0 == 1 && decide (wr (wr (v.T + 1) - v.e x.f0) ≥ (getI m x.f0).f4)) then 4 else 0); rw [hg]; simp only [k5, Bool.true_and, Bool.false_and, Bool.and_true, Bool.and_false, Bool.or_true, Bool.true_or, Bool.false_or, Bool.or_false, Bool.not_true, Bool.not_false, cond_true, cond_false])))).symm)) <| .refl _)
  · have hjN : i = m.length := by have := nlti w1; omega
    have hEq : mix (fun _ => [AV.int .i64 0]) (iC (tickD (tick1 v) m)) m i = m.map (iC (tickD (tick1 v) m)) := by rw [hjN, mix_all]
    rw [← hEq] at h132
    conv => whnf
    refine ⟨_, _, h132, ?_⟩
    conv => whnf
    conv => whnf
    refine ⟨_, _, h83, ?_⟩
    conv => whnf
    conv => whnf
    exact .of rfl
end Go.Ab
namespace Go.Ab
open Go.Proofs Sn
set_option maxRecDepth 100000
set_option linter.unnecessarySimpa false
set_option linter.unusedSimpArgs false
set_option linter.unusedVariables false
set_option maxHeartbeats 40000000
theorem set_mapF {f : List ByteArray} (hn : f.Nodup) (g : ByteArray → Int) (n : Int) {j : Nat} {s : ByteArray} (hx : f[j]? = some s) : (f.map (fC g)).set (0 + ((j : Int)).toNat) [.int .i64 n] = f.map (fC (fun id => bif sEq id s then n else g id)) := by
  have hj := (List.getElem?_eq_some_iff.1 hx).1
  rw [Nat.zero_add, Int.toNat_natCast]
  refine List.ext_getElem? fun k => ?_
  rw [List.getElem?_set, List.length_map]
  by_cases hk : j = k
  · subst hk
    rw [if_pos rfl, if_pos hj, map_at hx]
    show some [AV.int .i64 n] = some [AV.int .i64 (bif sEq s s then n else g s)]
    rw [sEq_self]
    rfl
  · rw [if_neg hk, List.getElem?_map, List.getElem?_map]
    cases hy : f[k]? with
    | none => rfl
    | some y =>
      show some [AV.int .i64 (g y)] = some [AV.int .i64 (bif sEq y s then n else g y)]
      rw [sEq_ne fun e => hk ?_]
      · rfl
      · exact (List.getElem?_inj hj hn).1 (by rw [hx, hy, e])
theorem c40 {f : List ByteArray} {m : List S47} {r : S47} (hM : MdOk f m r) (v : Vw) (a : S43) : ACall cx.P 40 [.bptr 32 0, .agg (enc43 a)] (csS f m v 32) (.int .i64 (actV v f m r.f0 a).2) (csT f m (actV v f m r.f0 a).1 32) := acallB byR Tryz.f40 (by kernel_rfl) (by kernel_rfl) rfl <| by
  have hml := hM.hm
  have hfl := hM.hf
  have h0l := (List.getElem?_eq_some_iff.1 hM.root).1
  have hS0 : (m.map (iC v.s))[0 + (0 : Int).toNat]? = some [.int .i64 (v.s r.f0)] := map_at hM.root
  have hU : ∀ u, actV v f m r.f0 a = u → ACall cx.P 40 [.bptr 32 0, .agg (enc43 a)] (csS f m v 32) (.int .i64 u.2) (csT f m u.1 32) → True := fun _ _ _ => trivial
  clear hU
  by_cases hk : a.f0 < 1 ∨ 3 < a.f0
  · have hU : actV v f m r.f0 a = (v, 1) := if_pos hk
    rw [hU]
    unfold csS csT csC enc43
    conv => whnf
    refine ⟨fun w1 => ?_, fun w1 => ?_⟩
    · conv => whnf
      exact .of rfl
    have w1 := of_decide_eq_false w1
    conv => whnf
    refine ⟨fun w2 => ?_, fun w2 => ?_⟩
    · conv => whnf
      exact .of rfl
    have w2 := of_decide_eq_false w2
    omega
  by_cases hs : v.s r.f0 = 3 ∨ v.s r.f0 = 4
  · have hU : actV v f m r.f0 a = (v, 9) := (if_neg hk).trans (if_pos hs)
    rw [hU]
    unfold csS csT csC enc43
    conv => whnf
    refine ⟨fun w1 => ?_, fun w1 => ?_⟩
    · have w1 := of_decide_eq_true w1
      omega
    conv => whnf
    refine ⟨fun w2 => ?_, fun w2 => ?_⟩
    · have w2 := of_decide_eq_true w2
      omega
    conv => whnf
    refine ⟨⟨by decide, by omega⟩, ?_⟩
    conv => whnf
    conv => whnf
    refine ⟨_, hS0, ?_⟩
    conv => whnf
    conv => whnf
    refine ⟨fun w3 => ?_, fun w3 => ?_⟩
    · conv => whnf
      exact .of rfl
    conv => whnf
    refine ⟨⟨by decide, by omega⟩, ?_⟩
    conv => whnf
    conv => whnf
    refine ⟨_, hS0, ?_⟩
    conv => whnf
    conv => whnf
    refine ⟨fun w4 => ?_, fun w4 => ?_⟩
    · conv => whnf
      exact .of rfl
    have w3 : v.s r.f0 ≠ 3 := by simpa using w3
    have w4 : v.s r.f0 ≠ 4 := by simpa using w4
    omega
  have hU0 : actV v f m r.f0 a = if a.f0 = 1 then userV v m a else if a.f0 = 2 then (if hasS f a.f3 = true ∧ -1000000 ≤ a.f4 ∧ a.f4 ≤ 1000000 then (rnd m (wrV v a), 0) else (v, 1)) else (tickV v m, 0) := (if_neg hk).trans (if_neg hs)
  by_cases h1 : a.f0 = 1
  · rw [hU0, if_pos h1]
    have h84 := c84 hM v a
    unfold csS csT csC enc43 at h84
    unfold csS csT csC enc43
    conv => whnf
    refine ⟨fun w1 => ?_, fun w1 => ?_⟩
    · have w1 := of_decide_eq_true w1
      omega
    conv => whnf
    refine ⟨fun w2 => ?_, fun w2 => ?_⟩
    · have w2 := of_decide_eq_true w2
      omega
    conv => whnf
    refine ⟨⟨by decide, by omega⟩, ?_⟩
    conv => whnf
    conv => whnf
    refine ⟨_, hS0, ?_⟩
    conv => whnf
    conv => whnf
    refine ⟨fun w3 => ?_, fun w3 => ?_⟩
    · have w3 : v.s r.f0 = 3 := eq_of_beq w3
      omega
    conv => whnf
    refine ⟨⟨by decide, by omega⟩, ?_⟩
    conv => whnf
    conv => whnf
    refine ⟨_, hS0, ?_⟩
    conv => whnf
    conv => whnf
    refine ⟨fun w4 => ?_, fun w4 => ?_⟩
    · have w4 : v.s r.f0 = 4 := eq_of_beq w4
      omega
    conv => whnf
    refine ⟨fun w5 => ?_, fun w5 => ?_⟩
    rotate_left
    · exact absurd h1 (by simpa using w5)
    conv => whnf
    refine ⟨_, _, h84, ?_⟩
    conv => whnf
    conv => whnf
    exact .of rfl
  by_cases h2 : a.f0 = 2
  · rw [hU0, if_neg h1, if_pos h2]
    obtain ⟨p, h85, hp⟩ := c85 f m v a.f3 hfl
    unfold caR at h85
    by_cases hw : hasS f a.f3 = true ∧ -1000000 ≤ a.f4 ∧ a.f4 ≤ 1000000
    · rw [if_pos hw]
      obtain ⟨hw1, hw2, hw3⟩ := hw
      have hp' : ∃ j : Nat, p = j ∧ f[j]? = some a.f3 := by
        rcases hp with ⟨h, _⟩ | h
        · rw [hw1] at h; cases h
        · exact h
      obtain ⟨j, hpj, hj⟩ := hp'
      have hjl := (List.getElem?_eq_some_iff.1 hj).1
      rw [hpj] at h85
      refine Exists.elim (rnd_is hM.hn (wrV v a)) fun k hR => ?_
      have h83 := c83 hM hR
      have hrow : f.map (fC (wrV v a).F) = (f.map (fC v.F)).set (0 + ((j : Int)).toNat) [.int .i64 a.f4] := (set_mapF hM.fn v.F a.f4 hj).symm
      unfold csS csT csC at h83
      rw [hrow] at h83
      unfold csS csT csC enc43
      conv => whnf
      refine ⟨fun w1 => ?_, fun w1 => ?_⟩
      · have w1 := of_decide_eq_true w1
        omega
      conv => whnf
      refine ⟨fun w2 => ?_, fun w2 => ?_⟩
      · have w2 := of_decide_eq_true w2
        omega
      conv => whnf
      refine ⟨⟨by decide, by omega⟩, ?_⟩
      conv => whnf
      conv => whnf
      refine ⟨_, hS0, ?_⟩
      conv => whnf
      conv => whnf
      refine ⟨fun w3 => ?_, fun w3 => ?_⟩
      · have w3 : v.s r.f0 = 3 := eq_of_beq w3
        omega
      conv => whnf
      refine ⟨⟨by decide, by omega⟩, ?_⟩
      conv => whnf
      conv => whnf
      refine ⟨_, hS0, ?_⟩
      conv => whnf
      conv => whnf
      refine ⟨fun w4 => ?_, fun w4 => ?_⟩
      · have w4 : v.s r.f0 = 4 := eq_of_beq w4
        omega
      conv => whnf
      refine ⟨fun w5 => ?_, fun w5 => ?_⟩
      · exact absurd (eq_of_beq w5) h1
      conv => whnf
      refine ⟨fun w6 => ?_, fun w6 => ?_⟩
      rotate_left
      · exact absurd h2 (by simpa using w6)
      conv => whnf
      refine ⟨(by rw [List.length_map, Nat.zero_add]), ?_⟩
      conv => whnf
      conv => whnf
      refine ⟨(by rw [List.length_map, Nat.zero_add]), ?_⟩
      conv => whnf
      conv => whnf
      refine ⟨(by rw [List.length_map, Nat.zero_add]), ?_⟩
      conv => whnf
      conv => whnf
      refine ⟨(by rw [List.length_map, Nat.zero_add]), ?_⟩
      conv => whnf
      conv => whnf
      refine ⟨_, h85, ?_⟩
      conv => whnf
      conv => whnf
      refine ⟨fun w7 => ?_, fun w7 => ?_⟩
      · have := of_decide_eq_true w7
        omega
      conv => whnf
      refine ⟨fun w8 => ?_, fun w8 => ?_⟩
      · have := of_decide_eq_true w8
        omega
      conv => whnf
      refine ⟨fun w9 => ?_, fun w9 => ?_⟩
      · have := of_decide_eq_true w9
        omega
      conv => whnf
      refine ⟨⟨Int.natCast_nonneg _, by omega⟩, ?_⟩
      conv => whnf
      conv => whnf
      refine ⟨_, map_at0 hj, ?_⟩
      conv => whnf
      conv => whnf
      refine ⟨by kernel_rfl, ?_⟩
      conv => whnf
      conv => whnf
      refine ⟨_, _, h83, ?_⟩
      conv => whnf
      conv => whnf
      exact .of rfl
    · rw [if_neg hw]
      have hno : p < 0 ∨ a.f4 < -1000000 ∨ 1000000 < a.f4 := by
        rcases hp with ⟨_, h⟩ | ⟨j, h, hj⟩
        · exact .inl (by omega)
        · have := hasS_iff.2 (List.mem_of_getElem? hj)
          refine .inr ?_
          by_cases h3 : a.f4 < -1000000
          · exact .inl h3
          · exact .inr (by
              by_cases h4 : 1000000 < a.f4
              · exact h4
              · exact absurd ⟨this, by omega, by omega⟩ hw)
      clear hp
      unfold csS csT csC enc43
      conv => whnf
      refine ⟨fun w1 => ?_, fun w1 => ?_⟩
      · have w1 := of_decide_eq_true w1
        omega
      conv => whnf
      refine ⟨fun w2 => ?_, fun w2 => ?_⟩
      · have w2 := of_decide_eq_true w2
        omega
      conv => whnf
      refine ⟨⟨by decide, by omega⟩, ?_⟩
      conv => whnf
      conv => whnf
      refine ⟨_, hS0, ?_⟩
      conv => whnf
      conv => whnf
      refine ⟨fun w3 => ?_, fun w3 => ?_⟩
      · have w3 : v.s r.f0 = 3 := eq_of_beq w3
        omega
      conv => whnf
      refine ⟨⟨by decide, by omega⟩, ?_⟩
      conv => whnf
      conv => whnf
      refine ⟨_, hS0, ?_⟩
      conv => whnf
      conv => whnf
      refine ⟨fun w4 => ?_, fun w4 => ?_⟩
      · have w4 : v.s r.f0 = 4 := eq_of_beq w4
        omega
      conv => whnf
      refine ⟨fun w5 => ?_, fun w5 => ?_⟩
      · exact absurd (eq_of_beq w5) h1
      conv => whnf
      refine ⟨fun w6 => ?_, fun w6 => ?_⟩
      rotate_left
      · exact absurd h2 (by simpa using w6)
      conv => whnf
      refine ⟨(by rw [List.length_map, Nat.zero_add]), ?_⟩
      conv => whnf
      conv => whnf
      refine ⟨(by rw [List.length_map, Nat.zero_add]), ?_⟩
      conv => whnf
      conv => whnf
      refine ⟨(by rw [List.length_map, Nat.zero_add]), ?_⟩
      conv => whnf
      conv => whnf
      refine ⟨(by rw [List.length_map, Nat.zero_add]), ?_⟩
      conv => whnf
      conv => whnf
      refine ⟨_, h85, ?_⟩
      conv => whnf
      conv => whnf
      refine ⟨fun w7 => ?_, fun w7 => ?_⟩
      · conv => whnf
        exact .of rfl
      have w7 := of_decide_eq_false w7
      conv => whnf
      refine ⟨fun w8 => ?_, fun w8 => ?_⟩
      · conv => whnf
        exact .of rfl
      have w8 := of_decide_eq_false w8
      conv => whnf
      refine ⟨fun w9 => ?_, fun w9 => ?_⟩
      · conv => whnf
        exact .of rfl
      have w9 := of_decide_eq_false w9
      omega
  · rw [hU0, if_neg h1, if_neg h2]
    have h86 := c86 hM v
    unfold csS csT csC at h86
    unfold csS csT csC enc43
    conv => whnf
    refine ⟨fun w1 => ?_, fun w1 => ?_⟩
    · have w1 := of_decide_eq_true w1
      omega
    conv => whnf
    refine ⟨fun w2 => ?_, fun w2 => ?_⟩
    · have w2 := of_decide_eq_true w2
      omega
    conv => whnf
    refine ⟨⟨by decide, by omega⟩, ?_⟩
    conv => whnf
    conv => whnf
    refine ⟨_, hS0, ?_⟩
    conv => whnf
    conv => whnf
    refine ⟨fun w3 => ?_, fun w3 => ?_⟩
    · have w3 : v.s r.f0 = 3 := eq_of_beq w3
      omega
    conv => whnf
    refine ⟨⟨by decide, by omega⟩, ?_⟩
    conv => whnf
    conv => whnf
    refine ⟨_, hS0, ?_⟩
    conv => whnf
    conv => whnf
    refine ⟨fun w4 => ?_, fun w4 => ?_⟩
    · have w4 : v.s r.f0 = 4 := eq_of_beq w4
      omega
    conv => whnf
    refine ⟨fun w5 => ?_, fun w5 => ?_⟩
    · exact absurd (eq_of_beq w5) h1
    conv => whnf
    refine ⟨fun w6 => ?_, fun w6 => ?_⟩
    · exact absurd (eq_of_beq w6) h2
    conv => whnf
    refine ⟨_, _, h86, ?_⟩
    conv => whnf
    conv => whnf
    exact .of rfl
end Go.Ab
namespace Go.Ab
open Sn
structure Like (m m' : List S47) : Prop where
  hh : ∀ id, hasI m' id = hasI m id
  hg : ∀ id, getI m' id = nIt (getI m id)
  ha : ∀ p : S47 → Bool, (∀ x, p (nIt x) = p x) → m'.any p = m.any p
  hk : ∀ (id : ByteArray) (p : S47 → Bool), (∀ x, p (nIt x) = p x) → (kidsOf S47.f2 m' id).any p = (kidsOf S47.f2 m id).any p
theorem any_perm {α : Type} {l l' : List α} (h : ∀ x, x ∈ l ↔ x ∈ l') (p : α → Bool) : l.any p = l'.any p := by
  rw [Bool.eq_iff_iff, List.any_eq_true, List.any_eq_true]
  exact ⟨fun ⟨x, hx, e⟩ => ⟨x, (h x).1 hx, e⟩, fun ⟨x, hx, e⟩ => ⟨x, (h x).2 hx, e⟩⟩
theorem all_perm {α : Type} {l l' : List α} (h : ∀ x, x ∈ l ↔ x ∈ l') (p : α → Bool) : l.all p = l'.all p := by
  rw [Bool.eq_iff_iff, List.all_eq_true, List.all_eq_true]
  exact ⟨fun e x hx => e x ((h x).2 hx), fun e x hx => e x ((h x).1 hx)⟩
theorem Like.of {m m' : List S47} (hn : (m.map S47.f0).Nodup) (hp : m'.Perm (m.map nIt)) : Like m m' := by
  have hn' : (m'.map S47.f0).Nodup := by
    rw [(hp.map S47.f0).nodup_iff, List.map_map]
    exact hn
  have hm : ∀ y, y ∈ m' ↔ ∃ x ∈ m, nIt x = y := fun y => by rw [hp.mem_iff, List.mem_map]
  have hh : ∀ id, hasI m' id = hasI m id := fun id => by
    rw [Bool.eq_iff_iff, hasI_iff, hasI_iff]
    constructor
    · rintro ⟨y, hy, e⟩
      obtain ⟨x, hx, rfl⟩ := (hm y).1 hy
      exact ⟨x, hx, e⟩
    · rintro ⟨x, hx, e⟩
      exact ⟨nIt x, (hm _).2 ⟨x, hx, rfl⟩, e⟩
  refine ⟨hh, fun id => ?_, fun p h => ?_, fun id p h => ?_⟩
  · cases hi : hasI m id with
    | false => rw [getI_none hi, getI_none ((hh id).trans hi)]; exact (turns_n.root z47 rfl rfl).symm
    | true =>
      obtain ⟨h1, h2⟩ := getI_mem hi
      exact getI_is hn' ((hm _).2 ⟨_, h1, rfl⟩) h2
  · rw [any_perm (fun y => hp.mem_iff) p, List.any_map]
    congr 1
    funext x
    exact h x
  · rw [Bool.eq_iff_iff, List.any_eq_true, List.any_eq_true]
    constructor
    · rintro ⟨y, hy, e⟩
      rw [mem_kidsOf] at hy
      obtain ⟨x, hx, rfl⟩ := (hm y).1 hy.1
      exact ⟨x, mem_kidsOf.2 ⟨hx, hy.2⟩, by rw [← h]; exact e⟩
    · rintro ⟨x, hx, e⟩
      rw [mem_kidsOf] at hx
      exact ⟨nIt x, mem_kidsOf.2 ⟨(hm _).2 ⟨x, hx.1, rfl⟩, hx.2⟩, by rw [h]; exact e⟩
theorem met_n (v : Vw) (s : S29) : metB v (nSe s) = metB v s := by
  unfold metB
  rw [show (nSe s).f0.all (onV v) = s.f0.all (onV v) from all_perm (fun x => (sortL_perm _).mem_iff) _, show (nSe s).f1.all (ifV v) = s.f1.all (ifV v) from all_perm (fun x => mem_sortD isCmp_if) _]
theorem any_n (v : Vw) (l : List S29) : anyB v (nSes l) = anyB v l := by
  unfold anyB
  rw [Bool.eq_iff_iff, List.any_eq_true, List.any_eq_true]
  constructor
  · rintro ⟨s, hs, e⟩
    obtain ⟨t, ht, rfl⟩ := mem_nSes.1 hs
    exact ⟨t, ht, by rw [← met_n]; exact e⟩
  · rintro ⟨t, ht, e⟩
    exact ⟨nSe t, mem_nSes.2 ⟨t, ht, rfl⟩, by rw [met_n]; exact e⟩
theorem early_n (v : Vw) (x : S47) : early v (nIt x) = early v x := by
  have h : decide ((nIt x).f5.length = 0) = decide (x.f5.length = 0) := by
    rw [decide_eq_decide, List.length_eq_zero_iff, List.length_eq_zero_iff]
    exact turns_n.nil x
  unfold early
  rw [h, show anyB v (nIt x).f6 = anyB v x.f6 from any_n v x.f6, show anyB v (nIt x).f5 = anyB v x.f5 from any_n v x.f5]
  rfl
open Classical in
noncomputable def rndOf (P : Vw → Prop) (v : Vw) : Vw := if h : ∃ w, P w then h.choose else v
section
variable {m m' : List S47} (L : Like m m')
include L
theorem Like.early (v : Vw) : earlyD v m' = earlyD v m := by
  funext id
  unfold earlyD
  rw [L.hg, early_n]
theorem Like.does (v : Vw) : doesD v m' = doesD v m := by
  funext id
  unfold doesD
  have h : complB v (earlyD v m') m' (getI m' id) = complB v (earlyD v m) m (getI m id) := by
    rw [L.early, L.hg]
    unfold complB
    rw [show (nIt (getI m id)).f0 = (getI m id).f0 from rfl, L.hk (getI m id).f0 (kidB v (earlyD v m)) fun x => rfl]
    rfl
  rw [h, L.early]
theorem Like.cl (v : Vw) (d : ByteArray → Int) : ∀ k, clD v m' d k = clD v m d k
  | 0 => rfl
  | k + 1 => by
    funext id
    unfold clD
    rw [L.hg, Like.cl v d k]
    rfl
theorem Like.done (d : ByteArray → Int) : doneB m' d = doneB m d := L.ha _ fun _ => rfl
theorem Like.dov (v : Vw) (d : ByteArray → Int) : doV v m' d = doV v m d := by
  unfold doV stV
  rw [L.cl, L.done]
theorem Like.dob (v : Vw) (d : ByteArray → Int) : doB v m' d = doB v m d := by
  unfold doB
  rw [L.cl, L.done]
theorem Like.rds {k : Nat} {v w : Vw} : Rds m' k v w ↔ Rds m k v w := by
  constructor
  · intro h
    induction h with
    | stop h =>
      rw [L.dob, L.does] at h
      rw [L.dov, L.does]
      exact .stop h
    | go h _ ih =>
      rw [L.dob, L.does] at h
      rw [L.dov, L.does] at ih
      exact .go h ih
  · intro h
    induction h with
    | @stop v h =>
      rw [← L.does, ← L.dob] at h
      rw [← L.does, ← L.dov]
      exact .stop h
    | go h _ ih =>
      rw [← L.does, ← L.dob] at h
      rw [← L.does, ← L.dov] at ih
      exact .go h ih
theorem Like.rnd (v : Vw) : rnd m' v = rnd m v := by
  have h : (fun w => ∃ k, Rds m' k v w) = fun w => ∃ k, Rds m k v w := by
    funext w
    exact propext ⟨fun ⟨k, h⟩ => ⟨k, L.rds.1 h⟩, fun ⟨k, h⟩ => ⟨k, L.rds.2 h⟩⟩
  exact congrArg (fun P => rndOf P v) h
theorem Like.user (v : Vw) (a : S43) : userV v m' a = userV v m a := by
  unfold userV okB
  rw [L.hh, L.hg, L.dov, L.rnd]
  rfl
theorem Like.tick (v : Vw) : tickV v m' = tickV v m := by
  have h : tickD (tick1 v) m' = tickD (tick1 v) m := by
    funext id
    unfold tickD
    rw [L.hg]
    rfl
  unfold tickV
  rw [h, L.dov, L.rnd]
theorem Like.act {f f' : List ByteArray} (hf : ∀ s, hasS f' s = hasS f s) (v : Vw) (r : ByteArray) (a : S43) : actV v f' m' r a = actV v f m r a := by
  unfold actV
  rw [L.user, L.tick, L.rnd, hf]
theorem Like.state (v : Vw) (id : ByteArray) : stateV v m' id = stateV v m id := by unfold stateV; rw [L.hh]
end
theorem Ok.like {fs : List ByteArray} {r : S47} {F : List S47} (h : Ok fs r F) : Like (r :: F) (r :: turnT ordID nIt r F) := by
  have hp := h.turn_perm isOrd_ID turns_n
  rw [turns_n.root r h.plan.2.2.2.1 h.plan.2.2.2.2] at hp
  exact .of h.nodup hp
end Go.Ab
namespace Go.Ab
open Go.Proofs Sn
set_option maxRecDepth 100000
set_option linter.unnecessarySimpa false
set_option linter.unusedSimpArgs false
set_option linter.unusedVariables false
set_option maxHeartbeats 40000000
theorem LeXX.map {α : Type} {g h : α → List AV} (hx : ∀ x, LeX (g x) (h x)) : ∀ l : List α, LeXX (l.map g) (l.map h)
  | [] => .nil
  | x :: l => .cons (hx x) (LeXX.map hx l)
theorem had_le (m : List S47) (r : ByteArray) : LeXX (List.replicate m.length [.lit false, .lit false, .lit false, .lit false, .lit false, .lit false]) (m.map (hC (newV r))) := by
  rw [← List.map_const' (l := m)]
  exact .map (fun x => .cons (.lit rfl) <| .cons (.lit rfl) <| .cons (.lit rfl) <| .cons (.lit rfl) <| .cons (.lit rfl) <| .cons (.lit rfl) .nil) m
theorem S_le {m : List S47} {r : S47} (hn : (m.map S47.f0).Nodup) (h : m[0]? = some r) : LeXX ((List.replicate m.length [.int .i64 0]).set 0 [.int .i64 2]) (m.map (iC (newV r.f0).s)) := by
  refine .of ?_
  rw [← List.map_const' (l := m), show (List.map (fun _ : S47 => [AV.int .i64 0]) m) = m.map (iC fun _ => 0) from rfl, set_map hn _ _ h]
  rfl
theorem c39 {fs : List ByteArray} {r : S47} {F : List S47} (h : Ok fs r F) {m : List S47} (hm : m = r :: F) : ACall cx.P 39 [encM fs m] [] (.tup [.bptr 97 0, .int .i64 0]) (csS fs m (rnd m (newV r.f0)) 97) := acallB (1006 :: byR) Tryz.f39 (by kernel_rfl) (by kernel_rfl) rfl <| by
  have hM : MdOk fs m r := hm ▸ MdOk.of h
  have hml := hM.hm
  have hfl := hM.hf
  have h0l := (List.getElem?_eq_some_iff.1 hM.root).1
  have h34 : PCall cx.P 34 [encM fs m] (.lit true) := hm ▸ (c34 fs (r :: F) h.sz).to (.blit (isB_iff.2 ⟨r, F, rfl, h⟩))
  have hEm : (m.map enc47).length = m.length := List.length_map _
  have hEf : (fs.map encT).length = fs.length := List.length_map _
  clear hm h
  refine Exists.elim (rnd_is hM.hn (newV r.f0)) fun k hR => ?_
  have h83 := c83 hM hR
  unfold csS csT csC at h83
  unfold encM at h34 ⊢
  unfold csS csC
  conv => whnf
  refine ⟨_, h34, ?_⟩
  conv => whnf
  refine ⟨⟨⟨Int.natCast_nonneg _, rfl⟩, by show (m.map enc47).length * 8 ≤ 2 ^ 47; omega⟩, ?_⟩
  conv => whnf
  conv => whnf
  refine ⟨⟨⟨Int.natCast_nonneg _, rfl⟩, by show (m.map enc47).length * 6 ≤ 2 ^ 47; omega⟩, ?_⟩
  conv => whnf
  conv => whnf
  refine ⟨⟨⟨Int.natCast_nonneg _, rfl⟩, by show (fs.map encT).length * 8 ≤ 2 ^ 47; omega⟩, ?_⟩
  conv => whnf
  conv => whnf
  refine ⟨⟨⟨Int.natCast_nonneg _, rfl⟩, by show (m.map enc47).length * 8 ≤ 2 ^ 47; omega⟩, ?_⟩
  conv => whnf
  conv => whnf
  refine ⟨by kernel_rfl, ?_⟩
  conv => whnf
  conv => whnf
  refine ⟨⟨by decide, by show (0 : Int) < ((m.map enc47).length : Int); omega⟩, ?_⟩
  conv => whnf
  conv => whnf
  refine ⟨_, (show (List.replicate (m.map enc47).length [AV.int .i64 0])[0 + (0 : Int).toNat]? = some [.int .i64 0] from by rw [List.getElem?_replicate, if_pos (by show 0 < _; omega)]), ?_⟩
  conv => whnf
  conv => whnf
  refine ⟨[5], ([(5, .bptr 336 0)], csS fs m (newV r.f0) 336), ?_, ?_⟩
  · rw [hEm, hEf]
    exact .le (.refl _) (.cons _ _ _ _ _ (.rows (.of (List.map_const' (l := m) (b := [AV.int .i64 0])).symm)) <| .cons _ _ _ _ _ (.rows (.of (List.map_const' (l := fs) (b := [AV.int .i64 0])).symm)) <| .cons _ _ _ _ _ (.rows (had_le m r.f0)) <| .cons _ _ _ _ _ (.rows (S_le hM.hn hM.root)) <| .cons _ _ _ _ _ (.refl _) <| .refl _)
  unfold csS csC
  conv => whnf
  refine ⟨_, _, h83, ?_⟩
  conv => whnf
  conv => whnf
  exact .of rfl
end Go.Ab
