/- Proof texts of one seat, in one file: an evaluator of the program's form, shown sound, and the functions told by it. There are no conditions but those that each theorem names. -/
import Derived.Laws.Strings
import Derived.Test.YtpbembafpnknhaaGreatAb0
import Derived.Test.YtpbembafpnknhaaGreatAb1
set_option linter.unusedVariables false
set_option linter.unusedSimpArgs false
set_option linter.unusedSectionVars false
set_option linter.unnecessarySimpa false
namespace Go.Ab
structure S78 where
  f0 : ByteArray
  f1 : Int
structure S93 where
  f0 : ByteArray
  f1 : ByteArray
  f2 : Int
structure S29 where
  f0 : List S78
  f1 : List S93
structure S47 where
  f0 : ByteArray
  f1 : Int
  f2 : ByteArray
  f3 : Bool
  f4 : Int
  f5 : List S29
  f6 : List S29
def z78 : S78 := ⟨⟨#[]⟩, 0⟩
def z93 : S93 := ⟨⟨#[]⟩, ⟨#[]⟩, 0⟩
def z29 : S29 := ⟨[], []⟩
def z47 : S47 := ⟨⟨#[]⟩, 0, ⟨#[]⟩, false, 0, [], []⟩
def isL (c : Int) : Bool := (decide (97 ≤ c) && decide (c ≤ 122)) || (decide (65 ≤ c) && decide (c ≤ 90)) || decide (c = 95)
def isM (c : Int) : Bool := isL c || (decide (48 ≤ c) && decide (c ≤ 57)) || decide (c = 45) || decide (c = 46)
def rd_T47 (xs : List S47) (i : Int) : S47 := xs.getD i.toNat z47
def bt (s : ByteArray) (i : Int) : Int := if h : i.toNat < s.size then ((s[i.toNat]'h).toNat : Int) else 0
end Go.Ab
open Go
namespace Sn
structure IsCmp {α : Type} (c : α → α → Int) : Prop where
  rng : ∀ a b, c a b = -1 ∨ c a b = 0 ∨ c a b = 1
  anti : ∀ a b, c a b = - c b a
  eq0 : ∀ a b, c a b = 0 ↔ a = b
  tr : ∀ a b d, c a b = -1 → c b d = -1 → c a d = -1
def cmpInt (a b : Int) : Int := if a < b then -1 else if b < a then 1 else 0
def cmpBs (a b : List UInt8) : Int := if a < b then -1 else if b < a then 1 else 0
theorem isCmp_int : IsCmp cmpInt where
  rng a b := by unfold cmpInt; split <;> (try split) <;> simp
  anti a b := by unfold cmpInt; split <;> split <;> (try split) <;> omega
  eq0 a b := by unfold cmpInt; split <;> (try split) <;> omega
  tr a b d := by
    unfold cmpInt
    intro h1 h2
    have h1 : a < b := by split at h1 <;> first | assumption | (split at h1 <;> omega)
    have h2 : b < d := by split at h2 <;> first | assumption | (split at h2 <;> omega)
    rw [if_pos (by omega)]
theorem isCmp_bs : IsCmp cmpBs where
  rng a b := by unfold cmpBs; split <;> (try split) <;> simp
  anti a b := by
    unfold cmpBs
    rcases Std.lt_trichotomy a b with h | h | h
    · rw [if_pos h, if_neg (List.lt_asymm h), if_pos h]
    · subst h; rw [if_neg (List.lt_irrefl _), if_neg (List.lt_irrefl _)]; rfl
    · rw [if_neg (List.lt_asymm h), if_pos h, if_pos h]; rfl
  eq0 a b := by
    unfold cmpBs
    rcases Std.lt_trichotomy a b with h | h | h
    · rw [if_pos h]; exact ⟨fun h2 => by omega, fun h2 => by subst h2; exact absurd h (List.lt_irrefl _)⟩
    · subst h; rw [if_neg (List.lt_irrefl _), if_neg (List.lt_irrefl _)]; simp
    · rw [if_neg (List.lt_asymm h), if_pos h]; exact ⟨fun h2 => by omega, fun h2 => by subst h2; exact absurd h (List.lt_irrefl _)⟩
  tr a b d := by
    unfold cmpBs
    intro h1 h2
    have h1 : a < b := by split at h1 <;> first | assumption | (split at h1 <;> omega)
    have h2 : b < d := by split at h2 <;> first | assumption | (split at h2 <;> omega)
    rw [if_pos (List.lt_trans h1 h2)]
theorem IsCmp.self {α : Type} {c : α → α → Int} (h : IsCmp c) (a : α) : c a a = 0 := (h.eq0 a a).2 rfl
theorem IsCmp.gt {α : Type} {c : α → α → Int} (h : IsCmp c) {a b : α} : c a b = 1 ↔ c b a = -1 := by
  have := h.anti a b; omega
theorem IsCmp.trichotomy {α : Type} {c : α → α → Int} (h : IsCmp c) (a b : α) : c a b = -1 ∨ a = b ∨ c b a = -1 := by
  rcases h.rng a b with h1 | h1 | h1
  · exact .inl h1
  · exact .inr (.inl ((h.eq0 _ _).1 h1))
  · exact .inr (.inr (h.gt.1 h1))
def orC (x y : Int) : Int := if x ≠ 0 then x else y
theorem IsCmp.lex {α β γ : Type} {c : β → β → Int} {d : γ → γ → Int} (hc : IsCmp c) (hd : IsCmp d) (f : α → β) (g : α → γ) (inj : ∀ a b, f a = f b → g a = g b → a = b) : IsCmp (fun a b => orC (c (f a) (f b)) (d (g a) (g b))) where
  rng a b := by
    unfold orC
    split
    · exact hc.rng _ _
    · exact hd.rng _ _
  anti a b := by
    unfold orC
    have h1 := hc.anti (f a) (f b); have h2 := hd.anti (g a) (g b)
    split <;> split <;> omega
  eq0 a b := by
    unfold orC
    constructor
    · intro h
      split at h
      · omega
      · rename_i h1
        have h1 : c (f a) (f b) = 0 := by omega
        exact inj a b ((hc.eq0 _ _).1 h1) ((hd.eq0 _ _).1 h)
    · rintro rfl
      rw [hc.self, hd.self]; rfl
  tr a b e := by
    unfold orC
    intro h1 h2
    by_cases x : c (f a) (f b) = 0 <;> by_cases y : c (f b) (f e) = 0
    · rw [if_neg (by omega)] at h1 h2
      rw [(hc.eq0 _ _).1 x, if_neg (by omega)]
      exact hd.tr _ _ _ h1 h2
    · rw [if_pos y] at h2
      rw [(hc.eq0 _ _).1 x, if_pos y]; exact h2
    · rw [if_pos x] at h1
      rw [← (hc.eq0 _ _).1 y, if_pos x]; exact h1
    · rw [if_pos x] at h1
      rw [if_pos y] at h2
      have := hc.tr _ _ _ h1 h2
      rw [if_pos (by omega)]; exact this
def cmpList {α : Type} (c : α → α → Int) : List α → List α → Int
  | [], [] => 0
  | [], _ :: _ => -1
  | _ :: _, [] => 1
  | a :: r, b :: s => if c a b ≠ 0 then c a b else cmpList c r s
theorem IsCmp.list {α : Type} {c : α → α → Int} (hc : IsCmp c) : IsCmp (cmpList c) where
  rng a := by
    induction a with
    | nil => intro b; cases b <;> simp [cmpList]
    | cons x r ih =>
      intro b
      cases b with
      | nil => simp [cmpList]
      | cons y s => unfold cmpList; split; exact hc.rng _ _; exact ih s
  anti a := by
    induction a with
    | nil => intro b; cases b <;> simp [cmpList]
    | cons x r ih =>
      intro b
      cases b with
      | nil => simp [cmpList]
      | cons y s =>
        unfold cmpList
        have h1 := hc.anti x y; have h2 := ih s
        split <;> split <;> omega
  eq0 a := by
    induction a with
    | nil => intro b; cases b <;> simp [cmpList]
    | cons x r ih =>
      intro b
      cases b with
      | nil => simp [cmpList]
      | cons y s =>
        unfold cmpList
        have h1 := hc.eq0 x y; have h2 := ih s
        constructor
        · intro h
          split at h
          · omega
          · rename_i h3
            rw [h1.1 (by omega), h2.1 h]
        · intro h
          injection h with h3 h4
          subst h3; subst h4
          rw [hc.self, if_neg (by simp)]
          exact h2.2 rfl
  tr a := by
    induction a with
    | nil => intro b d h1 h2; cases b <;> cases d <;> simp_all [cmpList]
    | cons x r ih =>
      intro b d h1 h2
      cases b with
      | nil => simp [cmpList] at h1
      | cons y s =>
        cases d with
        | nil => simp [cmpList] at h2
        | cons z t =>
          unfold cmpList at h1 h2 ⊢
          by_cases p : c x y = 0 <;> by_cases q : c y z = 0
          · rw [if_neg (by omega)] at h1 h2
            rw [(hc.eq0 _ _).1 p, if_neg (by omega)]
            exact ih _ _ h1 h2
          · rw [if_pos q] at h2
            rw [(hc.eq0 _ _).1 p, if_pos q]; exact h2
          · rw [if_pos p] at h1
            rw [← (hc.eq0 _ _).1 q, if_pos p]; exact h1
          · rw [if_pos p] at h1
            rw [if_pos q] at h2
            have := hc.tr _ _ _ h1 h2
            rw [if_pos (by omega)]; exact this
section
variable {α : Type} {c : α → α → Int}
def Rises (c : α → α → Int) (l : List α) : Prop := l.Pairwise fun a b => c a b ≠ 1
def Strict (c : α → α → Int) (l : List α) : Prop := l.Pairwise fun a b => c a b = -1
def ins (c : α → α → Int) (x : α) : List α → List α
  | [] => [x]
  | y :: r => if c y x < 0 then y :: ins c x r else x :: y :: r
def insD (c : α → α → Int) (x : α) : List α → List α
  | [] => [x]
  | y :: r => if c y x < 0 then y :: insD c x r else if c y x = 0 then y :: r else x :: y :: r
def sortL (c : α → α → Int) (l : List α) : List α := l.foldl (fun acc x => ins c x acc) []
def sortD (c : α → α → Int) (l : List α) : List α := l.foldl (fun acc x => insD c x acc) []
theorem ins_perm (x : α) : ∀ l : List α, (ins c x l).Perm (x :: l)
  | [] => .refl _
  | y :: r => by
    unfold ins
    split
    · exact ((ins_perm x r).cons y).trans (List.Perm.swap x y r)
    · exact .refl _
theorem mem_ins {x a : α} {l : List α} : a ∈ ins c x l ↔ a = x ∨ a ∈ l := by
  rw [(ins_perm x l).mem_iff]; simp
theorem ins_rises (h : IsCmp c) (x : α) : ∀ l : List α, Rises c l → Rises c (ins c x l)
  | [], _ => by simp [ins, Rises]
  | y :: r, hl => by
    unfold Rises at hl ⊢
    rw [List.pairwise_cons] at hl
    unfold ins
    split
    · rename_i h1
      rw [List.pairwise_cons]
      refine ⟨fun a ha => ?_, ins_rises h x r hl.2⟩
      rcases mem_ins.1 ha with rfl | ha
      · omega
      · exact hl.1 a ha
    · rename_i h1
      rw [List.pairwise_cons, List.pairwise_cons]
      refine ⟨fun a ha => ?_, hl⟩
      have hx : c x y ≠ 1 := fun hx => h1 (by rw [h.gt.1 hx]; omega)
      rcases List.mem_cons.1 ha with rfl | ha
      · exact hx
      · intro hc1
        have h2 := hl.1 a ha
        have h3 := h.gt.1 hc1
        rcases h.trichotomy x y with h4 | h4 | h4
        · exact h2 (h.gt.2 (h.tr _ _ _ h3 h4))
        · subst h4; exact h2 hc1
        · exact hx (h.gt.2 h4)
theorem foldl_ins_perm (l acc : List α) : (l.foldl (fun acc x => ins c x acc) acc).Perm (l ++ acc) := by
  induction l generalizing acc with
  | nil => exact .refl _
  | cons x r ih =>
    refine (ih _).trans ?_
    exact ((ins_perm x acc).append_left r).trans (List.perm_middle)
theorem sortL_perm (l : List α) : (sortL c l).Perm l := by
  have := foldl_ins_perm (c := c) l []
  rwa [List.append_nil] at this
theorem foldl_ins_rises (h : IsCmp c) (l : List α) : ∀ acc : List α, Rises c acc → Rises c (l.foldl (fun acc x => ins c x acc) acc) := by
  induction l with
  | nil => exact fun _ ha => ha
  | cons x r ih => exact fun acc ha => ih _ (ins_rises h x acc ha)
theorem sortL_rises (h : IsCmp c) (l : List α) : Rises c (sortL c l) := foldl_ins_rises h l [] List.Pairwise.nil
theorem rises_eq (h : IsCmp c) {l1 l2 : List α} (h1 : Rises c l1) (h2 : Rises c l2) (hp : l1.Perm l2) : l1 = l2 :=
  hp.eq_of_pairwise (fun a b _ _ hab hba => by
    rcases h.trichotomy a b with h3 | h3 | h3
    · exact absurd (h.gt.2 h3) hba
    · exact h3
    · exact absurd (h.gt.2 h3) hab) h1 h2
theorem sortL_of_perm (h : IsCmp c) {l1 l2 : List α} (hp : l1.Perm l2) : sortL c l1 = sortL c l2 :=
  rises_eq h (sortL_rises h _) (sortL_rises h _) (((sortL_perm l1).trans hp).trans (sortL_perm l2).symm)
theorem sortL_of_rises (h : IsCmp c) {l : List α} (hl : Rises c l) : sortL c l = l := rises_eq h (sortL_rises h _) hl (sortL_perm l)
theorem mem_insD (h : IsCmp c) {x a : α} : ∀ {l : List α}, a ∈ insD c x l ↔ a = x ∨ a ∈ l
  | [] => by simp [insD]
  | y :: r => by
    unfold insD
    split
    · rw [List.mem_cons, mem_insD h, List.mem_cons]; constructor <;> rintro (h | h | h) <;> simp [h]
    · split
      · rename_i h1
        have := (h.eq0 _ _).1 h1
        subst this
        simp
      · simp
theorem insD_strict (h : IsCmp c) (x : α) : ∀ l : List α, Strict c l → Strict c (insD c x l)
  | [], _ => by simp [insD, Strict]
  | y :: r, hl => by
    unfold Strict at hl ⊢
    have hl' := hl
    rw [List.pairwise_cons] at hl
    unfold insD
    split
    · rename_i h1
      rw [List.pairwise_cons]
      refine ⟨fun a ha => ?_, insD_strict h x r hl.2⟩
      rcases (mem_insD h).1 ha with rfl | ha
      · rcases h.rng y a with h2 | h2 | h2 <;> omega
      · exact hl.1 a ha
    · split
      · exact hl'
      · rename_i h1 h2
        have hx : c x y = -1 := by
          have := h.anti x y
          rcases h.rng y x with h3 | h3 | h3 <;> omega
        rw [List.pairwise_cons]
        refine ⟨fun a ha => ?_, hl'⟩
        rcases List.mem_cons.1 ha with rfl | ha
        · exact hx
        · exact h.tr _ _ _ hx (hl.1 a ha)
theorem foldl_insD_strict (h : IsCmp c) (l : List α) : ∀ acc : List α, Strict c acc → Strict c (l.foldl (fun acc x => insD c x acc) acc) := by
  induction l with
  | nil => exact fun _ ha => ha
  | cons x r ih => exact fun acc ha => ih _ (insD_strict h x acc ha)
theorem sortD_strict (h : IsCmp c) (l : List α) : Strict c (sortD c l) := foldl_insD_strict h l [] List.Pairwise.nil
theorem mem_foldl_insD (h : IsCmp c) {a : α} (l : List α) : ∀ acc : List α, a ∈ l.foldl (fun acc x => insD c x acc) acc ↔ a ∈ l ∨ a ∈ acc := by
  induction l with
  | nil => simp
  | cons x r ih =>
    intro acc
    rw [List.foldl_cons, ih, mem_insD h, List.mem_cons]
    constructor
    · rintro (h | h | h) <;> simp [h]
    · rintro ((h | h) | h) <;> simp [h]
theorem mem_sortD (h : IsCmp c) {a : α} {l : List α} : a ∈ sortD c l ↔ a ∈ l := by
  unfold sortD; rw [mem_foldl_insD h]; simp
theorem Strict.rises {l : List α} (hl : Strict c l) : Rises c l := hl.imp (fun h1 h2 => by omega)
theorem Strict.nodup {l : List α} (h : IsCmp c) (hl : Strict c l) : l.Nodup := hl.imp (fun {a b} h1 h2 => by subst h2; rw [h.self] at h1; omega)
theorem strict_eq (h : IsCmp c) {l1 l2 : List α} (h1 : Strict c l1) (h2 : Strict c l2) (hm : ∀ a, a ∈ l1 ↔ a ∈ l2) : l1 = l2 :=
  rises_eq h h1.rises h2.rises (by
    have := h1.nodup h; have := h2.nodup h
    exact (List.perm_ext_iff_of_nodup ‹l1.Nodup› ‹l2.Nodup›).2 hm)
theorem sortD_of_strict (h : IsCmp c) {l : List α} (hl : Strict c l) : sortD c l = l := strict_eq h (sortD_strict h _) hl (fun _ => mem_sortD h)
end
end Sn
namespace Sn
section
variable {I κ : Type} [DecidableEq κ] (id par : I → κ)
def kidsOf (l : List I) (s : κ) : List I := l.filter fun y => par y = s
def pre (ord : List I → List I) (f : I → I) (l : List I) : Nat → I → List I
  | 0, _ => []
  | k + 1, x => f x :: (ord (kidsOf par l (id x))).flatMap (pre ord f l k)
def Anc (l : List I) (a : I) : I → Nat → Prop
  | y, 0 => y = a
  | y, n + 1 => ∃ p, p ∈ l ∧ id p = par y ∧ Anc l a p n
structure Rooted (l : List I) (r : I) : Prop where
  nodup : (l.map id).Nodup
  mem : r ∈ l
  top : ∀ p ∈ l, id p ≠ par r
variable {id par} {l : List I} {r : I}
omit [DecidableEq κ] in
theorem id_inj (h : (l.map id).Nodup) {a b : I} (ha : a ∈ l) (hb : b ∈ l) (he : id a = id b) : a = b := by
  induction l with
  | nil => cases ha
  | cons x t ih =>
    rw [List.map_cons, List.nodup_cons] at h
    have hm : ∀ z, z ∈ t → id z ≠ id x := fun z hz e => h.1 (e ▸ List.mem_map_of_mem (f := id) hz)
    rcases List.mem_cons.1 ha with h1 | h1 <;> rcases List.mem_cons.1 hb with h2 | h2
    · rw [h1, h2]
    · subst h1; exact absurd he.symm (hm b h2)
    · subst h2; exact absurd he (hm a h1)
    · exact ih h.2 h1 h2
theorem nodup_of_map {α β : Type} {g : α → β} {l : List α} (h : (l.map g).Nodup) : l.Nodup := by
  unfold List.Nodup at h ⊢
  rw [List.pairwise_map] at h
  exact h.imp (fun hne e => hne (by rw [e]))
theorem nodup_flatMap' {α β : Type} {g : α → List β} : ∀ {l : List α}, (∀ a ∈ l, (g a).Nodup) → (l.Pairwise fun a b => ∀ x, x ∈ g a → x ∉ g b) → (l.flatMap g).Nodup
  | [], _, _ => by simp
  | a :: t, h, hp => by
    rw [List.pairwise_cons] at hp
    rw [List.flatMap_cons, List.nodup_append]
    refine ⟨h a List.mem_cons_self, nodup_flatMap' (fun b hb => h b (List.mem_cons_of_mem _ hb)) hp.2, ?_⟩
    rintro x hx y hy rfl
    obtain ⟨b, hb, hy⟩ := List.mem_flatMap.1 hy
    exact hp.1 b hb x hx hy
omit [DecidableEq κ] in
theorem Anc.inj (h : (l.map id).Nodup) {a b : I} : ∀ {n : Nat} {y : I}, Anc id par l a y n → Anc id par l b y n → a = b
  | 0, y, ha, hb => ha.symm.trans hb
  | n + 1, y, ⟨p, hp, e, ha⟩, ⟨q, hq, e2, hb⟩ => by
    have : p = q := id_inj h hp hq (e.trans e2.symm)
    subst this
    exact Anc.inj h ha hb
omit [DecidableEq κ] in
theorem Anc.trans {a b : I} : ∀ {m : Nat} {y : I} {n : Nat}, Anc id par l b y m → Anc id par l a b n → Anc id par l a y (m + n)
  | 0, y, n, h, h2 => by
    have : y = b := h
    subst this
    rw [Nat.zero_add]; exact h2
  | m + 1, y, n, ⟨p, hp, e, h⟩, h2 => by
    rw [Nat.add_right_comm]
    exact ⟨p, hp, e, Anc.trans h h2⟩
omit [DecidableEq κ] in
theorem Rooted.level (h : Rooted id par l r) : ∀ {n m : Nat} {y : I}, Anc id par l r y n → Anc id par l r y m → n = m
  | 0, 0, _, _, _ => rfl
  | 0, m + 1, y, h0, ⟨p, hp, e, _⟩ => by
    have : y = r := h0
    subst this
    exact absurd e (h.top p hp)
  | n + 1, 0, y, ⟨p, hp, e, _⟩, h0 => by
    have : y = r := h0
    subst this
    exact absurd e (h.top p hp)
  | n + 1, m + 1, y, ⟨p, hp, e, h1⟩, ⟨q, hq, e2, h2⟩ => by
    have : p = q := id_inj h.nodup hp hq (e.trans e2.symm)
    subst this
    rw [h.level h1 h2]
theorem mem_kidsOf {s : κ} {y : I} : y ∈ kidsOf par l s ↔ y ∈ l ∧ par y = s := by simp [kidsOf]
def IsOrd (ord : List I → List I) : Prop := ∀ k : List I, (ord k).Perm k
section
variable {ord : List I → List I} (ho : IsOrd ord) {f : I → I}
include ho
theorem mem_ord {k : List I} {y : I} : y ∈ ord k ↔ y ∈ k := (ho k).mem_iff
theorem mem_pre {z : I} : ∀ {k : Nat} {x : I}, x ∈ l → (z ∈ pre id par ord f l k x ↔ ∃ y n, z = f y ∧ y ∈ l ∧ n < k ∧ Anc id par l x y n)
  | 0, x, _ => by simp [pre]
  | k + 1, x, hx => by
    unfold pre
    rw [List.mem_cons, List.mem_flatMap]
    constructor
    · rintro (rfl | ⟨c, hc, hz⟩)
      · exact ⟨x, 0, rfl, hx, by omega, rfl⟩
      · rw [mem_ord ho, mem_kidsOf] at hc
        obtain ⟨y, n, rfl, hy, hn, ha⟩ := (mem_pre hc.1).1 hz
        exact ⟨y, n + 1, rfl, hy, by omega, ha.trans (n := 1) ⟨x, hx, hc.2.symm, rfl⟩⟩
    · rintro ⟨y, n, rfl, hy, hn, ha⟩
      have key : ∀ (n : Nat) (y : I), y ∈ l → Anc id par l x y (n + 1) → ∃ c, c ∈ l ∧ par c = id x ∧ Anc id par l c y n := by
        intro n
        induction n with
        | zero =>
          rintro y hy ⟨p, hp, e, h0⟩
          have : p = x := h0
          subst this
          exact ⟨y, hy, e.symm, rfl⟩
        | succ n ih =>
          rintro y hy ⟨p, hp, e, h0⟩
          obtain ⟨c, hc, e2, h1⟩ := ih p hp h0
          exact ⟨c, hc, e2, p, hp, e, h1⟩
      cases n with
      | zero =>
        have : y = x := ha
        subst this
        exact .inl rfl
      | succ n =>
        obtain ⟨c, hc, e, h1⟩ := key n y hy ha
        exact .inr ⟨c, (mem_ord ho).2 (mem_kidsOf.2 ⟨hc, e⟩), (mem_pre hc).2 ⟨y, n, rfl, hy, by omega, h1⟩⟩
theorem pre_nodup (hf : ∀ x, id (f x) = id x) (h : Rooted id par l r) : ∀ {k : Nat} {x : I} {d : Nat}, x ∈ l → Anc id par l r x d → ((pre id par ord f l k x).map id).Nodup
  | 0, _, _, _, _ => by simp [pre]
  | k + 1, x, d, hx, hd => by
    unfold pre
    rw [List.map_cons, List.nodup_cons, List.map_flatMap]
    have hkid : ∀ c, c ∈ ord (kidsOf par l (id x)) → c ∈ l ∧ Anc id par l r c (d + 1) := by
      intro c hc
      rw [mem_ord ho, mem_kidsOf] at hc
      refine ⟨hc.1, ?_⟩
      rw [Nat.add_comm]
      exact Anc.trans (m := 1) ⟨x, hx, hc.2.symm, rfl⟩ hd
    have hin : ∀ c, c ∈ ord (kidsOf par l (id x)) → ∀ s, s ∈ (pre id par ord f l k c).map id → ∃ y n, id y = s ∧ y ∈ l ∧ Anc id par l c y n ∧ Anc id par l r y (n + (d + 1)) := by
      intro c hc s hs
      obtain ⟨z, hz, rfl⟩ := List.mem_map.1 hs
      obtain ⟨y, n, rfl, hy, _, ha⟩ := (mem_pre ho (hkid c hc).1).1 hz
      exact ⟨y, n, (hf y).symm, hy, ha, ha.trans (hkid c hc).2⟩
    refine ⟨fun hm => ?_, ?_⟩
    · rw [List.mem_flatMap] at hm
      obtain ⟨c, hc, hs⟩ := hm
      obtain ⟨y, n, e, hy, _, hl⟩ := hin c hc _ hs
      have : y = x := id_inj h.nodup hy hx (e.trans (hf x))
      subst this
      have := h.level hd hl
      omega
    · refine nodup_flatMap' (fun c hc => pre_nodup hf h (hkid c hc).1 (hkid c hc).2) ?_
      have hnd : (ord (kidsOf par l (id x))).Nodup := by
        rw [(ho _).nodup_iff]
        exact List.Pairwise.filter _ (nodup_of_map h.nodup)
      refine (List.Pairwise.and_mem.1 hnd).imp ?_
      rintro a b ⟨ha, hb, hne⟩
      intro s hsa hsb
      obtain ⟨y, n, e, hy, han, hl⟩ := hin a ha s hsa
      obtain ⟨y2, m, e2, hy2, ham, hl2⟩ := hin b hb s hsb
      have : y = y2 := id_inj h.nodup hy hy2 (e.trans e2.symm)
      subst this
      have hnm := h.level hl hl2
      have : n = m := by omega
      subst this
      exact hne (Anc.inj h.nodup han ham)
end
end
section
variable {I κ : Type} [DecidableEq κ] {id par : I → κ} {l : List I} {r : I}
theorem flatMap_one {α β : Type} {g : α → List β} {a : α} : ∀ {L : List α}, L.Nodup → a ∈ L → (∀ b ∈ L, b ≠ a → g b = []) → L.flatMap g = g a
  | [], _, h, _ => by cases h
  | b :: t, hn, h, hz => by
    rw [List.nodup_cons] at hn
    rw [List.flatMap_cons]
    by_cases e : b = a
    · subst e
      have : t.flatMap g = [] := by
        rw [List.flatMap_eq_nil_iff]
        exact fun c hc => hz c (List.mem_cons_of_mem _ hc) (fun e => hn.1 (e ▸ hc))
      rw [this, List.append_nil]
    · rw [hz b List.mem_cons_self e, List.nil_append]
      have hat : a ∈ t := by
        rcases List.mem_cons.1 h with h | h
        · exact absurd h.symm e
        · exact h
      exact flatMap_one hn.2 hat (fun c hc => hz c (List.mem_cons_of_mem _ hc))
theorem flatMap_congr' {α β : Type} {g g' : α → List β} : ∀ {L : List α}, (∀ a ∈ L, g a = g' a) → L.flatMap g = L.flatMap g'
  | [], _ => rfl
  | a :: t, h => by
    rw [List.flatMap_cons, List.flatMap_cons, h a List.mem_cons_self, flatMap_congr' (fun b hb => h b (List.mem_cons_of_mem _ hb))]
theorem flatMap_singles {α β : Type} {g : α → List β} {f : α → β} : ∀ {L : List α}, (∀ a ∈ L, g a = [f a]) → L.flatMap g = L.map f
  | [], _ => rfl
  | a :: t, h => by
    rw [List.flatMap_cons, h a List.mem_cons_self, flatMap_singles (fun b hb => h b (List.mem_cons_of_mem _ hb))]
    rfl
theorem kidsOf_nil {s : κ} {L : List I} (h : ∀ z ∈ L, par z ≠ s) : kidsOf par L s = [] := by
  unfold kidsOf
  rw [List.filter_eq_nil_iff]
  exact fun z hz => by simpa using h z hz
omit [DecidableEq κ] in
theorem Rooted.depth (h : Rooted id par l r) : ∀ {n : Nat} {y : I}, y ∈ l → Anc id par l r y n → n < l.length := by
  have key : ∀ (n : Nat) (y : I), y ∈ l → Anc id par l r y n → ∃ c : List I, c.length = n + 1 ∧ c.Nodup ∧ ∀ z ∈ c, z ∈ l ∧ ∃ m, m ≤ n ∧ Anc id par l r z m := by
    intro n
    induction n with
    | zero => exact fun y hy ha => ⟨[y], rfl, by simp, fun z hz => by rw [List.mem_singleton.1 hz]; exact ⟨hy, 0, Nat.le_refl _, ha⟩⟩
    | succ n ih =>
      rintro y hy ⟨p, hp, e, ha⟩
      obtain ⟨c, hl, hn, hc⟩ := ih p hp ha
      refine ⟨y :: c, by simp [hl], List.nodup_cons.2 ⟨fun hm => ?_, hn⟩, fun z hz => ?_⟩
      · obtain ⟨_, m, hm, h2⟩ := hc y hm
        have := h.level h2 (show Anc id par l r y (n + 1) from ⟨p, hp, e, ha⟩)
        omega
      · rcases List.mem_cons.1 hz with rfl | hz
        · exact ⟨hy, n + 1, Nat.le_refl _, p, hp, e, ha⟩
        · obtain ⟨h1, m, hm, h2⟩ := hc z hz
          exact ⟨h1, m, by omega, h2⟩
  intro n y hy ha
  obtain ⟨c, hl, hn, hc⟩ := key n y hy ha
  have := hn.length_le_of_subset (fun z hz => (hc z hz).1)
  omega
section
variable {ord : List I → List I} (ho : IsOrd ord) {f : I → I} (hf : ∀ x, id (f x) = id x) (hp : ∀ x, par (f x) = par x)
include ho hf hp
omit hf in
theorem kidsOf_pre (h : Rooted id par l r) : ∀ {n k d : Nat} {x y : I}, x ∈ l → y ∈ l → Anc id par l r x d → Anc id par l x y n → n + 1 < k → kidsOf par (pre id par ord f l k x) (id y) = (ord (kidsOf par l (id y))).map f
  | n, 0, _, _, _, _, _, _, _, hk => by omega
  | n, k + 1, d, x, y, hx, hy, hd, ha, hk => by
    have hkid : ∀ c, c ∈ ord (kidsOf par l (id x)) → c ∈ l ∧ par c = id x ∧ Anc id par l r c (d + 1) := by
      intro c hc
      rw [mem_ord ho, mem_kidsOf] at hc
      refine ⟨hc.1, hc.2, ?_⟩
      rw [Nat.add_comm]
      exact Anc.trans (m := 1) ⟨x, hx, hc.2.symm, rfl⟩ hd
    have hbelow : ∀ c, c ∈ ord (kidsOf par l (id x)) → ∀ z, z ∈ pre id par ord f l k c → par z = id y → ∃ w m, z = f w ∧ w ∈ l ∧ par w = id y ∧ Anc id par l c w m ∧ m + (d + 1) = d + n + 1 := by
      intro c hc z hz e
      obtain ⟨w, m, rfl, hw, _, hm⟩ := (mem_pre ho (hkid c hc).1).1 hz
      rw [hp] at e
      refine ⟨w, m, rfl, hw, e, hm, ?_⟩
      have h1 := hm.trans (hkid c hc).2.2
      have h2 : Anc id par l r w (n + d + 1) := ⟨y, hy, e.symm, ha.trans hd⟩
      have := h.level h1 h2
      omega
    have hfx : kidsOf par (f x :: (ord (kidsOf par l (id x))).flatMap (pre id par ord f l k)) (id y) = kidsOf par ((ord (kidsOf par l (id x))).flatMap (pre id par ord f l k)) (id y) := by
      unfold kidsOf
      rw [List.filter_cons, if_neg]
      simp only [decide_eq_true_eq, hp]
      intro e
      have h2 : Anc id par l r x (n + d + 1) := ⟨y, hy, e.symm, ha.trans hd⟩
      have := h.level hd h2
      omega
    have hfm : kidsOf par ((ord (kidsOf par l (id x))).flatMap (pre id par ord f l k)) (id y) = (ord (kidsOf par l (id x))).flatMap (fun c => kidsOf par (pre id par ord f l k c) (id y)) := by
      unfold kidsOf
      exact List.filter_flatMap
    have hnd : (ord (kidsOf par l (id x))).Nodup := by
      rw [(ho _).nodup_iff]
      exact List.Pairwise.filter _ (nodup_of_map h.nodup)
    unfold pre
    rw [hfx, hfm]
    cases n with
    | zero =>
      have : y = x := ha
      subst this
      refine flatMap_singles (fun c hc => ?_)
      obtain ⟨k, rfl⟩ : ∃ m, k = m + 1 := ⟨k - 1, by omega⟩
      unfold pre
      have hc1 : ∀ L : List I, kidsOf par (f c :: L) (id y) = f c :: kidsOf par L (id y) := fun L => by
        unfold kidsOf
        rw [List.filter_cons, if_pos (by simp [hp, (hkid c hc).2.1])]
      rw [hc1]
      congr 1
      refine kidsOf_nil (fun z hz e => ?_)
      obtain ⟨b, hb, hzb⟩ := List.mem_flatMap.1 hz
      rw [mem_ord ho, mem_kidsOf] at hb
      obtain ⟨w, m, rfl, hw, _, hm⟩ := (mem_pre ho hb.1).1 hzb
      rw [hp] at e
      have hb1 : Anc id par l r b (1 + (d + 1)) := Anc.trans (m := 1) ⟨c, (hkid c hc).1, hb.2.symm, rfl⟩ (hkid c hc).2.2
      have h1 := hm.trans hb1
      have h2 : Anc id par l r w (d + 1) := ⟨y, hy, e.symm, hd⟩
      have := h.level h1 h2
      omega
    | succ n =>
      have key : ∀ (n : Nat) (y : I), y ∈ l → Anc id par l x y (n + 1) → ∃ c, c ∈ l ∧ par c = id x ∧ Anc id par l c y n := by
        intro n
        induction n with
        | zero =>
          rintro y hy ⟨p, hp, e, h0⟩
          have : p = x := h0
          subst this
          exact ⟨y, hy, e.symm, rfl⟩
        | succ n ih =>
          rintro y hy ⟨p, hp, e, h0⟩
          obtain ⟨c, hc, e2, h1⟩ := ih p hp h0
          exact ⟨c, hc, e2, p, hp, e, h1⟩
      obtain ⟨c, hc, ec, hcy⟩ := key n y hy ha
      have hcm : c ∈ ord (kidsOf par l (id x)) := (mem_ord ho).2 (mem_kidsOf.2 ⟨hc, ec⟩)
      rw [flatMap_one hnd hcm (fun b hb hne => ?_)]
      · exact kidsOf_pre h hc hy (hkid c hcm).2.2 hcy (by omega)
      · refine kidsOf_nil (fun z hz e => ?_)
        obtain ⟨w, m, rfl, hw, e2, hm, hmn⟩ := hbelow b hb z hz e
        obtain ⟨m, rfl⟩ : ∃ q, m = q + 1 := ⟨m - 1, by omega⟩
        obtain ⟨p, hpl, ep, hbp⟩ := hm
        have : p = y := id_inj h.nodup hpl hy (ep.trans e2)
        subst this
        have : m = n := by omega
        subst this
        exact hne (Anc.inj h.nodup hbp hcy)
theorem pre_pre (h : Rooted id par l r) {K : Nat} (hK : ∀ y ∈ l, ∀ n, Anc id par l r y n → n + 1 < K) {ord' ord2 : List I → List I} {f' : I → I} (h2 : ∀ y ∈ l, ord' ((ord (kidsOf par l (id y))).map f) = (ord2 (kidsOf par l (id y))).map f) (ho2 : IsOrd ord2) :
    ∀ {k d : Nat} {x : I}, x ∈ l → Anc id par l r x d → pre id par ord' f' (pre id par ord f l K r) k (f x) = pre id par ord2 (fun z => f' (f z)) l k x
  | 0, _, _, _, _ => rfl
  | k + 1, d, x, hx, hd => by
    unfold pre
    rw [hf, kidsOf_pre ho hp h h.mem hx (show Anc id par l r r 0 from rfl) hd (hK x hx d hd), h2 x hx]
    congr 1
    rw [List.flatMap_map]
    refine flatMap_congr' (fun c hc => ?_)
    rw [mem_ord ho2, mem_kidsOf] at hc
    refine pre_pre h hK h2 ho2 hc.1 (d := 1 + d) ?_
    exact Anc.trans (m := 1) ⟨x, hx, hc.2.symm, rfl⟩ hd
end
theorem pre_perm {ord : List I → List I} (ho : IsOrd ord) {f : I → I} (hf : ∀ x, id (f x) = id x) (h : Rooted id par l r) {K : Nat} (hall : ∀ y ∈ l, ∃ n, n < K ∧ Anc id par l r y n) : (pre id par ord f l K r).Perm (l.map f) := by
  have h1 : ((pre id par ord f l K r).map id).Nodup := pre_nodup ho hf h h.mem (show Anc id par l r r 0 from rfl)
  have h2 : ((l.map f).map id).Nodup := by
    rw [List.map_map]
    have : id ∘ f = id := by funext x; exact hf x
    rw [this]; exact h.nodup
  rw [List.perm_ext_iff_of_nodup (nodup_of_map h1) (nodup_of_map h2)]
  intro z
  rw [mem_pre ho h.mem, List.mem_map]
  constructor
  · rintro ⟨y, n, rfl, hy, _, _⟩
    exact ⟨y, hy, rfl⟩
  · rintro ⟨y, hy, rfl⟩
    obtain ⟨n, hn, ha⟩ := hall y hy
    exact ⟨y, n, rfl, hy, hn, ha⟩
end
section
variable {I κ : Type} [DecidableEq κ] (id par : I → κ)
inductive Forest : I → List I → Prop where
  | nil (p : I) : Forest p []
  | cons (p y : I) (A B : List I) : par y = id p → Forest y A → Forest p B → Forest p (y :: (A ++ B))
def popTo (q : κ) : List I → List I
  | [] => []
  | p :: ps => if id p = q then p :: ps else popTo q ps
def standsB (chk : List I → Bool) : List I → List I → Bool
  | _, [] => true
  | st, y :: t => match popTo id (par y) st with
    | [] => false
    | p :: ps => chk (p :: ps) && standsB chk (y :: p :: ps) t
variable {id par} {l : List I} {r : I}
omit [DecidableEq κ] in
theorem Forest.par_mem {p : I} {F : List I} (h : Forest id par p F) : ∀ z ∈ F, par z = id p ∨ ∃ q ∈ F, par z = id q := by
  induction h with
  | nil p => intro z hz; cases hz
  | cons p y A B e _ _ ihA ihB =>
    intro z hz
    rcases List.mem_cons.1 hz with rfl | hz
    · exact .inl e
    · rcases List.mem_append.1 hz with hz | hz
      · rcases ihA z hz with h1 | ⟨q, hq, h1⟩
        · exact .inr ⟨y, List.mem_cons_self, h1⟩
        · exact .inr ⟨q, List.mem_cons_of_mem _ (List.mem_append_left _ hq), h1⟩
      · rcases ihB z hz with h1 | ⟨q, hq, h1⟩
        · exact .inl h1
        · exact .inr ⟨q, List.mem_cons_of_mem _ (List.mem_append_right _ hq), h1⟩
theorem kidsOf_append {s : κ} {A B : List I} : kidsOf par (A ++ B) s = kidsOf par A s ++ kidsOf par B s := by simp [kidsOf]
theorem kidsOf_cons_ne {s : κ} {y : I} {A : List I} (h : par y ≠ s) : kidsOf par (y :: A) s = kidsOf par A s := by simp [kidsOf, h]
theorem kidsOf_cons_eq {s : κ} {y : I} {A : List I} (h : par y = s) : kidsOf par (y :: A) s = y :: kidsOf par A s := by simp [kidsOf, h]
theorem Forest.pre_eq {p : I} {F : List I} (h : Forest id par p F) : ∀ {k : Nat}, F.length ≤ k → ((p :: F).map id).Nodup → (∀ z ∈ F, kidsOf par l (id z) = kidsOf par F (id z)) →
    F = (kidsOf par F (id p)).flatMap (pre id par (fun k => k) (fun x => x) l k) := by
  induction h with
  | nil p => intro k _ _ _; rfl
  | cons p y A B e hA hB ihA ihB =>
    intro k hk hn hl
    simp only [List.length_cons, List.length_append] at hk
    obtain ⟨k, rfl⟩ : ∃ m, k = m + 1 := ⟨k - 1, by omega⟩
    have hnd : id p ≠ id y ∧ (∀ a ∈ A, id p ≠ id a) ∧ (∀ b ∈ B, id p ≠ id b) ∧ (∀ a ∈ A, id y ≠ id a) ∧ (∀ b ∈ B, id y ≠ id b) ∧ (∀ a ∈ A, ∀ b ∈ B, id a ≠ id b) ∧ ((y :: A).map id).Nodup ∧ ((p :: B).map id).Nodup := by
      simp only [List.map_cons, List.map_append, List.nodup_cons, List.mem_cons, List.mem_append, List.mem_map, not_or, not_exists, not_and, List.nodup_append] at hn ⊢
      obtain ⟨⟨h1, h2, h3⟩, ⟨h4, h5⟩, h6, h7, h8⟩ := hn
      exact ⟨h1, fun a ha e => h2 a ha e.symm, fun b hb e => h3 b hb e.symm, fun a ha e => h4 a ha e.symm, fun b hb e => h5 b hb e.symm, fun a ha b hb => h8 _ ⟨a, ha, rfl⟩ _ ⟨b, hb, rfl⟩, ⟨h4, h6⟩, h3, h7⟩
    obtain ⟨npy, npA, npB, nyA, nyB, nAB, hnA, hnB⟩ := hnd
    have pA : ∀ z ∈ A, par z ≠ id p ∧ ∀ b ∈ B, par z ≠ id b := by
      intro z hz
      rcases hA.par_mem z hz with h1 | ⟨q, hq, h1⟩ <;> rw [h1]
      · exact ⟨npy.symm, fun b hb => nyB b hb⟩
      · exact ⟨(npA q hq).symm, fun b hb => nAB q hq b hb⟩
    have pB : ∀ z ∈ B, par z ≠ id y ∧ ∀ a ∈ A, par z ≠ id a := by
      intro z hz
      rcases hB.par_mem z hz with h1 | ⟨q, hq, h1⟩ <;> rw [h1]
      · exact ⟨npy, fun a ha => npA a ha⟩
      · exact ⟨(nyB q hq).symm, fun a ha => (nAB a ha q hq).symm⟩
    have kA : kidsOf par A (id p) = [] := kidsOf_nil (fun z hz => (pA z hz).1)
    have ky : kidsOf par l (id y) = kidsOf par A (id y) := by
      rw [hl y List.mem_cons_self, kidsOf_cons_ne (by rw [e]; exact npy), kidsOf_append, kidsOf_nil (L := B) (fun z hz => (pB z hz).1), List.append_nil]
    rw [kidsOf_cons_eq e, kidsOf_append, kA, List.nil_append, List.flatMap_cons]
    have e1 : pre id par (fun k => k) (fun x => x) l (k + 1) y = y :: A := by
      unfold pre
      rw [ky]
      congr 1
      refine (ihA (by omega) hnA (fun z hz => ?_)).symm
      rw [hl z (List.mem_cons_of_mem _ (List.mem_append_left _ hz)), kidsOf_cons_ne (by rw [e]; exact npA z hz), kidsOf_append, kidsOf_nil (L := B) (fun b hb => (pB b hb).2 z hz), List.append_nil]
    have e2 : B = (kidsOf par B (id p)).flatMap (pre id par (fun k => k) (fun x => x) l (k + 1)) := by
      refine ihB (by omega) hnB (fun z hz => ?_)
      rw [hl z (List.mem_cons_of_mem _ (List.mem_append_right _ hz)), kidsOf_cons_ne (by rw [e]; exact npB z hz), kidsOf_append, kidsOf_nil (L := A) (fun a ha => (pA a ha).2 z hz), List.nil_append]
    rw [e1, ← e2]
    simp
end
section
variable {I κ : Type} [DecidableEq κ] (id par : I → κ)
inductive Chain (l : List I) (r : I) : List I → Prop where
  | top : Chain l r [r]
  | step (y p : I) (st : List I) : y ∈ l → par y = id p → Chain l r (p :: st) → Chain l r (y :: p :: st)
variable {id par} {l : List I} {r : I}
omit [DecidableEq κ] in
theorem Chain.mem_all (hr : r ∈ l) {c : List I} (h : Chain id par l r c) : ∀ z ∈ c, z ∈ l := by
  induction h with
  | top => intro z hz; rw [List.mem_singleton.1 hz]; exact hr
  | step y p st hy _ _ ih =>
    intro z hz
    rcases List.mem_cons.1 hz with rfl | hz
    · exact hy
    · exact ih z hz
omit [DecidableEq κ] in
theorem Chain.anc (hr : r ∈ l) {c : List I} (h : Chain id par l r c) : ∀ {x : I} {st : List I}, c = x :: st → Anc id par l r x st.length := by
  induction h with
  | top =>
    intro x st e
    injection e with e1 e2
    subst e1; subst e2
    exact rfl
  | step y p st hy e hc ih =>
    intro x st' e'
    injection e' with e1 e2
    subst e1; subst e2
    exact ⟨p, hc.mem_all hr p List.mem_cons_self, e.symm, ih rfl⟩
omit [DecidableEq κ] in
theorem Chain.tail {x y : I} {st : List I} (h : Chain id par l r (x :: y :: st)) : Chain id par l r (y :: st) := by
  cases h with
  | step _ _ _ _ _ h => exact h
omit [DecidableEq κ] in
theorem Chain.sub (hr : r ∈ l) : ∀ {c : List I}, Chain id par l r c → ∀ z ∈ c, ∃ n, n < c.length ∧ Anc id par l r z n := by
  intro c h
  induction h with
  | top => intro z hz; rw [List.mem_singleton.1 hz]; exact ⟨0, by simp, rfl⟩
  | step y p st hy e hc ih =>
    intro z hz
    rcases List.mem_cons.1 hz with rfl | hz
    · exact ⟨st.length + 1, by simp, (Chain.step z p st hy e hc).anc hr rfl⟩
    · obtain ⟨n, hn, ha⟩ := ih z hz
      exact ⟨n, by simp only [List.length_cons] at hn ⊢; omega, ha⟩
omit [DecidableEq κ] in
theorem Chain.uniq (h : Rooted id par l r) : ∀ {st st' : List I} {x : I}, Chain id par l r (x :: st) → Chain id par l r (x :: st') → st = st'
  | [], [], _, _, _ => rfl
  | [], y :: st', x, h1, h2 => by
    have := h.level (h1.anc h.mem rfl) (h2.anc h.mem rfl)
    simp at this
  | y :: st, [], x, h1, h2 => by
    have := h.level (h1.anc h.mem rfl) (h2.anc h.mem rfl)
    simp at this
  | y :: st, z :: st', x, h1, h2 => by
    have hy := h1.tail.mem_all h.mem y List.mem_cons_self
    have hz := h2.tail.mem_all h.mem z List.mem_cons_self
    have e : y = z := by
      cases h1 with
      | step _ _ _ _ e1 _ =>
        cases h2 with
        | step _ _ _ _ e2 _ => exact id_inj h.nodup hy hz (e1.symm.trans e2)
    subst e
    rw [Chain.uniq h h1.tail h2.tail]
theorem popTo_chain {q : κ} : ∀ {st : List I}, Chain id par l r st → ∀ {p : I} {ps : List I}, popTo id q st = p :: ps → Chain id par l r (p :: ps) ∧ id p = q := by
  intro st h
  induction h with
  | top =>
    intro p ps e
    unfold popTo at e
    split at e
    · injection e with e1 e2
      subst e1; subst e2
      exact ⟨.top, ‹_›⟩
    · simp [popTo] at e
  | step y p st hy e hc ih =>
    intro p' ps e'
    unfold popTo at e'
    split at e'
    · injection e' with e1 e2
      subst e1; subst e2
      exact ⟨.step _ _ _ hy e hc, ‹_›⟩
    · exact ih e'
theorem stands_chk (h : Rooted id par l r) (chk : List I → Bool) : ∀ {F : List I} {st : List I}, Chain id par l r st → (∀ y ∈ F, y ∈ l) → standsB id par chk st F = true →
    ∀ y ∈ F, ∃ p ps, par y = id p ∧ Chain id par l r (p :: ps) ∧ chk (p :: ps) = true
  | [], _, _, _, _ => fun y hy => by cases hy
  | y :: t, st, hst, hF, hs => by
    unfold standsB at hs
    split at hs
    · cases hs
    · rename_i p ps hp
      simp only [Bool.and_eq_true] at hs
      obtain ⟨hc, e⟩ := popTo_chain hst hp
      intro z hz
      rcases List.mem_cons.1 hz with rfl | hz
      · exact ⟨p, ps, e.symm, hc, hs.1⟩
      · exact stands_chk h chk (.step y p ps (hF y List.mem_cons_self) e.symm hc) (fun w hw => hF w (List.mem_cons_of_mem _ hw)) hs.2 z hz
def After (id par : I → κ) (chk : List I → Bool) (st T : List I) : Prop := ∀ ext : List I, (∀ e ∈ ext, ∀ s ∈ st, id e ≠ id s) → standsB id par chk (ext ++ st) T = true
theorem popTo_ext {ext st : List I} {x : I} (h : ∀ e ∈ ext, id e ≠ id x) : popTo id (id x) (ext ++ x :: st) = x :: st := by
  induction ext with
  | nil => simp [popTo]
  | cons e t ih =>
    rw [List.cons_append, popTo, if_neg (h e List.mem_cons_self)]
    exact ih (fun z hz => h z (List.mem_cons_of_mem _ hz))
section
variable {ord : List I → List I} (ho : IsOrd ord) {f : I → I} (hf : ∀ x, id (f x) = id x) (hp : ∀ x, par (f x) = par x) (chk : List I → Bool)
include ho hf hp
theorem pre_after (h : Rooted id par l r) (hchk : ∀ x st c, Chain id par l r (x :: st) → c ∈ l → par c = id x → chk ((x :: st).map f) = true) :
    ∀ (k : Nat) (x : I) (st T : List I), Chain id par l r (x :: st) → After id par chk ((x :: st).map f) T → After id par chk ((x :: st).map f) ((ord (kidsOf par l (id x))).flatMap (pre id par ord f l k) ++ T) := by
  intro k
  induction k with
  | zero =>
    intro x st T _ hT
    have : (ord (kidsOf par l (id x))).flatMap (pre id par ord f l 0) = [] := by
      rw [List.flatMap_eq_nil_iff]; exact fun _ _ => rfl
    rw [this]; exact hT
  | succ k ih =>
    intro x st T hc hT
    have key : ∀ L : List I, (∀ c ∈ L, c ∈ l ∧ par c = id x) → After id par chk ((x :: st).map f) (L.flatMap (pre id par ord f l (k + 1)) ++ T) := by
      intro L
      induction L with
      | nil => exact fun _ => hT
      | cons c L ihL =>
        intro hL
        have hT' := ihL (fun b hb => hL b (List.mem_cons_of_mem _ hb))
        obtain ⟨hcl, hcp⟩ := hL c List.mem_cons_self
        have hcc : Chain id par l r (c :: x :: st) := .step c x st hcl hcp hc
        intro ext hext
        rw [List.flatMap_cons, List.append_assoc]
        generalize L.flatMap (pre id par ord f l (k + 1)) ++ T = T' at hT'
        unfold pre
        rw [List.cons_append]
        unfold standsB
        have e1 : popTo id (par (f c)) (ext ++ (x :: st).map f) = (x :: st).map f := by
          rw [hp, hcp, ← hf x, List.map_cons]
          exact popTo_ext (fun e he => hext e he (f x) (by simp))
        rw [e1, List.map_cons]
        simp only [Bool.and_eq_true]
        refine ⟨by have := hchk x st c hc hcl hcp; rwa [List.map_cons] at this, ?_⟩
        have h2 : After id par chk ((c :: x :: st).map f) T' := by
          intro ext' he'
          have := hT' (ext' ++ [f c]) (fun e he s hs => ?_)
          · rw [List.append_assoc] at this
            rw [List.map_cons]
            exact this
          · rcases List.mem_append.1 he with he | he
            · exact he' e he s (by rw [List.map_cons]; exact List.mem_cons_of_mem _ hs)
            · rw [List.mem_singleton.1 he]
              obtain ⟨z, hz, rfl⟩ := List.mem_map.1 hs
              rw [hf, hf]
              intro e2
              have hzl := hc.mem_all h.mem z hz
              have := id_inj h.nodup hcl hzl e2
              subst this
              obtain ⟨n, hn, ha⟩ := hc.sub h.mem c hz
              have := h.level ha (hcc.anc h.mem rfl)
              simp only [List.length_cons] at hn this
              omega
        have h3 := ih c (x :: st) T' hcc h2 [] (fun e he => by cases he)
        rwa [List.nil_append, List.map_cons, List.map_cons] at h3
    exact key _ (fun c hcm => by rwa [mem_ord ho, mem_kidsOf] at hcm)
theorem pre_stands (h : Rooted id par l r) (hchk : ∀ x st c, Chain id par l r (x :: st) → c ∈ l → par c = id x → chk ((x :: st).map f) = true) (k : Nat) :
    standsB id par chk [f r] ((ord (kidsOf par l (id r))).flatMap (pre id par ord f l k)) = true := by
  have := pre_after ho hf hp chk h hchk k r [] [] .top (fun ext _ => rfl) [] (fun e he => by cases he)
  rwa [List.append_nil, List.nil_append] at this
end
end
end Sn
namespace Sn
section
variable {α β : Type} {g g' : Nat → Option α} {r : α}
end
def allN (n : Nat) (p : Nat → Bool) : Bool := (List.range n).all p
theorem allN_iff {n : Nat} {p : Nat → Bool} : allN n p = true ↔ ∀ i, i < n → p i = true := by simp [allN, List.all_eq_true]
theorem allN_false {n i : Nat} {p : Nat → Bool} (hi : i < n) (h : p i = false) : allN n p = false := by
  rw [← Bool.not_eq_true, allN_iff]
  exact fun h' => by rw [h' i hi] at h; cases h
theorem allN_list {α : Type} (z : α) {q : α → Bool} {xs : List α} : allN xs.length (fun i => q (xs.getD i z)) = xs.all q := by
  rw [Bool.eq_iff_iff, allN_iff, List.all_eq_true]
  constructor
  · intro h x hx
    obtain ⟨i, hi, rfl⟩ := List.getElem_of_mem hx
    have := h i hi
    rwa [List.getD_eq_getElem?_getD, List.getElem?_eq_getElem hi] at this
  · intro h i hi
    rw [List.getD_eq_getElem?_getD, List.getElem?_eq_getElem hi]
    exact h _ (List.getElem_mem hi)
theorem getD_mem {α : Type} {z : α} {xs : List α} {i : Nat} (hi : i < xs.length) : xs.getD i z ∈ xs := by
  rw [List.getD_eq_getElem?_getD, List.getElem?_eq_getElem hi]; exact List.getElem_mem hi
theorem getD_of {α : Type} {z : α} {xs : List α} {i : Nat} (hi : i < xs.length) : xs.getD i z = xs[i] := by
  rw [List.getD_eq_getElem?_getD, List.getElem?_eq_getElem hi]; rfl
end Sn
namespace Go.Ab
open Sn
theorem bs_inj {a b : ByteArray} (h : a.toList = b.toList) : a = b := by
  rw [ByteArray.toList_eq, ByteArray.toList_eq] at h
  exact ByteArray.ext (Array.ext' h)
def cmpS (a b : ByteArray) : Int := cmpBs a.toList b.toList
def cmpOn (a b : S78) : Int := orC (cmpS a.f0 b.f0) (cmpInt a.f1 b.f1)
def cmpIf (a b : S93) : Int := orC (cmpS a.f0 b.f0) (orC (cmpS a.f1 b.f1) (cmpInt a.f2 b.f2))
def cmpSe (a b : S29) : Int := orC (cmpList cmpOn a.f0 b.f0) (cmpList cmpIf a.f1 b.f1)
theorem isCmp_s : IsCmp cmpS where
  rng a b := isCmp_bs.rng _ _
  anti a b := isCmp_bs.anti _ _
  eq0 a b := by rw [cmpS, isCmp_bs.eq0]; exact ⟨bs_inj, fun h => by rw [h]⟩
  tr a b d := isCmp_bs.tr _ _ _
theorem isCmp_on : IsCmp cmpOn := isCmp_s.lex isCmp_int S78.f0 S78.f1 (fun a b h1 h2 => by cases a; cases b; simp_all)
theorem isCmp_if : IsCmp cmpIf := by
  have h := isCmp_s.lex isCmp_int (α := ByteArray × Int) Prod.fst Prod.snd (fun a b h1 h2 => Prod.ext h1 h2)
  have h2 := isCmp_s.lex h S93.f0 (fun x => (x.f1, x.f2)) (fun a b h1 h2 => by cases a; cases b; simp_all)
  exact h2
theorem isCmp_se : IsCmp cmpSe := isCmp_on.list.lex isCmp_if.list S29.f0 S29.f1 (fun a b h1 h2 => by cases a; cases b; simp_all)
end Go.Ab
namespace Go.Ab
open Sn
end Go.Ab
namespace Go.Ab
open Sn
def compactFrom {α : Type} (eq : α → α → Bool) (x : α) : List α → List α
  | [] => [x]
  | y :: r => if eq y x then compactFrom eq x r else x :: compactFrom eq y r
def compactL {α : Type} (eq : α → α → Bool) : List α → List α
  | [] => []
  | x :: r => compactFrom eq x r
def eqIf (y x : S93) : Bool := y.f0.toList == x.f0.toList && (y.f1.toList == x.f1.toList && (y.f2 == x.f2))
theorem eqIf_iff {y x : S93} : eqIf y x = true ↔ y = x := by
  unfold eqIf
  simp only [Bool.and_eq_true, beq_iff_eq]
  refine ⟨fun ⟨h1, h2, h3⟩ => ?_, fun h => by rw [h]; exact ⟨rfl, rfl, rfl⟩⟩
  have g1 := bs_inj h1
  have g2 := bs_inj h2
  clear h1 h2
  cases y; cases x
  simp only at g1 g2 h3
  subst g1; subst g2; subst h3
  rfl
def api_Cond_178.f (l0 : List S93) : Option (List S93) := if l0.length ≤ 2 then some (compactL eqIf l0) else none
end Go.Ab
namespace Go.Ab
open Sn
def firstAt (p : Nat → Bool) (n : Nat) : Int := match (List.range n).find? p with | some j => j | none => -1
theorem firstAt_hit {p : Nat → Bool} {n k : Nat} (hk : k < n) (hp : p k = true) (hb : ∀ j, j < k → p j = false) : firstAt p n = k := by
  have : (List.range n).find? p = some k := by
    rw [List.find?_eq_some_iff_append]
    refine ⟨hp, List.range k, (List.range n).drop (k + 1), ?_, fun j hj => by rw [hb j (List.mem_range.1 hj)]; rfl⟩
    apply List.ext_getElem?
    intro i
    by_cases h1 : i < k
    · rw [List.getElem?_append_left (by simpa using h1), List.getElem?_range (by omega), List.getElem?_range h1]
    · rw [List.getElem?_append_right (by simp; omega), List.length_range]
      by_cases h2 : i = k
      · subst h2; simp [hk]
      · have e : i - k = (i - k - 1) + 1 := by omega
        rw [e, List.getElem?_cons_succ, List.getElem?_drop]
        congr 1; omega
  unfold firstAt
  rw [this]
theorem firstAt_miss {p : Nat → Bool} {n : Nat} (hb : ∀ j, j < n → p j = false) : firstAt p n = -1 := by
  have : (List.range n).find? p = none := by
    rw [List.find?_eq_none]
    intro j hj
    rw [hb j (List.mem_range.1 hj)]
    decide
  unfold firstAt
  rw [this]
theorem firstAt_pos {p : Nat → Bool} {n : Nat} : decide (0 ≤ firstAt p n) = (List.range n).any p := by
  unfold firstAt
  cases h : (List.range n).find? p with
  | some j =>
    have h1 := List.find?_some h
    have h2 := List.mem_of_find?_eq_some h
    have h3 : (List.range n).any p = true := List.any_eq_true.2 ⟨j, h2, h1⟩
    rw [h3]
    exact decide_eq_true (Int.natCast_nonneg j)
  | none =>
    have h3 : (List.range n).any p = false := by
      rw [List.any_eq_false]
      exact List.find?_eq_none.1 h
    rw [h3]
    rfl
end Go.Ab
namespace Go.Ab
open Sn
set_option linter.unusedVariables false
def placeOf (xs : List S47) (s : ByteArray) : Int := firstAt (fun j => (xs.getD j z47).f0.toList == s.toList) xs.length
def model_Place.f (_l0_0 : List ByteArray) (l0_1 : List S47) (a1 : ByteArray) : Option Int := some (placeOf l0_1 a1)
end Go.Ab
namespace Go.Ab
open Sn
open Sn
section
variable {α β : Type} {c : β → β → Int} {key : α → β}
theorem ins_map (x : α) : ∀ l : List α, (ins (fun a b => c (key a) (key b)) x l).map key = ins c (key x) (l.map key)
  | [] => rfl
  | y :: r => by
    unfold ins
    rw [List.map_cons]
    by_cases h : c (key y) (key x) < 0
    · simp only [h, if_true, List.map_cons, ins_map x r]
    · simp only [h, if_false, List.map_cons]
theorem sortL_map (l : List α) : (sortL (fun a b => c (key a) (key b)) l).map key = sortL c (l.map key) := by
  unfold sortL
  have : ∀ acc : List α, (l.foldl (fun acc x => ins (fun a b => c (key a) (key b)) x acc) acc).map key = (l.map key).foldl (fun acc x => ins c x acc) (acc.map key) := by
    induction l with
    | nil => exact fun _ => rfl
    | cons x r ih => intro acc; rw [List.foldl_cons, List.map_cons, List.foldl_cons, ih, ins_map]
  exact this []
theorem rises_key (h : IsCmp c) (l : List α) : Rises (fun a b => c (key a) (key b)) (sortL (fun a b => c (key a) (key b)) l) := by
  have h2 := sortL_rises h (l.map key)
  rw [← sortL_map] at h2
  unfold Rises at h2 ⊢
  rwa [List.pairwise_map] at h2
theorem key_inj {l : List α} (hn : (l.map key).Nodup) {a b : α} (ha : a ∈ l) (hb : b ∈ l) (e : key a = key b) : a = b := by
  induction l with
  | nil => cases ha
  | cons x r ih =>
    rw [List.map_cons, List.nodup_cons] at hn
    rcases List.mem_cons.1 ha with h1 | h1 <;> rcases List.mem_cons.1 hb with h2 | h2
    · rw [h1, h2]
    · exact absurd (List.mem_map.2 ⟨b, h2, by rw [← e, h1]⟩) hn.1
    · exact absurd (List.mem_map.2 ⟨a, h1, by rw [e, h2]⟩) hn.1
    · exact ih hn.2 h1 h2
theorem rises_key_eq (h : IsCmp c) {l1 l2 : List α} (hn : (l2.map key).Nodup) (h1 : Rises (fun a b => c (key a) (key b)) l1) (h2 : Rises (fun a b => c (key a) (key b)) l2) (hp : l1.Perm l2) : l1 = l2 :=
  hp.eq_of_pairwise (fun a b ha hb hab hba => by
    refine key_inj hn (hp.mem_iff.1 ha) hb ?_
    rcases h.trichotomy (key a) (key b) with h3 | h3 | h3
    · exact absurd (h.gt.2 h3) hba
    · exact h3
    · exact absurd (h.gt.2 h3) hab) h1 h2
end
def cmpAt (xs : List S47) (a b : Int) : Int := cmpS (rd_T47 xs a).f0 (rd_T47 xs b).f0
def slices_SortFunc_int_int.f (l : List Int) (_files : List ByteArray) (xs : List S47) : Option (List Int) :=
  if (∀ a ∈ l, 0 ≤ a ∧ a < (xs.length : Int)) ∧ (l.map fun a => (rd_T47 xs a).f0).Nodup ∧ l.length < 4611686018427387904 then some (sortL (cmpAt xs) l) else none
end Go.Ab
namespace Go.Ab
open Sn
theorem size0 {s : ByteArray} : s.toList = [] ↔ s.size = 0 := by
  rw [ByteArray.toList_eq]
  exact ⟨fun h => by have := congrArg List.length h; simpa using this, fun h => List.eq_nil_of_length_eq_zero (by simpa using h)⟩
theorem all_bytes (s : ByteArray) : (s.data.toList.all fun c => isM c.toNat) = true ↔ ∀ j : Nat, j < s.size → isM (bt s j) = true := by
  rw [List.all_eq_true]
  constructor
  · intro h j hj
    have h2 := h s.data[j] (by simp)
    have e : bt s j = (s.data[j].toNat : Int) := by simp [bt, hj]; rfl
    rw [e]; exact h2
  · intro h c hc
    obtain ⟨j, hj, rfl⟩ := List.getElem_of_mem hc
    have hj : j < s.size := by simpa using hj
    have := h j hj
    have e : bt s j = (s.data[j].toNat : Int) := by simp [bt, hj]; rfl
    rw [e] at this
    simpa using this
def nameIs (s : ByteArray) : Bool := if s.size = 0 then false else if 12 < s.size then false else if isL (bt s 0) then (s.data.toList.all fun c => isM c.toNat) else false
def name_Is.f (s : ByteArray) : Option Bool := some (nameIs s)
end Go.Ab
namespace Go.Ab
open Sn
def nSe (s : S29) : S29 := ⟨sortL cmpOn s.f0, sortD cmpIf s.f1⟩
def nSes (l : List S29) : List S29 := sortD cmpSe (l.map nSe)
theorem nSe_idem (s : S29) : nSe (nSe s) = nSe s := by
  unfold nSe
  simp only
  rw [sortL_of_rises isCmp_on (sortL_rises isCmp_on _), sortD_of_strict isCmp_if (sortD_strict isCmp_if _)]
theorem mem_nSes {l : List S29} {s : S29} : s ∈ nSes l ↔ ∃ t ∈ l, nSe t = s := by
  unfold nSes; rw [mem_sortD isCmp_se, List.mem_map]
theorem nSes_idem (l : List S29) : nSes (nSes l) = nSes l := by
  have h : (nSes l).map nSe = nSes l := by
    conv => rhs; rw [← List.map_id (nSes l)]
    refine List.map_congr_left (fun s hs => ?_)
    obtain ⟨t, _, rfl⟩ := mem_nSes.1 hs
    exact nSe_idem t
  show sortD cmpSe ((nSes l).map nSe) = nSes l
  rw [h]
  exact sortD_of_strict isCmp_se (sortD_strict isCmp_se _)
theorem sortL_length {α : Type} {c : α → α → Int} (l : List α) : (sortL c l).length = l.length := (sortL_perm l).length_eq
theorem insD_length {α : Type} {c : α → α → Int} (x : α) : ∀ l : List α, (insD c x l).length ≤ l.length + 1
  | [] => by simp [insD]
  | y :: r => by
    unfold insD
    have := insD_length (c := c) x r
    split
    · simp only [List.length_cons]; omega
    · split <;> simp only [List.length_cons] <;> omega
theorem sortD_length {α : Type} {c : α → α → Int} (l : List α) : (sortD c l).length ≤ l.length := by
  have : ∀ acc : List α, (l.foldl (fun acc x => insD c x acc) acc).length ≤ l.length + acc.length := by
    induction l with
    | nil => intro acc; simp
    | cons x r ih =>
      intro acc
      have h1 := ih (insD c x acc); have h2 := insD_length (c := c) x acc
      simp only [List.foldl_cons, List.length_cons]; omega
  have := this []
  simpa [sortD] using this
theorem sortD_eq_nil {α : Type} {c : α → α → Int} (h : IsCmp c) {l : List α} : sortD c l = [] ↔ l = [] := by
  rw [List.eq_nil_iff_forall_not_mem, List.eq_nil_iff_forall_not_mem]
  exact ⟨fun h1 a ha => h1 a ((mem_sortD h).2 ha), fun h1 a ha => h1 a ((mem_sortD h).1 ha)⟩
theorem nSes_length (l : List S29) : (nSes l).length ≤ l.length := by
  have := sortD_length (c := cmpSe) (l.map nSe)
  rwa [List.length_map] at this
def nIt (x : S47) : S47 := ⟨x.f0, x.f1, x.f2, x.f3, x.f4, nSes x.f5, nSes x.f6⟩
theorem nIt_nIt (x : S47) : nIt (nIt x) = nIt x := by unfold nIt; simp only [nSes_idem]
def cmpID (a b : S47) : Int := cmpS a.f0 b.f0
def ordID (l : List S47) : List S47 := sortL cmpID l
theorem isOrd_ID : IsOrd ordID := fun k => sortL_perm k
theorem ordID_map {f : S47 → S47} (hf : ∀ x, (f x).f0 = x.f0) (l : List S47) : ordID (l.map f) = (ordID l).map f := by
  have h := sortL_map (c := cmpID) (key := f) l
  have e : (fun a b => cmpID (f a) (f b)) = cmpID := by funext a b; unfold cmpID; rw [hf, hf]
  rw [e] at h
  exact h.symm
theorem ordID_rises (l : List S47) : Rises cmpID (ordID l) := rises_key (c := cmpS) (key := S47.f0) isCmp_s l
theorem ordID_perm {l1 l2 : List S47} (hn : (l2.map S47.f0).Nodup) (hp : l1.Perm l2) : ordID l1 = ordID l2 :=
  rises_key_eq (c := cmpS) (key := S47.f0) isCmp_s ((((sortL_perm l2).map S47.f0).nodup_iff).2 hn) (ordID_rises l1) (ordID_rises l2) (((sortL_perm l1).trans hp).trans (sortL_perm l2).symm)
def LegalP (k e : Int) : Prop := 1 ≤ k ∧ k ≤ 5 ∧ ((e = 1 ∨ e = 5) ∨ ((e = 2 ∨ e = 3) ∧ k ≤ 2) ∨ (e = 4 ∧ 3 ≤ k))
def opL : List ByteArray := [⟨#[60]⟩, ⟨#[60, 61]⟩, ⟨#[61]⟩, ⟨#[33, 61]⟩, ⟨#[62, 61]⟩, ⟨#[62]⟩]
def OkOn (items : List S47) (o : S78) : Prop := ∃ x ∈ items, x.f0 = o.f0 ∧ LegalP x.f1 o.f1
def OkIf (files : List ByteArray) (c : S93) : Prop := c.f0 ∈ files ∧ c.f1 ∈ opL ∧ -1000000 ≤ c.f2 ∧ c.f2 ≤ 1000000
structure OkSe (files : List ByteArray) (items : List S47) (s : S29) : Prop where
  on3 : s.f0.length ≤ 3
  if2 : s.f1.length ≤ 2
  some1 : 0 < s.f0.length + s.f1.length
  on : ∀ o ∈ s.f0, OkOn items o
  onN : s.f0.Nodup
  cond : ∀ c ∈ s.f1, OkIf files c
def OkSes (files : List ByteArray) (items : List S47) (l : List S29) : Prop := l.length ≤ 3 ∧ ∀ s ∈ l, OkSe files items s
structure OkIt (files : List ByteArray) (items : List S47) (x : S47) : Prop where
  kind : 1 ≤ x.f1 ∧ x.f1 ≤ 5
  ticks : if x.f1 = 5 then 1 ≤ x.f4 ∧ x.f4 ≤ 100 else x.f4 = 0
  waits : 4 ≤ x.f1 → x.f3 = false ∧ x.f5 = []
  entry : OkSes files items x.f5
  exit : OkSes files items x.f6
def chkSt (st : List S47) : Bool := decide (st.length ≤ 5) && (match st with | p :: _ => decide (p.f1 = 1) | [] => false)
def Plan (r : S47) : Prop := r.f1 = 1 ∧ r.f2 = ByteArray.empty ∧ r.f3 = false ∧ r.f5 = [] ∧ r.f6 = []
structure Ok (files : List ByteArray) (r : S47) (F : List S47) : Prop where
  files6 : files.length ≤ 6
  fnames : ∀ s ∈ files, nameIs s = true
  fnodup : files.Nodup
  n16 : F.length ≤ 15
  names : ∀ x ∈ r :: F, nameIs x.f0 = true
  nodup : ((r :: F).map S47.f0).Nodup
  plan : Plan r
  stands : standsB S47.f0 S47.f2 chkSt [r] F = true
  items : ∀ x ∈ r :: F, OkIt files (r :: F) x
def OkM (files : List ByteArray) (items : List S47) : Prop := ∃ r F, items = r :: F ∧ Ok files r F
theorem nameIs_empty : nameIs ByteArray.empty = false := by unfold nameIs; rw [if_pos (show ByteArray.empty.size = 0 from rfl)]
section
variable {files : List ByteArray} {r : S47} {F : List S47}
theorem Ok.rooted (h : Ok files r F) : Rooted S47.f0 S47.f2 (r :: F) r where
  nodup := h.nodup
  mem := List.mem_cons_self
  top p hp e := by
    have := h.names p hp
    rw [e, h.plan.2.1, nameIs_empty] at this
    cases this
theorem Ok.reach (h : Ok files r F) : ∀ y ∈ r :: F, ∃ n, n ≤ 5 ∧ Anc S47.f0 S47.f2 (r :: F) r y n := by
  intro y hy
  rcases List.mem_cons.1 hy with rfl | hy'
  · exact ⟨0, by omega, rfl⟩
  · obtain ⟨p, ps, e, hc, hk⟩ := stands_chk h.rooted chkSt .top (fun z hz => List.mem_cons_of_mem _ hz) h.stands y hy'
    have hl : (p :: ps).length ≤ 5 := by
      unfold chkSt at hk
      simp only [Bool.and_eq_true, decide_eq_true_eq] at hk
      exact hk.1
    exact ⟨ps.length + 1, by simpa using hl, p, hc.mem_all h.rooted.mem p List.mem_cons_self, e.symm, hc.anc h.rooted.mem rfl⟩
theorem Ok.deep (h : Ok files r F) {y : S47} {n : Nat} (hy : y ∈ r :: F) (ha : Anc S47.f0 S47.f2 (r :: F) r y n) : n ≤ 5 := by
  obtain ⟨m, hm, h2⟩ := h.reach y hy
  rw [h.rooted.level ha h2]; exact hm
theorem Ok.chain_chk (h : Ok files r F) {x c : S47} {st : List S47} (hc : Chain S47.f0 S47.f2 (r :: F) r (x :: st)) (hm : c ∈ r :: F) (hp : c.f2 = x.f0) : chkSt (x :: st) = true := by
  have hcF : c ∈ F := by
    rcases List.mem_cons.1 hm with rfl | hm
    · exact absurd hp.symm (h.rooted.top x (hc.mem_all h.rooted.mem x List.mem_cons_self))
    · exact hm
  obtain ⟨p, ps, e, hc2, hk⟩ := stands_chk h.rooted chkSt .top (fun z hz => List.mem_cons_of_mem _ hz) h.stands c hcF
  have hpx : p = x := id_inj h.nodup (hc2.mem_all h.rooted.mem p List.mem_cons_self) (hc.mem_all h.rooted.mem x List.mem_cons_self) (e.symm.trans hp)
  subst hpx
  rw [hc.uniq h.rooted hc2]
  exact hk
end
structure Turns (f : S47 → S47) : Prop where
  f0 : ∀ x, (f x).f0 = x.f0
  f1 : ∀ x, (f x).f1 = x.f1
  f2 : ∀ x, (f x).f2 = x.f2
  f3 : ∀ x, (f x).f3 = x.f3
  f4 : ∀ x, (f x).f4 = x.f4
  nil : ∀ x, (f x).f5 = [] ↔ x.f5 = []
  root : ∀ x, x.f5 = [] → x.f6 = [] → f x = x
  ses : ∀ files items x, (OkSes files items x.f5 → OkSes files items (f x).f5) ∧ (OkSes files items x.f6 → OkSes files items (f x).f6)
theorem OkSe.nSe {files : List ByteArray} {items : List S47} {s : S29} (h : OkSe files items s) : OkSe files items (nSe s) where
  on3 := by unfold Ab.nSe; simp only; rw [sortL_length]; exact h.on3
  if2 := by unfold Ab.nSe; simp only; have := sortD_length (c := cmpIf) s.f1; have := h.if2; omega
  some1 := by
    unfold Ab.nSe
    simp only
    rw [sortL_length]
    have h1 := h.some1
    by_cases h0 : s.f1 = []
    · rw [h0] at h1; simp at h1; omega
    · have : sortD cmpIf s.f1 ≠ [] := fun e => h0 ((sortD_eq_nil isCmp_if).1 e)
      have := List.length_pos_iff.2 this
      omega
  on o ho := h.on o ((sortL_perm _).mem_iff.1 ho)
  onN := (sortL_perm _).nodup_iff.2 h.onN
  cond c hc := h.cond c ((mem_sortD isCmp_if).1 hc)
theorem OkSes.nSes {files : List ByteArray} {items : List S47} {l : List S29} (h : OkSes files items l) : OkSes files items (nSes l) := by
  refine ⟨Nat.le_trans (nSes_length l) h.1, fun s hs => ?_⟩
  obtain ⟨t, ht, rfl⟩ := mem_nSes.1 hs
  exact (h.2 t ht).nSe
theorem turns_n : Turns nIt where
  f0 _ := rfl
  f1 _ := rfl
  f2 _ := rfl
  f3 _ := rfl
  f4 _ := rfl
  nil x := by unfold nIt nSes; simp only; rw [sortD_eq_nil isCmp_se, List.map_eq_nil_iff]
  root x h5 h6 := by cases x; simp only at h5 h6; subst h5; subst h6; rfl
  ses _ _ _ := ⟨OkSes.nSes, OkSes.nSes⟩
def turnT (ord : List S47 → List S47) (f : S47 → S47) (r : S47) (F : List S47) : List S47 := (ord (kidsOf S47.f2 (r :: F) r.f0)).flatMap (pre S47.f0 S47.f2 ord f (r :: F) 19)
theorem turn_pre {ord : List S47 → List S47} {f : S47 → S47} {r : S47} {F : List S47} : pre S47.f0 S47.f2 ord f (r :: F) 20 r = f r :: turnT ord f r F := rfl
section
variable {files files' : List ByteArray} {r : S47} {F : List S47} {ord : List S47 → List S47} {f : S47 → S47}
theorem OkSes.mono {items items' : List S47} (hf : ∀ s, s ∈ files → s ∈ files') (hi : ∀ x ∈ items, ∃ x' ∈ items', x'.f0 = x.f0 ∧ x'.f1 = x.f1) {l : List S29} (h : OkSes files items l) : OkSes files' items' l := by
  refine ⟨h.1, fun s hs => ?_⟩
  have h1 := h.2 s hs
  refine ⟨h1.on3, h1.if2, h1.some1, fun o ho => ?_, h1.onN, fun c hc => ?_⟩
  · obtain ⟨x, hx, e, hl⟩ := h1.on o ho
    obtain ⟨x', hx', e0, e1⟩ := hi x hx
    exact ⟨x', hx', e0.trans e, by rw [e1]; exact hl⟩
  · obtain ⟨h2, h3⟩ := h1.cond c hc
    exact ⟨hf _ h2, h3⟩
theorem Ok.turn_perm (h : Ok files r F) (ho : IsOrd ord) (hf : Turns f) : (f r :: turnT ord f r F).Perm ((r :: F).map f) := by
  rw [← turn_pre]
  refine pre_perm ho hf.f0 h.rooted (fun y hy => ?_)
  obtain ⟨n, hn, ha⟩ := h.reach y hy
  exact ⟨n, by omega, ha⟩
theorem Ok.turn (h : Ok files r F) (ho : IsOrd ord) (hf : Turns f) (hp : files'.Perm files) : Ok files' r (turnT ord f r F) := by
  have hr : f r = r := hf.root r h.plan.2.2.2.1 h.plan.2.2.2.2
  have hperm := h.turn_perm ho hf
  rw [hr] at hperm
  have hmem : ∀ y, y ∈ r :: turnT ord f r F ↔ ∃ x ∈ r :: F, f x = y := fun y => by rw [hperm.mem_iff, List.mem_map]
  refine ⟨?_, fun s hs => h.fnames s (hp.mem_iff.1 hs), hp.nodup_iff.2 h.fnodup, ?_, ?_, ?_, h.plan, ?_, ?_⟩
  · rw [hp.length_eq]; exact h.files6
  · have := hperm.length_eq
    simp only [List.length_cons, List.length_map] at this
    have := h.n16
    omega
  · intro y hy
    obtain ⟨x, hx, rfl⟩ := (hmem y).1 hy
    rw [hf.f0]
    exact h.names x hx
  · rw [(hperm.map S47.f0).nodup_iff, List.map_map]
    have : S47.f0 ∘ f = S47.f0 := by funext x; exact hf.f0 x
    rw [this]; exact h.nodup
  · have h2 := pre_stands ho hf.f0 hf.f2 chkSt h.rooted (fun x st c hc hm hp => ?_) 19
    · rw [hr] at h2; exact h2
    · have h3 := h.chain_chk hc hm hp
      unfold chkSt at h3 ⊢
      rw [List.length_map]
      rw [List.map_cons]
      simp only [hf.f1] at h3 ⊢
      exact h3
  · intro y hy
    obtain ⟨x, hx, rfl⟩ := (hmem y).1 hy
    have h1 := h.items x hx
    have hin : ∀ x ∈ r :: F, ∃ x' ∈ r :: turnT ord f r F, x'.f0 = x.f0 ∧ x'.f1 = x.f1 := fun x hx => ⟨f x, (hmem _).2 ⟨x, hx, rfl⟩, hf.f0 x, hf.f1 x⟩
    refine ⟨by rw [hf.f1]; exact h1.kind, by rw [hf.f1, hf.f4]; exact h1.ticks, fun h4 => ?_, ?_, ?_⟩
    · rw [hf.f1] at h4
      rw [hf.f3, hf.nil]
      exact h1.waits h4
    · exact ((hf.ses _ _ x).1 h1.entry).mono (fun s hs => hp.mem_iff.2 hs) hin
    · exact ((hf.ses _ _ x).2 h1.exit).mono (fun s hs => hp.mem_iff.2 hs) hin
theorem Ok.norm_turn (h : Ok files r F) (ho : IsOrd ord) (hf : Turns f) (hn : ∀ x, nIt (f x) = nIt x) : turnT ordID nIt r (turnT ord f r F) = turnT ordID nIt r F := by
  have hr : f r = r := hf.root r h.plan.2.2.2.1 h.plan.2.2.2.2
  have hnr : nIt r = r := turns_n.root r h.plan.2.2.2.1 h.plan.2.2.2.2
  have h1 := pre_pre (id := S47.f0) (par := S47.f2) ho hf.f0 hf.f2 h.rooted (K := 20) (fun y hy n ha => by have := h.deep hy ha; omega) (ord' := ordID) (ord2 := ordID) (f' := nIt) (fun y hy => by
    rw [ordID_map hf.f0]
    congr 1
    refine ordID_perm ?_ (ho _)
    exact h.nodup.sublist (List.Sublist.map _ List.filter_sublist)) isOrd_ID (k := 20) (x := r) (d := 0) h.rooted.mem rfl
  rw [hr, turn_pre] at h1
  have e : (fun z => nIt (f z)) = nIt := by funext z; exact hn z
  rw [e] at h1
  rw [turn_pre, hr] at h1
  have h2 : nIt r :: turnT ordID nIt r (turnT ord f r F) = nIt r :: turnT ordID nIt r F := by
    rw [← turn_pre, ← turn_pre]; exact h1
  injection h2
end
end Go.Ab
namespace Go.Ab
open Sn
set_option linter.unusedVariables false
set_option linter.unusedSimpArgs false
theorem beq_pos {a b : List UInt8} (h : (a == b) = true) : a = b := by simpa using h
def hasS (l : List ByteArray) (s : ByteArray) : Bool := l.any fun x => x.toList == s.toList
theorem hasS_iff {l : List ByteArray} {s : ByteArray} : hasS l s = true ↔ s ∈ l := by
  unfold hasS
  rw [List.any_eq_true]
  exact ⟨fun ⟨x, hx, h⟩ => by rw [← bs_inj (beq_pos h)]; exact hx, fun h => ⟨s, h, by simp⟩⟩
theorem firstAt_ge {p : Nat → Bool} {n : Nat} : 0 ≤ firstAt p n ↔ ∃ i, i < n ∧ p i = true := by
  have h := firstAt_pos (p := p) (n := n)
  have h2 : (0 ≤ firstAt p n) ↔ ((List.range n).any p = true) := by rw [← h]; simp
  rw [h2, List.any_eq_true]
  simp
theorem firstAt_at {p : Nat → Bool} {n : Nat} (h : 0 ≤ firstAt p n) : ∃ i, i < n ∧ p i = true ∧ (∀ j, j < i → p j = false) ∧ firstAt p n = (i : Int) := by
  unfold firstAt at h ⊢
  cases hf : (List.range n).find? p with
  | none => rw [hf] at h; simp at h
  | some j =>
    have h1 := List.mem_range.1 (List.mem_of_find?_eq_some hf)
    refine ⟨j, h1, List.find?_some hf, fun i hi => ?_, rfl⟩
    cases hc : p i with
    | false => rfl
    | true =>
    exfalso
    obtain ⟨m, hm, hpm, hb⟩ : ∃ m, m ≤ i ∧ p m = true ∧ ∀ q, q < m → p q = false := by
      clear h hf h1 hi
      induction i using Nat.strongRecOn with
      | _ i ih =>
        by_cases hex : ∃ q, q < i ∧ p q = true
        · obtain ⟨q, hq, hpq⟩ := hex
          obtain ⟨m, hm, h3, h4⟩ := ih q hq hpq
          exact ⟨m, by omega, h3, h4⟩
        · exact ⟨i, Nat.le_refl _, hc, fun q hq => by
            cases hb : p q with
            | false => rfl
            | true => exact absurd ⟨q, hq, hb⟩ hex⟩
    have h3 := firstAt_hit (by omega : m < n) hpm hb
    unfold firstAt at h3
    rw [hf] at h3
    simp only at h3
    omega
instance (k e : Int) : Decidable (LegalP k e) := by unfold LegalP; infer_instance
end Go.Ab
namespace Go.Ab
open Sn
set_option linter.unusedVariables false
set_option linter.unusedSectionVars false
set_option linter.unusedSimpArgs false
theorem placeOf_lt {xs : List S47} {s : ByteArray} (h : 0 ≤ placeOf xs s) : ∃ i, i < xs.length ∧ (xs.getD i z47).f0 = s ∧ (∀ j, j < i → (xs.getD j z47).f0 ≠ s) ∧ placeOf xs s = (i : Int) := by
  obtain ⟨i, hi, hp, hb, e⟩ := firstAt_at h
  refine ⟨i, hi, bs_inj (beq_pos hp), fun j hj hc => ?_, e⟩
  have := hb j hj
  rw [hc] at this
  simp at this
theorem placeOf_rng (xs : List S47) (s : ByteArray) : placeOf xs s = -1 ∨ ∃ i, i < xs.length ∧ placeOf xs s = (i : Int) := by
  by_cases h : 0 ≤ placeOf xs s
  · obtain ⟨i, hi, _, _, e⟩ := placeOf_lt h
    exact .inr ⟨i, hi, e⟩
  · left
    unfold placeOf firstAt at h ⊢
    split
    · rename_i j hj
      rw [hj] at h
      simp at h
    · rfl
def onB (xs : List S47) (o : S78) : Bool := decide (0 ≤ placeOf xs o.f0) && decide (LegalP (xs.getD (placeOf xs o.f0).toNat z47).f1 o.f1)
def sameOn (a b : S78) : Bool := (a.f0.toList == b.f0.toList) && (a.f1 == b.f1)
theorem sameOn_iff {a b : S78} : sameOn a b = true ↔ a = b := by
  unfold sameOn
  rw [Bool.and_eq_true, beq_iff_eq, beq_iff_eq]
  exact ⟨fun ⟨h1, h2⟩ => by cases a; cases b; simp only at h1 h2; rw [bs_inj h1, h2], fun h => by subst h; exact ⟨rfl, rfl⟩⟩
def newB (l : List S78) (i : Nat) : Bool := allN i (fun j => !sameOn (l.getD j z78) (l.getD i z78))
def ifB (fs : List ByteArray) (c : S93) : Bool := hasS fs c.f0 && decide (0 ≤ firstAt (fun j => (opL.getD j ByteArray.empty).toList == c.f1.toList) opL.length) && decide (-1000000 ≤ c.f2) && decide (c.f2 ≤ 1000000)
def seB (fs : List ByteArray) (xs : List S47) (s : S29) : Bool := decide (s.f0.length ≤ 3) && decide (s.f1.length ≤ 2) && decide (0 < s.f0.length + s.f1.length) && (allN s.f0.length (fun i => onB xs (s.f0.getD i z78) && newB s.f0 i) && (allN s.f1.length (fun i => ifB fs (s.f1.getD i z93)) && true))
section
variable (fs : List ByteArray) (xs : List S47) (hf : fs.length ≤ 9223372036854775807) (hx : xs.length ≤ 9223372036854775807)
include hf hx
def sesB (fs : List ByteArray) (xs : List S47) (l : List S29) : Bool := allN l.length (fun i => seB fs xs (l.getD i z29)) && decide (l.length ≤ 3)
def wiB (xs : List S47) (s : ByteArray) : Nat → Int → Bool
  | 0, _ => false
  | n + 1, i => if i < 0 then false else if (xs.getD i.toNat z47).f0.toList = s.toList then true else wiB xs s n (placeOf xs (xs.getD i.toNat z47).f2)
def deI (xs : List S47) : Nat → Int → Nat → Int
  | 0, _, _ => -1
  | n + 1, i, j => if i > 0 then deI xs n (placeOf xs (xs.getD i.toNat z47).f2) (j + 1) else if i < 0 then -1 else (j : Int)
end
end Go.Ab
namespace Go.Ab
open Sn
set_option linter.unusedVariables false
set_option linter.unusedSimpArgs false
set_option linter.unusedSectionVars false
def ticksB (x : S47) : Bool := if x.f1 = 5 then decide (1 ≤ x.f4) && decide (x.f4 ≤ 100) else decide (x.f4 = 0)
def waitsB (x : S47) : Bool := decide (4 ≤ x.f1) && (x.f3 || decide (0 < x.f5.length))
def planB (x : S47) : Bool := decide (x.f1 = 1) && decide (x.f2.toList = []) && !x.f3 && decide (x.f5.length = 0) && decide (x.f6.length = 0)
def standB (xs : List S47) (i : Nat) : Bool :=
  !decide ((xs.getD i z47).f2.toList = []) && decide (0 ≤ placeOf xs (xs.getD i z47).f2) && decide (placeOf xs (xs.getD i z47).f2 < i) && decide ((xs.getD (placeOf xs (xs.getD i z47).f2).toNat z47).f1 = 1) &&
    wiB xs (xs.getD i z47).f2 (xs.length + 1) ((i : Int) - 1) && decide (1 ≤ deI xs (xs.length + 1) i 0) && decide (deI xs (xs.length + 1) i 0 ≤ 5)
def itB (xs : List S47) (i : Nat) : Bool :=
  nameIs (xs.getD i z47).f0 && decide (placeOf xs (xs.getD i z47).f0 = i) && decide (1 ≤ (xs.getD i z47).f1) && decide ((xs.getD i z47).f1 ≤ 5) && ticksB (xs.getD i z47) && !waitsB (xs.getD i z47) && (if i = 0 then planB (xs.getD i z47) else standB xs i)
section
variable (fs : List ByteArray) (xs : List S47) (hf : fs.length ≤ 9223372036854775807) (hx : xs.length ≤ 9223372036854775807)
include hf hx
def fileB (fs : List ByteArray) (i : Nat) : Bool := nameIs (fs.getD i ByteArray.empty) && !hasS (fs.take i) (fs.getD i ByteArray.empty)
def isB (fs : List ByteArray) (xs : List S47) : Bool := decide (fs.length ≤ 6) && decide (1 ≤ xs.length) && decide (xs.length ≤ 16) &&
  (allN fs.length (fileB fs) && (allN xs.length (itB xs) && (allN xs.length (fun i => sesB fs xs (xs.getD i z47).f5 && sesB fs xs (xs.getD i z47).f6) && true)))
omit hf hx in
end
end Go.Ab
namespace Go.Ab
open Sn
set_option linter.unusedVariables false
set_option linter.unusedSimpArgs false
set_option linter.unusedSectionVars false
theorem nodup_key {α κ : Type} {g : α → κ} {z : α} {l : List α} : (l.map g).Nodup ↔ ∀ i j, i < j → j < l.length → g (l.getD i z) ≠ g (l.getD j z) := by
  unfold List.Nodup
  rw [List.pairwise_map, List.pairwise_iff_getElem]
  constructor
  · intro h i j hij hj
    rw [getD_of (by omega), getD_of hj]
    exact h i j (by omega) hj hij
  · intro h i j hi hj hij
    have := h i j hij hj
    rwa [getD_of hi, getD_of hj] at this
theorem mem_getD {α : Type} {z x : α} {l : List α} (h : x ∈ l) : ∃ i, i < l.length ∧ l.getD i z = x := by
  obtain ⟨i, hi, rfl⟩ := List.getElem_of_mem h
  exact ⟨i, hi, getD_of hi⟩
section
variable {xs : List S47}
theorem place_at (hn : (xs.map S47.f0).Nodup) {i : Nat} (hi : i < xs.length) : placeOf xs (xs.getD i z47).f0 = (i : Int) := by
  unfold placeOf
  refine firstAt_hit hi (by simp) (fun j hj => ?_)
  have := (nodup_key (z := z47)).1 hn j i hj hi
  simp only [beq_eq_false_iff_ne]
  exact fun h => this (bs_inj h)
theorem place_mem (hn : (xs.map S47.f0).Nodup) {x : S47} (hx : x ∈ xs) : ∃ i, i < xs.length ∧ xs.getD i z47 = x ∧ placeOf xs x.f0 = (i : Int) := by
  obtain ⟨i, hi, rfl⟩ := mem_getD (z := z47) hx
  exact ⟨i, hi, rfl, place_at hn hi⟩
theorem place_none {s : ByteArray} (h : ∀ x ∈ xs, x.f0 ≠ s) : placeOf xs s = -1 := by
  rcases placeOf_rng xs s with e | ⟨i, hi, e⟩
  · exact e
  · obtain ⟨j, hj, e2, _, _⟩ := placeOf_lt (xs := xs) (s := s) (by omega)
    exact absurd e2 (h _ (getD_mem hj))
end
section
variable {l : List S47} {r : S47} (hR : Rooted S47.f0 S47.f2 l r)
include hR
theorem wi_chain (s : ByteArray) : ∀ {c : List S47}, Chain S47.f0 S47.f2 l r c → ∀ {x : S47} {st : List S47}, c = x :: st → ∀ n, st.length < n → wiB l s n (placeOf l x.f0) = decide (∃ z ∈ x :: st, z.f0 = s) := by
  intro c h
  induction h with
  | top =>
    intro x st e n hn
    injection e with e1 e2
    subst e1; subst e2
    obtain ⟨n, rfl⟩ : ∃ m, n = m + 1 := ⟨n - 1, by omega⟩
    obtain ⟨i, hi, e, ep⟩ := place_mem hR.nodup hR.mem
    unfold wiB
    rw [ep, if_neg (by omega), Int.toNat_natCast, e]
    by_cases h : r.f0 = s
    · rw [if_pos (by rw [h]), decide_eq_true ⟨r, by simp, h⟩]
    · rw [if_neg (fun h2 => h (bs_inj h2)), place_none hR.top]
      rw [decide_eq_false (by rintro ⟨z, hz, e3⟩; rw [List.mem_singleton.1 hz] at e3; exact h e3)]
      cases n with
      | zero => rfl
      | succ n => unfold wiB; rw [if_pos (by omega)]
  | step y p st hy e hc ih =>
    intro x st' e' n hn
    injection e' with e1 e2
    subst e1; subst e2
    obtain ⟨n, rfl⟩ : ∃ m, n = m + 1 := ⟨n - 1, by omega⟩
    obtain ⟨i, hi, e3, ep⟩ := place_mem hR.nodup hy
    unfold wiB
    rw [ep, if_neg (by omega), Int.toNat_natCast, e3]
    by_cases h : y.f0 = s
    · rw [if_pos (by rw [h]), decide_eq_true ⟨y, by simp, h⟩]
    · rw [if_neg (fun h2 => h (bs_inj h2)), e, ih rfl n (by simp only [List.length_cons] at hn; omega)]
      rw [Bool.eq_iff_iff, decide_eq_true_iff, decide_eq_true_iff]
      constructor
      · rintro ⟨z, hz, e4⟩; exact ⟨z, List.mem_cons_of_mem _ hz, e4⟩
      · rintro ⟨z, hz, e4⟩
        rcases List.mem_cons.1 hz with rfl | hz
        · exact absurd e4 h
        · exact ⟨z, hz, e4⟩
theorem de_chain (h0 : l.getD 0 z47 = r) (hl : 0 < l.length) : ∀ {c : List S47}, Chain S47.f0 S47.f2 l r c → ∀ {x : S47} {st : List S47}, c = x :: st → ∀ n j, st.length < n → deI l n (placeOf l x.f0) j = ((st.length + j : Nat) : Int) := by
  intro c h
  have p0 : placeOf l r.f0 = 0 := by
    have := place_at hR.nodup hl
    rwa [h0] at this
  induction h with
  | top =>
    intro x st e n j hn
    injection e with e1 e2
    subst e1; subst e2
    obtain ⟨n, rfl⟩ : ∃ m, n = m + 1 := ⟨n - 1, by omega⟩
    unfold deI
    rw [p0, if_neg (by omega), if_neg (by omega)]
    simp
  | step y p st hy e hc ih =>
    intro x st' e' n j hn
    injection e' with e1 e2
    subst e1; subst e2
    obtain ⟨n, rfl⟩ : ∃ m, n = m + 1 := ⟨n - 1, by omega⟩
    obtain ⟨i, hi, e3, ep⟩ := place_mem hR.nodup hy
    have hi0 : 0 < i := by
      rcases Nat.eq_zero_or_pos i with hz | hz
      · subst hz
        rw [h0] at e3
        subst e3
        exact absurd e.symm (hR.top p (hc.mem_all hR.mem p List.mem_cons_self))
      · exact hz
    unfold deI
    rw [ep, if_pos (by omega), Int.toNat_natCast, e3, e, ih rfl n (j + 1) (by simp only [List.length_cons] at hn; omega)]
    simp only [List.length_cons]
    omega
end
theorem popTo_some {q : ByteArray} : ∀ {st : List S47}, (∃ z ∈ st, z.f0 = q) → ∃ p ps, popTo S47.f0 q st = p :: ps ∧ p.f0 = q
  | [], h => by obtain ⟨z, hz, _⟩ := h; cases hz
  | x :: t, ⟨z, hz, e⟩ => by
    unfold popTo
    by_cases h : x.f0 = q
    · rw [if_pos h]; exact ⟨x, t, rfl, h⟩
    · rw [if_neg h]
      rcases List.mem_cons.1 hz with rfl | hz
      · exact absurd e h
      · exact popTo_some ⟨z, hz, e⟩
theorem popTo_sub {q : ByteArray} : ∀ {st : List S47} {p : S47} {ps : List S47}, popTo S47.f0 q st = p :: ps → p.f0 = q ∧ ∀ z ∈ p :: ps, z ∈ st
  | [], p, ps, h => by simp [popTo] at h
  | x :: t, p, ps, h => by
    unfold popTo at h
    split at h
    · injection h with h1 h2
      subst h1; subst h2
      exact ⟨‹_›, fun z hz => hz⟩
    · obtain ⟨h1, h2⟩ := popTo_sub h
      exact ⟨h1, fun z hz => List.mem_cons_of_mem _ (h2 z hz)⟩
section
variable {r : S47} {F : List S47} (hR : Rooted S47.f0 S47.f2 (r :: F) r) (hr2 : r.f2 = ByteArray.empty)
include hR hr2
theorem stand_one {i : Nat} (hi : i < (r :: F).length) (h1 : 1 ≤ i) {x : S47} {st : List S47} (hc : Chain S47.f0 S47.f2 (r :: F) r (x :: st)) (hx : placeOf (r :: F) x.f0 = (i : Int) - 1) (hb : ∀ z ∈ x :: st, placeOf (r :: F) z.f0 < i) :
    standB (r :: F) i = true ↔ ∃ p ps, popTo S47.f0 ((r :: F).getD i z47).f2 (x :: st) = p :: ps ∧ chkSt (p :: ps) = true := by
  have hy : (r :: F).getD i z47 ∈ r :: F := getD_mem hi
  have hpy := place_at hR.nodup hi
  unfold standB
  generalize (r :: F).getD i z47 = y at hy hpy ⊢
  have hdepth : ∀ {c : List S47} {w : S47}, Chain S47.f0 S47.f2 (r :: F) r (w :: c) → c.length < (r :: F).length + 1 := fun hcw => by
    have := hR.depth (hcw.mem_all hR.mem _ List.mem_cons_self) (hcw.anc hR.mem rfl)
    omega
  have hw : wiB (r :: F) y.f2 ((r :: F).length + 1) ((i : Int) - 1) = decide (∃ z ∈ x :: st, z.f0 = y.f2) := by
    rw [← hx]; exact wi_chain hR y.f2 hc rfl _ (hdepth hc)
  have hde : ∀ {p : S47} {ps : List S47}, Chain S47.f0 S47.f2 (r :: F) r (p :: ps) → p.f0 = y.f2 → deI (r :: F) ((r :: F).length + 1) (i : Int) 0 = (((p :: ps).length : Nat) : Int) := fun {p ps} hcp e => by
    have h2 : Chain S47.f0 S47.f2 (r :: F) r (y :: p :: ps) := .step y p ps hy e.symm hcp
    have := de_chain hR rfl (by simp) h2 rfl ((r :: F).length + 1) 0 (hdepth h2)
    rw [hpy] at this
    exact this
  constructor
  · intro h
    simp only [Bool.and_eq_true, decide_eq_true_eq] at h
    obtain ⟨⟨⟨⟨⟨⟨h1, h2⟩, h3⟩, h4⟩, h5⟩, h6⟩, h7⟩ := h
    rw [hw, decide_eq_true_eq] at h5
    obtain ⟨p, ps, e, ep⟩ := popTo_some h5
    obtain ⟨hcp, _⟩ := popTo_chain hc e
    refine ⟨p, ps, e, ?_⟩
    unfold chkSt
    rw [hde hcp ep] at h7
    obtain ⟨a, ha, ea, ep2⟩ := place_mem hR.nodup (hcp.mem_all hR.mem p List.mem_cons_self)
    rw [← ep, ep2, Int.toNat_natCast, ea] at h4
    simp only [Bool.and_eq_true, decide_eq_true_eq]
    exact ⟨by omega, h4⟩
  · rintro ⟨p, ps, e, hk⟩
    obtain ⟨hcp, ep⟩ := popTo_chain hc e
    obtain ⟨_, hsub⟩ := popTo_sub e
    have hpl := hcp.mem_all hR.mem p List.mem_cons_self
    obtain ⟨a, ha, ea, ep2⟩ := place_mem hR.nodup hpl
    have hne : ¬ y.f2.toList = [] := fun h0 => by
      refine hR.top p hpl ?_
      rw [hr2, ep]
      exact bs_inj (h0.trans (by rw [ByteArray.toList_eq]; rfl))
    unfold chkSt at hk
    simp only [Bool.and_eq_true, decide_eq_true_eq] at hk
    have hap := hb p (hsub p List.mem_cons_self)
    rw [hde hcp ep, hw, ← ep, ep2, Int.toNat_natCast, ea]
    rw [ep2] at hap
    rw [ep]
    simp only [Bool.and_eq_true, decide_eq_true_eq, Bool.not_eq_true', decide_eq_false_iff_not]
    exact ⟨⟨⟨⟨⟨⟨hne, by omega⟩, hap⟩, hk.2⟩, ⟨p, hsub p List.mem_cons_self, ep⟩⟩, by simp only [List.length_cons]; omega⟩, by have := hk.1; omega⟩
theorem stand_all : ∀ (T : List S47) (i : Nat) (x : S47) (st : List S47), (r :: F).drop i = T → 1 ≤ i → Chain S47.f0 S47.f2 (r :: F) r (x :: st) → placeOf (r :: F) x.f0 = (i : Int) - 1 → (∀ z ∈ x :: st, placeOf (r :: F) z.f0 < i) →
    (standsB S47.f0 S47.f2 chkSt (x :: st) T = true ↔ ∀ j, i ≤ j → j < (r :: F).length → standB (r :: F) j = true)
  | [], i, x, st, hT, h1, hc, hx, hb => by
    have hl : (r :: F).length ≤ i := by
      have := congrArg List.length hT
      rw [List.length_drop] at this
      simp only [List.length_nil] at this
      omega
    exact ⟨fun _ j h2 h3 => by omega, fun _ => rfl⟩
  | y :: T, i, x, st, hT, h1, hc, hx, hb => by
    have hi : i < (r :: F).length := by
      have := congrArg List.length hT
      simp only [List.length_drop, List.length_cons] at this ⊢
      omega
    have hy : (r :: F).getD i z47 = y := by
      rw [getD_of hi]
      have := congrArg List.head? hT
      rw [List.head?_drop, List.getElem?_eq_getElem hi] at this
      simpa using this
    have hT2 : (r :: F).drop (i + 1) = T := by
      have := congrArg List.tail hT
      rwa [List.tail_drop] at this
    have hone := stand_one hR hr2 hi h1 hc hx hb
    rw [hy] at hone
    have hpy : placeOf (r :: F) y.f0 = (i : Int) := by rw [← hy]; exact place_at hR.nodup hi
    have hyl : y ∈ r :: F := by rw [← hy]; exact getD_mem hi
    unfold standsB
    cases hp : popTo S47.f0 y.f2 (x :: st) with
    | nil =>
      simp only
      refine ⟨fun h => (by cases h), fun h => ?_⟩
      obtain ⟨p, ps, e, _⟩ := hone.1 (h i (Nat.le_refl _) hi)
      rw [hp] at e; cases e
    | cons p ps =>
      simp only
      obtain ⟨hcp, ep⟩ := popTo_chain hc hp
      obtain ⟨_, hsub⟩ := popTo_sub hp
      have hc2 : Chain S47.f0 S47.f2 (r :: F) r (y :: p :: ps) := .step y p ps hyl ep.symm hcp
      have ih := stand_all T (i + 1) y (p :: ps) hT2 (by omega) hc2 (by rw [hpy]; omega) (fun z hz => by
        rcases List.mem_cons.1 hz with rfl | hz
        · rw [hpy]; omega
        · have := hb z (hsub z hz); omega)
      rw [Bool.and_eq_true, ih]
      constructor
      · rintro ⟨hk, hall⟩ j h2 h3
        rcases Nat.lt_or_ge i j with h4 | h4
        · exact hall j h4 h3
        · obtain rfl : j = i := by omega
          exact hone.2 ⟨p, ps, hp, hk⟩
      · intro hall
        refine ⟨?_, fun j h2 h3 => hall j (by omega) h3⟩
        obtain ⟨p', ps', e, hk⟩ := hone.1 (hall i (Nat.le_refl _) hi)
        rw [hp] at e
        injection e with e1 e2
        subst e1; subst e2
        exact hk
theorem stands_iff : standsB S47.f0 S47.f2 chkSt [r] F = true ↔ ∀ j, 1 ≤ j → j < (r :: F).length → standB (r :: F) j = true := by
  have p0 : placeOf (r :: F) r.f0 = 0 := by
    have := place_at hR.nodup (i := 0) (by simp)
    exact this
  exact stand_all hR hr2 F 1 r [] rfl (Nat.le_refl _) .top (by rw [p0]; omega) (fun z hz => by rw [List.mem_singleton.1 hz, p0]; omega)
end
theorem new_nodup {l : List S78} : (∀ i, i < l.length → newB l i = true) ↔ l.Nodup := by
  have h := nodup_key (g := fun x : S78 => x) (z := z78) (l := l)
  rw [List.map_id'] at h
  rw [h]
  constructor
  · intro h1 i j hij hj e
    have := (allN_iff.1 (h1 j hj)) i hij
    rw [e] at this
    have h2 : sameOn (l.getD j z78) (l.getD j z78) = true := sameOn_iff.2 rfl
    rw [h2] at this; cases this
  · intro h1 j hj
    refine allN_iff.2 (fun i hi => ?_)
    cases hs : sameOn (l.getD i z78) (l.getD j z78) with
    | false => rfl
    | true => exact absurd (sameOn_iff.1 hs) (h1 i j hi hj)
theorem file_nodup {l : List ByteArray} : (∀ i, i < l.length → fileB l i = true) ↔ (∀ s ∈ l, nameIs s = true) ∧ l.Nodup := by
  have h := nodup_key (g := fun x : ByteArray => x) (z := ByteArray.empty) (l := l)
  rw [List.map_id'] at h
  rw [h]
  unfold fileB
  constructor
  · intro h1
    refine ⟨fun s hs => ?_, fun i j hij hj e => ?_⟩
    · obtain ⟨i, hi, rfl⟩ := mem_getD (z := ByteArray.empty) hs
      have := h1 i hi
      rw [Bool.and_eq_true] at this
      exact this.1
    · have := h1 j hj
      rw [Bool.and_eq_true, Bool.not_eq_true'] at this
      have h2 : hasS (l.take j) (l.getD j ByteArray.empty) = true := by
        rw [hasS_iff, ← e, getD_of (by omega)]
        rw [List.mem_take_iff_getElem]
        exact ⟨i, by omega, rfl⟩
      rw [h2] at this
      exact absurd this.2 (by decide)
  · rintro ⟨h1, h2⟩ i hi
    rw [h1 _ (getD_mem hi), Bool.true_and, Bool.not_eq_true']
    rw [← Bool.not_eq_true, hasS_iff, List.mem_take_iff_getElem]
    rintro ⟨j, hj, e⟩
    refine h2 j i (by omega) hi ?_
    rw [getD_of (by omega), getD_of hi]
    rw [getD_of hi] at e
    exact e
section
variable {fs : List ByteArray} {xs : List S47} (hn : (xs.map S47.f0).Nodup)
include hn
theorem on_iff {o : S78} : onB xs o = true ↔ OkOn xs o := by
  unfold onB OkOn
  rw [Bool.and_eq_true, decide_eq_true_eq, decide_eq_true_eq]
  constructor
  · rintro ⟨h1, h2⟩
    obtain ⟨i, hi, e, _, ep⟩ := placeOf_lt h1
    rw [ep, Int.toNat_natCast] at h2
    exact ⟨_, getD_mem hi, e, h2⟩
  · rintro ⟨x, hx, e, hl⟩
    obtain ⟨i, hi, e2, ep⟩ := place_mem hn hx
    rw [← e, ep, Int.toNat_natCast, e2]
    exact ⟨by omega, hl⟩
omit hn in
theorem if_iff {c : S93} : ifB fs c = true ↔ OkIf fs c := by
  unfold ifB OkIf
  rw [Bool.and_eq_true, Bool.and_eq_true, Bool.and_eq_true, hasS_iff, decide_eq_true_eq, decide_eq_true_eq, decide_eq_true_eq, firstAt_ge, and_assoc, and_assoc]
  refine and_congr Iff.rfl (and_congr ?_ Iff.rfl)
  constructor
  · rintro ⟨i, hi, h⟩
    rw [← bs_inj (beq_pos h)]
    exact getD_mem hi
  · intro h
    obtain ⟨i, hi, e⟩ := mem_getD (z := ByteArray.empty) h
    exact ⟨i, hi, by rw [e]; simp⟩
theorem se_iff {s : S29} : seB fs xs s = true ↔ OkSe fs xs s := by
  unfold seB
  simp only [Bool.and_eq_true, decide_eq_true_eq, allN_iff, Bool.and_true]
  constructor
  · rintro ⟨⟨⟨h1, h2⟩, h3⟩, h4, h5⟩
    refine ⟨h1, h2, h3, fun o ho => ?_, new_nodup.1 (fun i hi => (h4 i hi).2), fun c hc => ?_⟩
    · obtain ⟨i, hi, rfl⟩ := mem_getD (z := z78) ho
      exact (on_iff hn).1 (h4 i hi).1
    · obtain ⟨i, hi, rfl⟩ := mem_getD (z := z93) hc
      exact if_iff.1 (h5 i hi)
  · intro h
    exact ⟨⟨⟨h.on3, h.if2⟩, h.some1⟩, fun i hi => ⟨(on_iff hn).2 (h.on _ (getD_mem hi)), new_nodup.2 h.onN i hi⟩, fun i hi => if_iff.2 (h.cond _ (getD_mem hi))⟩
theorem ses_iff {l : List S29} : sesB fs xs l = true ↔ OkSes fs xs l := by
  unfold sesB OkSes
  rw [Bool.and_eq_true, decide_eq_true_eq, allN_iff]
  constructor
  · rintro ⟨h1, h2⟩
    refine ⟨h2, fun s hs => ?_⟩
    obtain ⟨i, hi, rfl⟩ := mem_getD (z := z29) hs
    exact (se_iff hn).1 (h1 i hi)
  · rintro ⟨h1, h2⟩
    exact ⟨fun i hi => (se_iff hn).2 (h2 _ (getD_mem hi)), h1⟩
end
theorem empty_iff {s : ByteArray} : s.toList = [] ↔ s = ByteArray.empty :=
  ⟨fun h => bs_inj (h.trans (by rw [ByteArray.toList_eq]; rfl)), fun h => by rw [h, ByteArray.toList_eq]; rfl⟩
theorem plan_iff {r : S47} : planB r = true ↔ Plan r := by
  unfold planB Plan
  simp only [Bool.and_eq_true, decide_eq_true_eq, Bool.not_eq_true', List.length_eq_zero_iff, empty_iff, and_assoc]
theorem waits_iff {x : S47} : waitsB x = false ↔ (4 ≤ x.f1 → x.f3 = false ∧ x.f5 = []) := by
  unfold waitsB
  rw [← Bool.not_eq_true, Bool.and_eq_true, decide_eq_true_eq, Bool.or_eq_true, decide_eq_true_eq]
  constructor
  · intro h h4
    refine ⟨?_, ?_⟩
    · rw [← Bool.not_eq_true]; exact fun h3 => h ⟨h4, .inl h3⟩
    · refine List.eq_nil_of_length_eq_zero ?_
      rcases Nat.eq_zero_or_pos x.f5.length with h0 | h0
      · exact h0
      · exact absurd ⟨h4, .inr h0⟩ h
  · rintro h ⟨h4, h5⟩
    obtain ⟨h1, h2⟩ := h h4
    rw [h1, h2] at h5
    rcases h5 with h5 | h5
    · cases h5
    · simp at h5
theorem ticks_iff {x : S47} : ticksB x = true ↔ (if x.f1 = 5 then 1 ≤ x.f4 ∧ x.f4 ≤ 100 else x.f4 = 0) := by
  unfold ticksB
  split
  · rw [Bool.and_eq_true, decide_eq_true_eq, decide_eq_true_eq]
  · rw [decide_eq_true_eq]
theorem isB_iff {fs : List ByteArray} {xs : List S47} : isB fs xs = true ↔ OkM fs xs := by
  unfold isB
  simp only [Bool.and_eq_true, decide_eq_true_eq, allN_iff, Bool.and_true]
  constructor
  · rintro ⟨⟨⟨h6, h1⟩, h16⟩, hfile, hit, hse⟩
    obtain ⟨r, F, rfl⟩ : ∃ r F, xs = r :: F := by
      cases xs with
      | nil => simp at h1
      | cons r F => exact ⟨r, F, rfl⟩
    have hall : ∀ i, i < (r :: F).length → nameIs ((r :: F).getD i z47).f0 = true ∧ placeOf (r :: F) ((r :: F).getD i z47).f0 = i ∧ 1 ≤ ((r :: F).getD i z47).f1 ∧ ((r :: F).getD i z47).f1 ≤ 5 ∧ ticksB ((r :: F).getD i z47) = true ∧ waitsB ((r :: F).getD i z47) = false ∧ (if i = 0 then planB ((r :: F).getD i z47) else standB (r :: F) i) = true := by
      intro i hi
      have h := hit i hi
      unfold itB at h
      simp only [Bool.and_eq_true, decide_eq_true_eq, Bool.not_eq_true'] at h
      obtain ⟨⟨⟨⟨⟨⟨a, b⟩, c⟩, d⟩, e⟩, f⟩, g⟩ := h
      exact ⟨a, b, c, d, e, f, g⟩
    have hn : ((r :: F).map S47.f0).Nodup := by
      rw [nodup_key (z := z47)]
      intro i j hij hj e
      have h1 := (hall j hj).2.1
      have h2 := (hall i (by omega)).2.1
      rw [e, h1] at h2
      omega
    obtain ⟨hnm, hfn⟩ := file_nodup.1 hfile
    have hplan : Plan r := plan_iff.1 (hall 0 (by simp)).2.2.2.2.2.2
    have hnames : ∀ x ∈ r :: F, nameIs x.f0 = true := fun x hx => by
      obtain ⟨i, hi, rfl⟩ := mem_getD (z := z47) hx
      exact (hall i hi).1
    have hR : Rooted S47.f0 S47.f2 (r :: F) r := ⟨hn, List.mem_cons_self, fun p hp e => by
      have := hnames p hp
      rw [e, hplan.2.1, nameIs_empty] at this
      cases this⟩
    refine ⟨r, F, rfl, h6, hnm, hfn, by simp only [List.length_cons] at h16; omega, hnames, hn, hplan, (stands_iff hR hplan.2.1).2 (fun j h1 hj => ?_), fun x hx => ?_⟩
    · have := (hall j hj).2.2.2.2.2.2
      rwa [if_neg (by omega)] at this
    · obtain ⟨i, hi, rfl⟩ := mem_getD (z := z47) hx
      obtain ⟨_, _, c, d, e, f, _⟩ := hall i hi
      have h5 := hse i hi
      exact ⟨⟨c, d⟩, ticks_iff.1 e, waits_iff.1 f, (ses_iff hn).1 h5.1, (ses_iff hn).1 h5.2⟩
  · rintro ⟨r, F, rfl, h⟩
    have hR := h.rooted
    refine ⟨⟨⟨h.files6, by simp⟩, by simp only [List.length_cons]; have := h.n16; omega⟩, file_nodup.2 ⟨h.fnames, h.fnodup⟩, fun i hi => ?_, fun i hi => ?_⟩
    · have hm := getD_mem (z := z47) hi
      have h1 := h.items _ hm
      unfold itB
      simp only [Bool.and_eq_true, decide_eq_true_eq, Bool.not_eq_true']
      refine ⟨⟨⟨⟨⟨⟨h.names _ hm, place_at h.nodup hi⟩, h1.kind.1⟩, h1.kind.2⟩, ticks_iff.2 h1.ticks⟩, waits_iff.2 h1.waits⟩, ?_⟩
      by_cases h0 : i = 0
      · rw [if_pos h0]
        subst h0
        exact plan_iff.2 h.plan
      · rw [if_neg h0]
        exact (stands_iff hR h.plan.2.1).1 h.stands i (by omega) hi
    · have h1 := h.items _ (getD_mem (z := z47) hi)
      exact ⟨(ses_iff h.nodup).2 h1.entry, (ses_iff h.nodup).2 h1.exit⟩
end Go.Ab
namespace Go.Ab
open Sn
set_option linter.unusedVariables false
set_option linter.unusedSimpArgs false
set_option linter.unusedSectionVars false
section
variable {α : Type} {eq : α → α → Bool} (he : ∀ x y, eq x y = true ↔ x = y) {c : α → α → Int} (hc : IsCmp c)
include he hc
theorem compactFrom_strict : ∀ (l : List α) (x : α), Rises c (x :: l) → Strict c (compactFrom eq x l) ∧ ∀ a, a ∈ compactFrom eq x l ↔ a ∈ x :: l
  | [], x, _ => ⟨by simp [compactFrom, Strict], fun a => by simp [compactFrom]⟩
  | y :: r, x, h => by
    unfold Rises at h
    rw [List.pairwise_cons] at h
    unfold compactFrom
    cases e : eq y x with
    | true =>
      have e2 := (he y x).1 e
      subst e2
      simp only [if_true]
      obtain ⟨h3, h4⟩ := compactFrom_strict r y h.2
      refine ⟨h3, fun a => ?_⟩
      rw [h4]
      simp
    | false =>
      simp only [Bool.false_eq_true, if_false]
      obtain ⟨h3, h4⟩ := compactFrom_strict r y h.2
      refine ⟨?_, fun a => by rw [List.mem_cons, h4, List.mem_cons (b := x)]⟩
      have hxy : c x y = -1 := by
        rcases hc.rng x y with h5 | h5 | h5
        · exact h5
        · exact absurd ((he y x).2 ((hc.eq0 x y).1 h5).symm) (by rw [e]; decide)
        · exact absurd h5 (h.1 y List.mem_cons_self)
      unfold Strict at h3 ⊢
      rw [List.pairwise_cons]
      refine ⟨fun a ha => ?_, h3⟩
      rw [h4] at ha
      have hy := h.2
      rw [List.pairwise_cons] at hy
      rcases List.mem_cons.1 ha with rfl | ha
      · exact hxy
      · rcases hc.rng y a with h6 | h6 | h6
        · exact hc.tr _ _ _ hxy h6
        · rw [← (hc.eq0 _ _).1 h6]; exact hxy
        · exact absurd h6 (hy.1 a ha)
theorem compactL_sortD (l : List α) : compactL eq (sortL c l) = sortD c l := by
  have hr := sortL_rises hc l
  have hm : ∀ a, a ∈ sortL c l ↔ a ∈ l := fun a => (sortL_perm l).mem_iff
  cases e : sortL c l with
  | nil =>
    rw [e] at hm
    refine (sortD_eq_nil hc).2 ?_ |>.symm
    rw [List.eq_nil_iff_forall_not_mem]
    exact fun a ha => by have := (hm a).2 ha; cases this
  | cons x r =>
    rw [e] at hr hm
    obtain ⟨h1, h2⟩ := compactFrom_strict he hc r x hr
    refine strict_eq hc h1 (sortD_strict hc l) (fun a => ?_)
    show a ∈ compactFrom eq x r ↔ _
    rw [h2, hm, mem_sortD hc]
end
def Small (l : List S29) : Prop := l.length ≤ 3 ∧ ∀ s ∈ l, s.f0.length ≤ 3 ∧ s.f1.length ≤ 2
theorem OkSes.small {fs : List ByteArray} {xs : List S47} {l : List S29} (h : OkSes fs xs l) : Small l := ⟨h.1, fun s hs => ⟨(h.2 s hs).on3, (h.2 s hs).if2⟩⟩
def kidsI (xs : List S47) (s : ByteArray) : List Int := ((List.range xs.length).filter fun j => (xs.getD j z47).f2.toList == s.toList).map Int.ofNat
theorem kidsI_mem {xs : List S47} {s : ByteArray} {a : Int} (h : a ∈ kidsI xs s) : ∃ j : Nat, a = j ∧ j < xs.length ∧ (xs.getD j z47).f2 = s := by
  obtain ⟨j, hj, rfl⟩ := List.mem_map.1 h
  rw [List.mem_filter, List.mem_range] at hj
  exact ⟨j, rfl, hj.1, bs_inj (beq_pos hj.2)⟩
theorem kidsI_items {xs : List S47} {s : ByteArray} : (kidsI xs s).map (rd_T47 xs) = kidsOf S47.f2 xs s := by
  unfold kidsI kidsOf
  rw [List.map_map]
  have h1 : (rd_T47 xs ∘ Int.ofNat) = fun j => xs.getD j z47 := by funext j; rfl
  rw [h1]
  have h2 : xs = (List.range xs.length).map fun j => xs.getD j z47 := by
    apply List.ext_getElem
    · simp
    · intro i h1 h2
      rw [List.getElem_map, List.getElem_range, getD_of h1]
  conv => rhs; rw [h2]
  rw [List.filter_map]
  congr 1
  refine List.filter_congr (fun j hj => ?_)
  simp only [Function.comp]
  rw [Bool.eq_iff_iff, beq_iff_eq, decide_eq_true_iff]
  exact ⟨bs_inj, fun h => by rw [h]⟩
section
variable {I κ : Type} [DecidableEq κ] {id par : I → κ} {l : List I} {ord : List I → List I} {f : I → I}
theorem pre_more (ho : IsOrd ord) : ∀ (k : Nat) (x : I), x ∈ l → (∀ y n, y ∈ l → Anc id par l x y n → n < k) → pre id par ord f l (k + 1) x = pre id par ord f l k x
  | 0, x, hx, h => by have := h x 0 hx rfl; omega
  | k + 1, x, hx, h => by
    show f x :: _ = f x :: _
    congr 1
    refine flatMap_congr' (fun c hc => ?_)
    rw [mem_ord ho, mem_kidsOf] at hc
    refine pre_more ho k c hc.1 (fun y n hy ha => ?_)
    have := h y (n + 1) hy (ha.trans (n := 1) ⟨x, hx, hc.2.symm, rfl⟩)
    omega
theorem pre_more' (ho : IsOrd ord) {k : Nat} {x : I} (hx : x ∈ l) (h : ∀ y n, y ∈ l → Anc id par l x y n → n < k) : ∀ j, pre id par ord f l (k + j) x = pre id par ord f l k x
  | 0 => rfl
  | j + 1 => by
    rw [← Nat.add_assoc, pre_more ho (k + j) x hx (fun y n hy ha => by have := h y n hy ha; omega)]
    exact pre_more' ho hx h j
end
section
variable {fs : List ByteArray} {r : S47} {F : List S47} (h : Ok fs r F)
include h
theorem pre_len {ord : List S47 → List S47} (ho : IsOrd ord) {f : S47 → S47} (hf : ∀ x, (f x).f0 = x.f0) (n : Nat) {x : S47} (hx : x ∈ r :: F) : (pre S47.f0 S47.f2 ord f (r :: F) n x).length ≤ (r :: F).length := by
  obtain ⟨d, _, ha⟩ := h.reach x hx
  have h1 := pre_nodup (f := f) ho hf h.rooted (k := n) hx ha
  have h2 : ((pre S47.f0 S47.f2 ord f (r :: F) n x).map S47.f0).length ≤ ((r :: F).map S47.f0).length := by
    refine h1.length_le_of_subset (fun s hs => ?_)
    obtain ⟨z, hz, rfl⟩ := List.mem_map.1 hs
    obtain ⟨y, m, rfl, hy, _, _⟩ := (mem_pre ho hx).1 hz
    rw [hf]
    exact List.mem_map_of_mem hy
  simpa using h2
theorem sortI_items (s : ByteArray) : (sortL (cmpAt (r :: F)) (kidsI (r :: F) s)).map (rd_T47 (r :: F)) = ordID (kidsOf S47.f2 (r :: F) s) := by
  have h1 := sortL_map (c := cmpID) (key := rd_T47 (r :: F)) (kidsI (r :: F) s)
  rw [kidsI_items] at h1
  exact h1
end
end Go.Ab
namespace Go.Ab
open Sn
set_option linter.unusedVariables false
set_option linter.unusedSimpArgs false
set_option linter.unusedSectionVars false
def idx (l : List ByteArray) (s : ByteArray) : Int := firstAt (fun j => s.toList == (l.getD j ByteArray.empty).toList) l.length
theorem idx_ge {l : List ByteArray} {s : ByteArray} : 0 ≤ idx l s ↔ s ∈ l := by
  unfold idx
  rw [firstAt_ge]
  constructor
  · rintro ⟨i, hi, h⟩
    rw [bs_inj (beq_pos h)]
    exact getD_mem hi
  · intro h
    obtain ⟨i, hi, e⟩ := mem_getD (z := ByteArray.empty) h
    exact ⟨i, hi, by rw [e]; simp⟩
section
variable (fs : List ByteArray) (xs : List S47) (hf : fs.length ≤ 9223372036854775807) (hx : xs.length ≤ 9223372036854775807)
include hf hx
omit hf hx in
omit hf hx in
theorem new_any {l : List S78} {i : Nat} (hi : i < l.length) : ((l.take i).any fun x => sameOn (l.getD i z78) x) = !newB l i := by
  rw [Bool.eq_iff_iff, List.any_eq_true, Bool.not_eq_true', ← Bool.not_eq_true]
  unfold newB
  rw [allN_iff]
  constructor
  · rintro ⟨x, hx, h⟩ hall
    obtain ⟨j, hj, e⟩ := List.mem_take_iff_getElem.1 hx
    have h2 := hall j (by omega)
    rw [getD_of (show j < l.length by omega), e, (sameOn_iff.1 h)] at h2
    rw [(sameOn_iff (a := x) (b := x)).2 rfl] at h2
    cases h2
  · intro hn
    rcases Classical.em (∃ x ∈ l.take i, sameOn (l.getD i z78) x = true) with h | h
    · exact h
    · refine absurd (fun j hj => ?_) hn
      cases hs : sameOn (l.getD j z78) (l.getD i z78) with
      | false => rfl
      | true =>
        refine absurd ⟨l.getD j z78, ?_, ?_⟩ h
        · rw [List.mem_take_iff_getElem]
          exact ⟨j, by omega, by rw [getD_of]⟩
        · rw [sameOn_iff.1 hs]; exact sameOn_iff.2 rfl
omit hf hx in
end
end Go.Ab
namespace Go.Ab
open Sn
set_option linter.unusedVariables false
set_option linter.unusedSimpArgs false
set_option linter.unusedSectionVars false
def mB (fs : List ByteArray) (xs : List S47) (x : S47) : Bool := decide (1 ≤ x.f1) && decide (x.f1 ≤ 5) && sesB fs xs x.f5 && sesB fs xs x.f6 && ticksB x && !waitsB x
section
variable (fs : List ByteArray) (xs : List S47) (hf : fs.length ≤ 9223372036854775807) (hx : xs.length ≤ 9223372036854775807)
include hf hx
end
theorem idx_hit {l : List ByteArray} {s : ByteArray} {i : Nat} (hi : i < l.length) (h : l.getD i ByteArray.empty = s) (hb : ∀ j, j < i → l.getD j ByteArray.empty ≠ s) : idx l s = (i : Int) :=
  firstAt_hit hi (by rw [h]; simp) (fun j hj => by
    rw [beq_eq_false_iff_ne]
    exact fun h2 => hb j hj (bs_inj h2).symm)
theorem idx_miss {l : List ByteArray} {s : ByteArray} (h : s ∉ l) : idx l s = -1 := by
  have h2 : ¬ 0 ≤ idx l s := fun h3 => h ((idx_ge (l := l) (s := s)).1 h3)
  unfold idx firstAt at h2 ⊢
  split
  · rename_i j hj
    rw [hj] at h2
    simp at h2
  · rfl
theorem idx_app {l : List ByteArray} {s y : ByteArray} (h : s ∈ l) : idx (l ++ [y]) s = idx l s := by
  have h1 := idx_ge.2 h
  obtain ⟨i, hi, hp, hb, e⟩ := firstAt_at h1
  rw [show idx l s = (i : Int) from e]
  refine idx_hit (by rw [List.length_append]; omega) ?_ (fun j hj => ?_)
  · rw [List.getD_eq_getElem?_getD, List.getElem?_append_left hi, ← List.getD_eq_getElem?_getD]
    exact (bs_inj (beq_pos hp)).symm
  · rw [List.getD_eq_getElem?_getD, List.getElem?_append_left (by omega), ← List.getD_eq_getElem?_getD]
    intro h2
    have := hb j hj
    rw [h2] at this
    simp at this
theorem cut_pop {q : ByteArray} : ∀ {st : List S47}, (st.map S47.f0).Nodup → ((st.map S47.f0).reverse).take (idx (st.map S47.f0).reverse q + 1).toNat = ((popTo S47.f0 q st).map S47.f0).reverse
  | [], _ => rfl
  | x :: t, hn => by
    rw [List.map_cons, List.nodup_cons] at hn
    rw [List.map_cons, List.reverse_cons]
    unfold popTo
    by_cases h : x.f0 = q
    · rw [if_pos h]
      have hq : q ∉ t.map S47.f0 := by rw [← h]; exact hn.1
      have e : idx ((t.map S47.f0).reverse ++ [x.f0]) q = (((t.map S47.f0).reverse.length : Nat) : Int) := by
        refine idx_hit (by simp) (by rw [List.getD_eq_getElem?_getD]; simp [h]) (fun j hj hc => ?_)
        rw [List.getD_eq_getElem?_getD, List.getElem?_append_left hj, ← List.getD_eq_getElem?_getD] at hc
        exact hq (List.mem_reverse.1 (by rw [← hc]; exact getD_mem hj))
      rw [e, show ((((t.map S47.f0).reverse.length : Nat) : Int) + 1).toNat = (t.map S47.f0).reverse.length + 1 by omega, List.take_of_length_le (by simp), List.map_cons, List.reverse_cons]
    · rw [if_neg h]
      have ih := cut_pop (q := q) hn.2
      by_cases hq : q ∈ (t.map S47.f0).reverse
      · rw [idx_app hq, ← ih]
        have h1 := idx_ge.2 hq
        obtain ⟨i, hi, _, _, e⟩ := firstAt_at h1
        rw [show idx (t.map S47.f0).reverse q = (i : Int) from e]
        rw [List.take_append_of_le_length (by omega)]
      · rw [idx_miss hq] at ih
        rw [idx_miss (by simp only [List.mem_append, List.mem_singleton, not_or]; exact ⟨hq, fun h2 => h h2.symm⟩), ← ih]
        rfl
theorem popTo_sublist {q : ByteArray} : ∀ {st : List S47} {p : S47} {ps : List S47}, popTo S47.f0 q st = p :: ps → (p :: ps).Sublist st
  | [], p, ps, h => by simp [popTo] at h
  | x :: t, p, ps, h => by
    unfold popTo at h
    split at h
    · rw [h]; exact List.Sublist.refl _
    · exact (popTo_sublist h).cons x
end Go.Ab
namespace Go.Ab
open Sn
set_option linter.unusedVariables false
set_option linter.unusedSimpArgs false
theorem Ok.norm_norm {fs : List ByteArray} {r : S47} {F : List S47} (h : Ok fs r F) : turnT ordID nIt r (turnT ordID nIt r F) = turnT ordID nIt r F := h.norm_turn isOrd_ID turns_n nIt_nIt
end Go.Ab
namespace Go.Ab
open Sn
set_option linter.unusedVariables false
set_option linter.unusedSimpArgs false
set_option linter.unusedSectionVars false
section
variable {fs : List ByteArray} {r : S47} {F : List S47} (h : Ok fs r F)
include h
end
end Go.Ab
