/- Proof texts of one seat, in one file: an evaluator of the program's form, shown sound, and the functions told by it. There are no conditions but those that each theorem names. -/
import Derived.Test.YtpbembafpnknhaaGreatAb0
import Derived.Test.YtpbembafpnknhaaGreatAb1
import Derived.Test.YtpbembafpnknhaaGreatAb2
import Derived.Test.YtpbembafpnknhaaGreatAb3
import Derived.Test.YtpbembafpnknhaaGreatAb4
set_option linter.unusedVariables false
set_option linter.unusedSimpArgs false
set_option linter.unusedSectionVars false
set_option linter.unnecessarySimpa false
namespace Go.Ab
open Go.Proofs Sn
set_option maxRecDepth 100000
set_option maxHeartbeats 4000000
noncomputable def cx3 : Cx := ⟨Tryz.prog, look tyT, fun g => memN g [79, 93, 128, 176, 177, 179, 143, 178, 180, 157, 205, 206, 78, 135, 174, 175, 185, 186, 127, 104, 149, 150, 96, 97, 98, 129, 207, 111, 211, 239, 155, 110, 210, 235, 238, 273]⟩
theorem pcall3 {f : Nat} (fn : Func) (hf : cx.P.funcs[f]? = some fn) (hok : okFn fn = true) {args : List AV} {r : AV} (h : funcP cx3 fn args r) : PCall cx.P f args r :=
  funcP_sound (cx := cx3) cx_ok cx_mixed hf (Ent.ok hf hok).2 (Ent.ok hf hok).1 h
theorem acall3 {f : Nat} (fn : Func) (hf : cx.P.funcs[f]? = some fn) (hok : okFn fn = true) {args : List AV} {σ σ' : Sto} {r : AV} (hσ : (σ.all fun p => !isFree (sget σ p.1)) = true) (h : funcA cx3 fn args σ r σ') : ACall cx.P f args σ r σ' :=
  funcA_sound (cx := cx3) cx_ok cx_mixed hf (Ent.ok hf hok).2 (Ent.ok hf hok).1 hσ h
def enc62 (e : S62) : List AV := [.str e.f0, .int .i64 e.f1, .bool e.f2, .str e.f3.f0, .int .i64 e.f3.f1, .str e.f3.f2, .bool e.f3.f3, .int .i64 e.f3.f4, .row 2 (e.f3.f5.map enc29), .row 2 (e.f3.f6.map enc29)]
theorem c94 (x y : S62) : PCall cx.P 94 [.agg (enc62 x), .agg (enc62 y)] (.int .i64 (cmpE x y)) := pcall3 Tryz.f94 (by kernel_rfl) (by kernel_rfl) <| by
  conv => whnf
  conv => whnf
  refine ⟨_, c116 _ _, ?_⟩
  conv => whnf
  conv => whnf
  refine ⟨_, c117 _ _, ?_⟩
  conv => whnf
  conv => whnf
  refine ⟨by simpa using by omega, ?_⟩
  conv => whnf
  conv => whnf
  refine ⟨_, c64_2 _ _, ?_⟩
  conv => whnf
  conv => whnf
  refine ⟨by kernel_rfl, ?_⟩
  conv => whnf
  conv => whnf
  exact .of rfl
theorem c138 (f : List ByteArray) (m : List S47) (id : ByteArray) (hm : m.length ≤ 1048576) : PCall cx.P 138 [encM f m, .str id] (.tup [.agg (enc47 (getI m id)), .bool (hasI m id)]) := pcall3 Tryz.f138 (by kernel_rfl) (by kernel_rfl) <| by
  have h151 := c151 f m id hm
  unfold encM at h151 ⊢
  conv => whnf
  conv => whnf
  refine ⟨_, h151, ?_⟩
  conv => whnf
  conv => whnf
  refine ⟨fun w1 => ?_, fun w1 => ?_⟩
  · replace w1 := of_decide_eq_true w1
    conv => whnf
    have hh : hasI m id = false := decide_eq_false (by omega)
    rw [getI_none hh, hh]
    exact .tup2 (.agg rfl fun j x y hx hy => by
      match j with
      | 0 => cases hx; cases hy; exact .refl
      | 1 => cases hx; cases hy; exact .refl
      | 2 => cases hx; cases hy; exact .refl
      | 3 => cases hx; cases hy; exact .lit rfl
      | 4 => cases hx; cases hy; exact .refl
      | 5 => cases hx; cases hy; exact .nils
      | 6 => cases hx; cases hy; exact .nils
      | j + 7 => simp at hx) (.lit rfl)
  · replace w1 := of_decide_eq_false w1
    have hh : hasI m id = true := decide_eq_true (by omega)
    obtain ⟨i, hi, _, _, hp⟩ := placeOf_lt (show 0 ≤ placeOf m id by omega)
    have hx : m[i]? = some (getI m id) := by unfold getI; rw [hh, hp, Int.toNat_natCast, getD_of hi]; exact List.getElem?_eq_getElem hi
    have hE : (m.map enc47).length = m.length := List.length_map _
    rw [hp]
    conv => whnf
    refine ⟨⟨Int.natCast_nonneg _, by omega⟩, ?_⟩
    conv => whnf
    conv => whnf
    refine ⟨_, map_at hx, ?_⟩
    conv => whnf
    conv => whnf
    rw [hh]
    exact .tup2 .refl (.lit rfl)
theorem c139 (x y : S47) : PCall cx.P 139 [.agg (enc47 x), .agg (enc47 y)] (.bool (sameHd x y)) := pcall3 Tryz.f139 (by kernel_rfl) (by kernel_rfl) <| by
  conv => whnf
  refine ⟨fun w1 => ?_, fun w1 => ?_⟩
  · have e1 : x.f1 = y.f1 := eq_of_beq w1
    conv => whnf
    refine ⟨fun w2 => ?_, fun w2 => ?_⟩
    · have e2 : x.f2 = y.f2 := (sEq_iff _ _).1 w2
      conv => whnf
      exact .of (by unfold sameHd; rw [e1, e2]; simp)
    · have e2 : ¬ x.f2 = y.f2 := fun e => by have h2 := (sEq_iff _ _).2 e; exact absurd (h2.symm.trans w2) (by decide)
      conv => whnf
      exact .lit (by unfold sameHd; rw [e1, show (x.f2.toList == y.f2.toList) = false from by rw [beq_eq_false_iff_ne]; exact fun e => e2 (bs_inj e)]; simp)
  · have e1 : ¬ x.f1 = y.f1 := ne_of_beq w1
    conv => whnf
    exact .lit (by unfold sameHd; rw [show (x.f1 == y.f1) = false from w1]; rfl)
theorem wrapN {n : Nat} (h : n ≤ 1048576) : IntKind.i64.wrap ((n : Int) - IntKind.i64.wrap (0 - ((0 : Nat) : Int))) = n := by
  rw [show IntKind.i64.wrap (0 - ((0 : Nat) : Int)) = 0 from by decide, Int.sub_zero, IntWalk.i64_in _ (by omega)]
theorem c186 (n : Nat) (hn : n ≤ 1048576) : ACall cx.P 186 [.nils, .int .i64 n] [] (.own 7 160 0 0 .opn) [(160, .live (.arr 7 []))] := acall3 Tryz.f186 (by kernel_rfl) (by kernel_rfl) rfl <| by
  conv => whnf
  refine ⟨fun w1 => ?_, fun w1 => ?_⟩
  · have := of_decide_eq_true w1
    omega
  · conv => whnf
    rw [wrapN hn]
    refine ⟨fun w2 => ?_, fun w2 => ?_⟩
    · replace w2 := of_decide_eq_true w2
      conv => whnf
      conv => whnf
      refine ⟨by omega, ?_⟩
      conv => whnf
      conv => whnf
      refine ⟨by simpa using by omega, ?_⟩
      conv => whnf
      conv => whnf
      refine ⟨⟨Int.natCast_nonneg _, by omega⟩, ?_⟩
      conv => whnf
      conv => whnf
      exact .trans (.le (.cons _ _ _ _ _ .opn <| .refl _) (.refl _)) (.cut (.cut (fun i e h => by simp at h) .nil))
    · conv => whnf
      exact .nil rfl rfl (.chg .nil) .here
theorem c137 (A B : List S47) (hA : A.length ≤ 1024) (hB : B.length ≤ 1024) : PCall cx.P 137 [.row 1 [[.row 7 (A.map enc47)], [.row 7 (B.map enc47)]]] (.row 7 ((A ++ B).map enc47)) := pcall3 Tryz.f137 (by kernel_rfl) (by kernel_rfl) <| by
  have eA : (A.map enc47).length = A.length := List.length_map _
  have eB : (B.map enc47).length = B.length := List.length_map _
  conv => whnf
  have k1 : IntKind.i64.wrap (0 + ((A.map enc47).length : Int)) = (A.length : Int) := by rw [IntWalk.i64_in _ (by omega)]; omega
  have k2 : IntKind.i64.wrap ((A.length : Int) + ((B.map enc47).length : Int)) = ((A.length + B.length : Nat) : Int) := by rw [IntWalk.i64_in _ (by omega)]; omega
  have h186 := c186 (A.length + B.length) (by omega)
  refine .inl ⟨[0, 3, 9, 10, 11], 3, ?_⟩
  conv => whnf
  refine ⟨fun w1 => ?_, fun w1 => ?_⟩
  · clear w1
    conv => whnf
    refine ⟨⟨Int.natCast_nonneg _, by show ((0 : Int) < 2); decide⟩, ?_⟩
    conv => whnf
    conv => whnf
    refine ⟨_, rfl, ?_⟩
    conv => whnf
    conv => whnf
    rw [k1]
    refine ⟨fun w2 => ?_, fun w2 => ?_⟩
    · have := of_decide_eq_true w2
      omega
    · clear w2
      conv => whnf
      refine ⟨fun w3 => ?_, fun w3 => ?_⟩
      · clear w3
        conv => whnf
        refine ⟨by simp [IntWalk.i64_in], ?_⟩
        conv => whnf
        conv => whnf
        refine ⟨_, rfl, ?_⟩
        conv => whnf
        conv => whnf
        rw [k2]
        refine ⟨fun w4 => ?_, fun w4 => ?_⟩
        · have := of_decide_eq_true w4
          omega
        · clear w4
          conv => whnf
          refine ⟨fun w5 => ?_, fun w5 => ?_⟩
          · simp [IntWalk.i64_in] at w5
          · conv => whnf
            conv => whnf
            refine ⟨_, _, h186, ?_⟩
            conv => whnf
            conv => whnf
            refine .inl ⟨[6, 25, 26, 27], 3, ?_⟩
            conv => whnf
            refine ⟨fun w6 => ?_, fun w6 => ?_⟩
            · clear w6
              conv => whnf
              refine ⟨⟨Int.natCast_nonneg _, by show ((0 : Int) < 2); decide⟩, ?_⟩
              conv => whnf
              conv => whnf
              refine ⟨_, rfl, ?_⟩
              conv => whnf
              conv => whnf
              refine ⟨⟨rfl, by show (0 + (A.map enc47).length) * 104 ≤ 2 ^ 47; omega⟩, ?_⟩
              conv => whnf
              conv => whnf
              refine ⟨fun w7 => ?_, fun w7 => ?_⟩
              · clear w7
                conv => whnf
                refine ⟨by simp [IntWalk.i64_in], ?_⟩
                conv => whnf
                conv => whnf
                refine ⟨_, rfl, ?_⟩
                conv => whnf
                conv => whnf
                refine ⟨⟨by show 0 + (0 + (A.map enc47).length) = (A.map enc47).length; omega, by show (0 + (A.map enc47).length + (B.map enc47).length) * 104 ≤ 2 ^ 47; omega⟩, ?_⟩
                conv => whnf
                conv => whnf
                refine ⟨fun w8 => ?_, fun w8 => ?_⟩
                · simp [IntWalk.i64_in] at w8
                · conv => whnf
                  conv => whnf
                  refine ⟨by simpa using by omega, ?_⟩
                  conv => whnf
                  conv => whnf
                  exact .of (by rw [List.map_append]; rfl)
              · simp [IntWalk.i64_in] at w7
            · cases w6
      · cases w3
  · cases w1
end Go.Ab
namespace Go.Ab
open Go.Proofs Sn
set_option maxRecDepth 100000
set_option linter.unusedSimpArgs false
set_option linter.unnecessarySimpa false
set_option maxHeartbeats 4000000
theorem z47_sz : Sz47 z47 := ⟨⟨by decide, fun s h => by cases h⟩, by decide, fun s h => by cases h⟩
theorem SzM.getI {f : List ByteArray} {m : List S47} (h : SzM f m) (id : ByteArray) : Sz47 (getI m id) := by
  cases hh : hasI m id with
  | true => exact h.hx _ (getI_mem hh).1
  | false => rw [getI_none hh]; exact z47_sz
theorem bff : (false != false) = false := rfl
theorem btt : (true != true) = false := rfl
theorem bft : (false != true) = true := rfl
theorem btf : (true != false) = true := rfl
theorem c91x (F G M N : List (List AV)) (id : ByteArray) (x y : S47) (p q : Bool) (hx : Sz47 x) (hy : Sz47 y) (ha : PCall cx.P 138 [.agg [.row 1 F, .row 7 M], .str id] (.tup [.agg (enc47 x), .lit p])) (hb : PCall cx.P 138 [.agg [.row 1 G, .row 7 N], .str id] (.tup [.agg (enc47 y), .lit q])) : PCall cx.P 91 [.agg [.row 1 F, .row 7 M], .agg [.row 1 G, .row 7 N], .str id] (.row 10 ((edX p q x y id).map enc62)) := pcall3 Tryz.f91 (by kernel_rfl) (by kernel_rfl) <| by
  have h139 := c139 x y
  have h5 := c140 x.f5 y.f5 hx.1.1 hy.1.1 hx.1.2 hy.1.2
  have h6 := c140 x.f6 y.f6 hx.2.1 hy.2.1 hx.2.2 hy.2.2
  cases p with
  | false =>
    cases q with
    | false =>
      conv => whnf
      conv => whnf
      refine ⟨_, ha, ?_⟩
      conv => whnf
      conv => whnf
      refine ⟨_, hb, ?_⟩
      conv => whnf
      conv => whnf
      refine ⟨fun w1 => ?_, fun w1 => ?_⟩
      · cases w1
      · conv => whnf
        refine ⟨_, h139, ?_⟩
        conv => whnf
        conv => whnf
        refine ⟨fun w2 => ?_, fun w2 => ?_⟩
        · conv => whnf
          refine ⟨by simpa using by omega, ?_⟩
          conv => whnf
          conv => whnf
          refine ⟨by simpa using by omega, ?_⟩
          conv => whnf
          conv => whnf
          refine ⟨by omega, ?_⟩
          conv => whnf
          conv => whnf
          simp only [edX, ed2, ed3, ed4, bff, btt, bft, btf, Bool.true_or, Bool.false_or, Bool.or_false, Bool.or_true, cond_true, cond_false, List.nil_append, List.cons_append, List.append_nil, List.map_cons, List.map_nil, *]
          exact .rows (by repeat (first | exact .nil | refine .cons (by repeat (first | exact .nil | refine .cons (by first | exact .refl | exact .lit rfl | exact .nils) ?_)) ?_))
        · conv => whnf
          simp only [edX, ed2, ed3, ed4, bff, btt, bft, btf, Bool.true_or, Bool.false_or, Bool.or_false, Bool.or_true, cond_true, cond_false, List.nil_append, List.cons_append, List.append_nil, List.map_cons, List.map_nil, *]
          exact .nils
    | true =>
      conv => whnf
      conv => whnf
      refine ⟨_, ha, ?_⟩
      conv => whnf
      conv => whnf
      refine ⟨_, hb, ?_⟩
      conv => whnf
      conv => whnf
      refine ⟨fun w1 => ?_, fun w1 => ?_⟩
      · conv => whnf
        refine ⟨by simpa using by omega, ?_⟩
        conv => whnf
        conv => whnf
        refine ⟨by simpa using by omega, ?_⟩
        conv => whnf
        conv => whnf
        refine ⟨fun w2 => ?_, fun w2 => ?_⟩
        · conv => whnf
          refine ⟨by simpa using by omega, ?_⟩
          conv => whnf
          conv => whnf
          refine ⟨by simpa using by omega, ?_⟩
          conv => whnf
          conv => whnf
          refine ⟨_, h5, ?_⟩
          conv => whnf
          conv => whnf
          refine ⟨fun w3 => ?_, fun w3 => ?_⟩
          · conv => whnf
            refine ⟨by simpa using by omega, ?_⟩
            conv => whnf
            conv => whnf
            refine ⟨by simpa using by omega, ?_⟩
            conv => whnf
            conv => whnf
            refine ⟨_, h6, ?_⟩
            conv => whnf
            conv => whnf
            refine ⟨fun w4 => ?_, fun w4 => ?_⟩
            · conv => whnf
              refine ⟨by simpa using by omega, ?_⟩
              conv => whnf
              conv => whnf
              refine ⟨by simpa using by omega, ?_⟩
              conv => whnf
              conv => whnf
              refine ⟨by simpa using by omega, ?_⟩
              conv => whnf
              conv => whnf
              simp only [edX, ed2, ed3, ed4, bff, btt, bft, btf, Bool.true_or, Bool.false_or, Bool.or_false, Bool.or_true, cond_true, cond_false, List.nil_append, List.cons_append, List.append_nil, List.map_cons, List.map_nil, *]
              exact .rows (by repeat (first | exact .nil | refine .cons (by repeat (first | exact .nil | refine .cons (by first | exact .refl | exact .lit rfl | exact .nils) ?_)) ?_))
            · conv => whnf
              refine ⟨by simpa using by omega, ?_⟩
              conv => whnf
              conv => whnf
              simp only [edX, ed2, ed3, ed4, bff, btt, bft, btf, Bool.true_or, Bool.false_or, Bool.or_false, Bool.or_true, cond_true, cond_false, List.nil_append, List.cons_append, List.append_nil, List.map_cons, List.map_nil, *]
              exact .rows (by repeat (first | exact .nil | refine .cons (by repeat (first | exact .nil | refine .cons (by first | exact .refl | exact .lit rfl | exact .nils) ?_)) ?_))
          · conv => whnf
            refine ⟨_, h6, ?_⟩
            conv => whnf
            conv => whnf
            refine ⟨fun w4 => ?_, fun w4 => ?_⟩
            · conv => whnf
              refine ⟨by simpa using by omega, ?_⟩
              conv => whnf
              conv => whnf
              refine ⟨by simpa using by omega, ?_⟩
              conv => whnf
              conv => whnf
              refine ⟨by simpa using by omega, ?_⟩
              conv => whnf
              conv => whnf
              simp only [edX, ed2, ed3, ed4, bff, btt, bft, btf, Bool.true_or, Bool.false_or, Bool.or_false, Bool.or_true, cond_true, cond_false, List.nil_append, List.cons_append, List.append_nil, List.map_cons, List.map_nil, *]
              exact .rows (by repeat (first | exact .nil | refine .cons (by repeat (first | exact .nil | refine .cons (by first | exact .refl | exact .lit rfl | exact .nils) ?_)) ?_))
            · conv => whnf
              refine ⟨by simpa using by omega, ?_⟩
              conv => whnf
              conv => whnf
              simp only [edX, ed2, ed3, ed4, bff, btt, bft, btf, Bool.true_or, Bool.false_or, Bool.or_false, Bool.or_true, cond_true, cond_false, List.nil_append, List.cons_append, List.append_nil, List.map_cons, List.map_nil, *]
              exact .rows (by repeat (first | exact .nil | refine .cons (by repeat (first | exact .nil | refine .cons (by first | exact .refl | exact .lit rfl | exact .nils) ?_)) ?_))
        · conv => whnf
          refine ⟨_, h5, ?_⟩
          conv => whnf
          conv => whnf
          refine ⟨fun w3 => ?_, fun w3 => ?_⟩
          · conv => whnf
            refine ⟨by simpa using by omega, ?_⟩
            conv => whnf
            conv => whnf
            refine ⟨by simpa using by omega, ?_⟩
            conv => whnf
            conv => whnf
            refine ⟨_, h6, ?_⟩
            conv => whnf
            conv => whnf
            refine ⟨fun w4 => ?_, fun w4 => ?_⟩
            · conv => whnf
              refine ⟨by simpa using by omega, ?_⟩
              conv => whnf
              conv => whnf
              refine ⟨by simpa using by omega, ?_⟩
              conv => whnf
              conv => whnf
              refine ⟨by simpa using by omega, ?_⟩
              conv => whnf
              conv => whnf
              simp only [edX, ed2, ed3, ed4, bff, btt, bft, btf, Bool.true_or, Bool.false_or, Bool.or_false, Bool.or_true, cond_true, cond_false, List.nil_append, List.cons_append, List.append_nil, List.map_cons, List.map_nil, *]
              exact .rows (by repeat (first | exact .nil | refine .cons (by repeat (first | exact .nil | refine .cons (by first | exact .refl | exact .lit rfl | exact .nils) ?_)) ?_))
            · conv => whnf
              refine ⟨by simpa using by omega, ?_⟩
              conv => whnf
              conv => whnf
              simp only [edX, ed2, ed3, ed4, bff, btt, bft, btf, Bool.true_or, Bool.false_or, Bool.or_false, Bool.or_true, cond_true, cond_false, List.nil_append, List.cons_append, List.append_nil, List.map_cons, List.map_nil, *]
              exact .rows (by repeat (first | exact .nil | refine .cons (by repeat (first | exact .nil | refine .cons (by first | exact .refl | exact .lit rfl | exact .nils) ?_)) ?_))
          · conv => whnf
            refine ⟨_, h6, ?_⟩
            conv => whnf
            conv => whnf
            refine ⟨fun w4 => ?_, fun w4 => ?_⟩
            · conv => whnf
              refine ⟨by simpa using by omega, ?_⟩
              conv => whnf
              conv => whnf
              refine ⟨by simpa using by omega, ?_⟩
              conv => whnf
              conv => whnf
              refine ⟨by simpa using by omega, ?_⟩
              conv => whnf
              conv => whnf
              simp only [edX, ed2, ed3, ed4, bff, btt, bft, btf, Bool.true_or, Bool.false_or, Bool.or_false, Bool.or_true, cond_true, cond_false, List.nil_append, List.cons_append, List.append_nil, List.map_cons, List.map_nil, *]
              exact .rows (by repeat (first | exact .nil | refine .cons (by repeat (first | exact .nil | refine .cons (by first | exact .refl | exact .lit rfl | exact .nils) ?_)) ?_))
            · conv => whnf
              refine ⟨by omega, ?_⟩
              conv => whnf
              conv => whnf
              simp only [edX, ed2, ed3, ed4, bff, btt, bft, btf, Bool.true_or, Bool.false_or, Bool.or_false, Bool.or_true, cond_true, cond_false, List.nil_append, List.cons_append, List.append_nil, List.map_cons, List.map_nil, *]
              exact .rows (by repeat (first | exact .nil | refine .cons (by repeat (first | exact .nil | refine .cons (by first | exact .refl | exact .lit rfl | exact .nils) ?_)) ?_))
      · cases w1
  | true =>
    cases q with
    | false =>
      conv => whnf
      conv => whnf
      refine ⟨_, ha, ?_⟩
      conv => whnf
      conv => whnf
      refine ⟨_, hb, ?_⟩
      conv => whnf
      conv => whnf
      refine ⟨fun w1 => ?_, fun w1 => ?_⟩
      · conv => whnf
        refine ⟨by simpa using by omega, ?_⟩
        conv => whnf
        conv => whnf
        refine ⟨by simpa using by omega, ?_⟩
        conv => whnf
        conv => whnf
        refine ⟨by omega, ?_⟩
        conv => whnf
        conv => whnf
        simp only [edX, ed2, ed3, ed4, bff, btt, bft, btf, Bool.true_or, Bool.false_or, Bool.or_false, Bool.or_true, cond_true, cond_false, List.nil_append, List.cons_append, List.append_nil, List.map_cons, List.map_nil, *]
        exact .rows (by repeat (first | exact .nil | refine .cons (by repeat (first | exact .nil | refine .cons (by first | exact .refl | exact .lit rfl | exact .nils) ?_)) ?_))
      · cases w1
    | true =>
      conv => whnf
      conv => whnf
      refine ⟨_, ha, ?_⟩
      conv => whnf
      conv => whnf
      refine ⟨_, hb, ?_⟩
      conv => whnf
      conv => whnf
      refine ⟨fun w1 => ?_, fun w1 => ?_⟩
      · cases w1
      · conv => whnf
        refine ⟨_, h139, ?_⟩
        conv => whnf
        conv => whnf
        refine ⟨fun w2 => ?_, fun w2 => ?_⟩
        · conv => whnf
          refine ⟨by simpa using by omega, ?_⟩
          conv => whnf
          conv => whnf
          refine ⟨by simpa using by omega, ?_⟩
          conv => whnf
          conv => whnf
          refine ⟨fun w3 => ?_, fun w3 => ?_⟩
          · conv => whnf
            refine ⟨by simpa using by omega, ?_⟩
            conv => whnf
            conv => whnf
            refine ⟨by simpa using by omega, ?_⟩
            conv => whnf
            conv => whnf
            refine ⟨_, h5, ?_⟩
            conv => whnf
            conv => whnf
            refine ⟨fun w4 => ?_, fun w4 => ?_⟩
            · conv => whnf
              refine ⟨by simpa using by omega, ?_⟩
              conv => whnf
              conv => whnf
              refine ⟨by simpa using by omega, ?_⟩
              conv => whnf
              conv => whnf
              refine ⟨_, h6, ?_⟩
              conv => whnf
              conv => whnf
              refine ⟨fun w5 => ?_, fun w5 => ?_⟩
              · conv => whnf
                refine ⟨by simpa using by omega, ?_⟩
                conv => whnf
                conv => whnf
                refine ⟨by simpa using by omega, ?_⟩
                conv => whnf
                conv => whnf
                refine ⟨by simpa using by omega, ?_⟩
                conv => whnf
                conv => whnf
                simp only [edX, ed2, ed3, ed4, bff, btt, bft, btf, Bool.true_or, Bool.false_or, Bool.or_false, Bool.or_true, cond_true, cond_false, List.nil_append, List.cons_append, List.append_nil, List.map_cons, List.map_nil, *]
                exact .rows (by repeat (first | exact .nil | refine .cons (by repeat (first | exact .nil | refine .cons (by first | exact .refl | exact .lit rfl | exact .nils) ?_)) ?_))
              · conv => whnf
                refine ⟨by simpa using by omega, ?_⟩
                conv => whnf
                conv => whnf
                simp only [edX, ed2, ed3, ed4, bff, btt, bft, btf, Bool.true_or, Bool.false_or, Bool.or_false, Bool.or_true, cond_true, cond_false, List.nil_append, List.cons_append, List.append_nil, List.map_cons, List.map_nil, *]
                exact .rows (by repeat (first | exact .nil | refine .cons (by repeat (first | exact .nil | refine .cons (by first | exact .refl | exact .lit rfl | exact .nils) ?_)) ?_))
            · conv => whnf
              refine ⟨_, h6, ?_⟩
              conv => whnf
              conv => whnf
              refine ⟨fun w5 => ?_, fun w5 => ?_⟩
              · conv => whnf
                refine ⟨by simpa using by omega, ?_⟩
                conv => whnf
                conv => whnf
                refine ⟨by simpa using by omega, ?_⟩
                conv => whnf
                conv => whnf
                refine ⟨by simpa using by omega, ?_⟩
                conv => whnf
                conv => whnf
                simp only [edX, ed2, ed3, ed4, bff, btt, bft, btf, Bool.true_or, Bool.false_or, Bool.or_false, Bool.or_true, cond_true, cond_false, List.nil_append, List.cons_append, List.append_nil, List.map_cons, List.map_nil, *]
                exact .rows (by repeat (first | exact .nil | refine .cons (by repeat (first | exact .nil | refine .cons (by first | exact .refl | exact .lit rfl | exact .nils) ?_)) ?_))
              · conv => whnf
                refine ⟨by simpa using by omega, ?_⟩
                conv => whnf
                conv => whnf
                simp only [edX, ed2, ed3, ed4, bff, btt, bft, btf, Bool.true_or, Bool.false_or, Bool.or_false, Bool.or_true, cond_true, cond_false, List.nil_append, List.cons_append, List.append_nil, List.map_cons, List.map_nil, *]
                exact .rows (by repeat (first | exact .nil | refine .cons (by repeat (first | exact .nil | refine .cons (by first | exact .refl | exact .lit rfl | exact .nils) ?_)) ?_))
          · conv => whnf
            refine ⟨_, h5, ?_⟩
            conv => whnf
            conv => whnf
            refine ⟨fun w4 => ?_, fun w4 => ?_⟩
            · conv => whnf
              refine ⟨by simpa using by omega, ?_⟩
              conv => whnf
              conv => whnf
              refine ⟨by simpa using by omega, ?_⟩
              conv => whnf
              conv => whnf
              refine ⟨_, h6, ?_⟩
              conv => whnf
              conv => whnf
              refine ⟨fun w5 => ?_, fun w5 => ?_⟩
              · conv => whnf
                refine ⟨by simpa using by omega, ?_⟩
                conv => whnf
                conv => whnf
                refine ⟨by simpa using by omega, ?_⟩
                conv => whnf
                conv => whnf
                refine ⟨by simpa using by omega, ?_⟩
                conv => whnf
                conv => whnf
                simp only [edX, ed2, ed3, ed4, bff, btt, bft, btf, Bool.true_or, Bool.false_or, Bool.or_false, Bool.or_true, cond_true, cond_false, List.nil_append, List.cons_append, List.append_nil, List.map_cons, List.map_nil, *]
                exact .rows (by repeat (first | exact .nil | refine .cons (by repeat (first | exact .nil | refine .cons (by first | exact .refl | exact .lit rfl | exact .nils) ?_)) ?_))
              · conv => whnf
                refine ⟨by simpa using by omega, ?_⟩
                conv => whnf
                conv => whnf
                simp only [edX, ed2, ed3, ed4, bff, btt, bft, btf, Bool.true_or, Bool.false_or, Bool.or_false, Bool.or_true, cond_true, cond_false, List.nil_append, List.cons_append, List.append_nil, List.map_cons, List.map_nil, *]
                exact .rows (by repeat (first | exact .nil | refine .cons (by repeat (first | exact .nil | refine .cons (by first | exact .refl | exact .lit rfl | exact .nils) ?_)) ?_))
            · conv => whnf
              refine ⟨_, h6, ?_⟩
              conv => whnf
              conv => whnf
              refine ⟨fun w5 => ?_, fun w5 => ?_⟩
              · conv => whnf
                refine ⟨by simpa using by omega, ?_⟩
                conv => whnf
                conv => whnf
                refine ⟨by simpa using by omega, ?_⟩
                conv => whnf
                conv => whnf
                refine ⟨by simpa using by omega, ?_⟩
                conv => whnf
                conv => whnf
                simp only [edX, ed2, ed3, ed4, bff, btt, bft, btf, Bool.true_or, Bool.false_or, Bool.or_false, Bool.or_true, cond_true, cond_false, List.nil_append, List.cons_append, List.append_nil, List.map_cons, List.map_nil, *]
                exact .rows (by repeat (first | exact .nil | refine .cons (by repeat (first | exact .nil | refine .cons (by first | exact .refl | exact .lit rfl | exact .nils) ?_)) ?_))
              · conv => whnf
                refine ⟨by omega, ?_⟩
                conv => whnf
                conv => whnf
                simp only [edX, ed2, ed3, ed4, bff, btt, bft, btf, Bool.true_or, Bool.false_or, Bool.or_false, Bool.or_true, cond_true, cond_false, List.nil_append, List.cons_append, List.append_nil, List.map_cons, List.map_nil, *]
                exact .rows (by repeat (first | exact .nil | refine .cons (by repeat (first | exact .nil | refine .cons (by first | exact .refl | exact .lit rfl | exact .nils) ?_)) ?_))
        · conv => whnf
          refine ⟨fun w3 => ?_, fun w3 => ?_⟩
          · conv => whnf
            refine ⟨by simpa using by omega, ?_⟩
            conv => whnf
            conv => whnf
            refine ⟨by simpa using by omega, ?_⟩
            conv => whnf
            conv => whnf
            refine ⟨_, h5, ?_⟩
            conv => whnf
            conv => whnf
            refine ⟨fun w4 => ?_, fun w4 => ?_⟩
            · conv => whnf
              refine ⟨by simpa using by omega, ?_⟩
              conv => whnf
              conv => whnf
              refine ⟨by simpa using by omega, ?_⟩
              conv => whnf
              conv => whnf
              refine ⟨_, h6, ?_⟩
              conv => whnf
              conv => whnf
              refine ⟨fun w5 => ?_, fun w5 => ?_⟩
              · conv => whnf
                refine ⟨by simpa using by omega, ?_⟩
                conv => whnf
                conv => whnf
                refine ⟨by simpa using by omega, ?_⟩
                conv => whnf
                conv => whnf
                refine ⟨by simpa using by omega, ?_⟩
                conv => whnf
                conv => whnf
                simp only [edX, ed2, ed3, ed4, bff, btt, bft, btf, Bool.true_or, Bool.false_or, Bool.or_false, Bool.or_true, cond_true, cond_false, List.nil_append, List.cons_append, List.append_nil, List.map_cons, List.map_nil, *]
                exact .rows (by repeat (first | exact .nil | refine .cons (by repeat (first | exact .nil | refine .cons (by first | exact .refl | exact .lit rfl | exact .nils) ?_)) ?_))
              · conv => whnf
                refine ⟨by simpa using by omega, ?_⟩
                conv => whnf
                conv => whnf
                simp only [edX, ed2, ed3, ed4, bff, btt, bft, btf, Bool.true_or, Bool.false_or, Bool.or_false, Bool.or_true, cond_true, cond_false, List.nil_append, List.cons_append, List.append_nil, List.map_cons, List.map_nil, *]
                exact .rows (by repeat (first | exact .nil | refine .cons (by repeat (first | exact .nil | refine .cons (by first | exact .refl | exact .lit rfl | exact .nils) ?_)) ?_))
            · conv => whnf
              refine ⟨_, h6, ?_⟩
              conv => whnf
              conv => whnf
              refine ⟨fun w5 => ?_, fun w5 => ?_⟩
              · conv => whnf
                refine ⟨by simpa using by omega, ?_⟩
                conv => whnf
                conv => whnf
                refine ⟨by simpa using by omega, ?_⟩
                conv => whnf
                conv => whnf
                refine ⟨by simpa using by omega, ?_⟩
                conv => whnf
                conv => whnf
                simp only [edX, ed2, ed3, ed4, bff, btt, bft, btf, Bool.true_or, Bool.false_or, Bool.or_false, Bool.or_true, cond_true, cond_false, List.nil_append, List.cons_append, List.append_nil, List.map_cons, List.map_nil, *]
                exact .rows (by repeat (first | exact .nil | refine .cons (by repeat (first | exact .nil | refine .cons (by first | exact .refl | exact .lit rfl | exact .nils) ?_)) ?_))
              · conv => whnf
                refine ⟨by omega, ?_⟩
                conv => whnf
                conv => whnf
                simp only [edX, ed2, ed3, ed4, bff, btt, bft, btf, Bool.true_or, Bool.false_or, Bool.or_false, Bool.or_true, cond_true, cond_false, List.nil_append, List.cons_append, List.append_nil, List.map_cons, List.map_nil, *]
                exact .rows (by repeat (first | exact .nil | refine .cons (by repeat (first | exact .nil | refine .cons (by first | exact .refl | exact .lit rfl | exact .nils) ?_)) ?_))
          · conv => whnf
            refine ⟨_, h5, ?_⟩
            conv => whnf
            conv => whnf
            refine ⟨fun w4 => ?_, fun w4 => ?_⟩
            · conv => whnf
              refine ⟨by simpa using by omega, ?_⟩
              conv => whnf
              conv => whnf
              refine ⟨by simpa using by omega, ?_⟩
              conv => whnf
              conv => whnf
              refine ⟨_, h6, ?_⟩
              conv => whnf
              conv => whnf
              refine ⟨fun w5 => ?_, fun w5 => ?_⟩
              · conv => whnf
                refine ⟨by simpa using by omega, ?_⟩
                conv => whnf
                conv => whnf
                refine ⟨by simpa using by omega, ?_⟩
                conv => whnf
                conv => whnf
                refine ⟨by simpa using by omega, ?_⟩
                conv => whnf
                conv => whnf
                simp only [edX, ed2, ed3, ed4, bff, btt, bft, btf, Bool.true_or, Bool.false_or, Bool.or_false, Bool.or_true, cond_true, cond_false, List.nil_append, List.cons_append, List.append_nil, List.map_cons, List.map_nil, *]
                exact .rows (by repeat (first | exact .nil | refine .cons (by repeat (first | exact .nil | refine .cons (by first | exact .refl | exact .lit rfl | exact .nils) ?_)) ?_))
              · conv => whnf
                refine ⟨by omega, ?_⟩
                conv => whnf
                conv => whnf
                simp only [edX, ed2, ed3, ed4, bff, btt, bft, btf, Bool.true_or, Bool.false_or, Bool.or_false, Bool.or_true, cond_true, cond_false, List.nil_append, List.cons_append, List.append_nil, List.map_cons, List.map_nil, *]
                exact .rows (by repeat (first | exact .nil | refine .cons (by repeat (first | exact .nil | refine .cons (by first | exact .refl | exact .lit rfl | exact .nils) ?_)) ?_))
            · conv => whnf
              refine ⟨_, h6, ?_⟩
              conv => whnf
              conv => whnf
              refine ⟨fun w5 => ?_, fun w5 => ?_⟩
              · conv => whnf
                refine ⟨by simpa using by omega, ?_⟩
                conv => whnf
                conv => whnf
                refine ⟨by simpa using by omega, ?_⟩
                conv => whnf
                conv => whnf
                refine ⟨by omega, ?_⟩
                conv => whnf
                conv => whnf
                simp only [edX, ed2, ed3, ed4, bff, btt, bft, btf, Bool.true_or, Bool.false_or, Bool.or_false, Bool.or_true, cond_true, cond_false, List.nil_append, List.cons_append, List.append_nil, List.map_cons, List.map_nil, *]
                exact .rows (by repeat (first | exact .nil | refine .cons (by repeat (first | exact .nil | refine .cons (by first | exact .refl | exact .lit rfl | exact .nils) ?_)) ?_))
              · conv => whnf
                simp only [edX, ed2, ed3, ed4, bff, btt, bft, btf, Bool.true_or, Bool.false_or, Bool.or_false, Bool.or_true, cond_true, cond_false, List.nil_append, List.cons_append, List.append_nil, List.map_cons, List.map_nil, *]
                exact .nils
theorem c91 (fa fb : List ByteArray) (a b : List S47) (ha : SzM fa a) (hb : SzM fb b) (id : ByteArray) : PCall cx.P 91 [encM fa a, encM fb b, .str id] (.row 10 ((edI a b id).map enc62)) :=
  c91x _ _ _ _ id _ _ _ _ (ha.getI id) (hb.getI id) ((c138 fa a id ha.hm).to (.tup2 .refl (.blit rfl))) ((c138 fb b id hb.hm).to (.tup2 .refl (.blit rfl)))
end Go.Ab
namespace Go.Ab
open Go.Proofs Sn
set_option maxRecDepth 100000
set_option linter.unusedSimpArgs false
set_option linter.unnecessarySimpa false
set_option maxHeartbeats 4000000
theorem idsOf_snoc {l : List S47} {x : S47} : idsOf (l ++ [x]) = bif hasS (idsOf l) x.f0 then idsOf l else idsOf l ++ [x.f0] := by
  unfold idsOf
  rw [List.foldl_append]
  rfl
theorem idsOf_len (l : List S47) : ∀ acc : List ByteArray, (l.foldl (fun l x => bif hasS l x.f0 then l else l ++ [x.f0]) acc).length ≤ acc.length + l.length := by
  induction l with
  | nil => intro acc; exact Nat.le_refl _
  | cons x l ih =>
    intro acc
    rw [List.foldl_cons]
    refine Nat.le_trans (ih _) ?_
    cases hasS acc x.f0 <;> simp <;> omega
theorem c90 (fa fb : List ByteArray) (a b : List S47) (ha : a.length ≤ 1024) (hb : b.length ≤ 1024) : PCall cx.P 90 [encM fa a, encM fb b] (.row 1 ((idsOf (a ++ b)).map encT)) := pcall3 Tryz.f90 (by kernel_rfl) (by kernel_rfl) <| by
  have h137 := c137 a b ha hb
  unfold encM
  conv => whnf
  refine ⟨by simpa using by omega, ?_⟩
  conv => whnf
  conv => whnf
  refine ⟨_, h137, ?_⟩
  conv => whnf
  conv => whnf
  have hC0 : (a ++ b).length = a.length + b.length := List.length_append
  generalize a ++ b = C at hC0 ⊢
  have hCE : (C.map enc47).length = C.length := List.length_map _
  refine .inr (.inl ⟨[5, 13, 14, 15], Nat, fun j => ([(5, .own 1 336 0 ((idsOf (C.take j)).map encT).length .opn), (13, .row 7 (C.map enc47)), (14, .int .i64 C.length), (15, .int .i64 j)], [(336, .live (.arr 1 ((idsOf (C.take j)).map encT)))]), fun j => j ≤ C.length, fun j => C.length - j, ?_, fun j hj => ?_⟩)
  · conv => whnf
    refine ⟨0, ?_, Nat.zero_le _⟩
    rw [← hCE]
    exact .nil rfl rfl (.chg <| .same <| .same <| .same .nil) .here
  · have hj : j ≤ C.length := hj
    have hil : (idsOf (C.take j)).length ≤ j := by
      have := idsOf_len (C.take j) []
      rw [List.length_take] at this
      unfold idsOf
      simp at this
      omega
    have hie : ((idsOf (C.take j)).map encT).length = (idsOf (C.take j)).length := List.length_map _
    conv => whnf
    refine ⟨fun w1 => ?_, fun w1 => ?_⟩
    · replace w1 := lti w1
      obtain ⟨x, hx⟩ := at_ex w1
      have h92 := c92 (idsOf (C.take j)) x.f0 (by omega)
      conv => whnf
      refine ⟨⟨Int.natCast_nonneg _, by omega⟩, ?_⟩
      conv => whnf
      conv => whnf
      refine ⟨_, map_at hx, ?_⟩
      conv => whnf
      conv => whnf
      conv => whnf
      refine ⟨by omega, ?_⟩
      conv => whnf
      conv => whnf
      refine ⟨_, h92, ?_⟩
      conv => whnf
      conv => whnf
      refine ⟨fun w2 => ?_, fun w2 => ?_⟩
      · conv => whnf
        refine ⟨by simpa using by omega, ?_⟩
        conv => whnf
        conv => whnf
        refine ⟨by simpa using by omega, ?_⟩
        conv => whnf
        conv => whnf
        refine ⟨j + 1, ?_, w1, by show C.length - (j + 1) < C.length - j; omega⟩
        dsimp only
        rw [snoc_take hx, idsOf_snoc, show hasS (idsOf (C.take j)) x.f0 = false by simpa using w2, up1 w1 (by omega)]
        simp only [cond_false, List.map_append, List.length_append]
        exact .of rfl
      · conv => whnf
        refine ⟨j + 1, ?_, w1, by show C.length - (j + 1) < C.length - j; omega⟩
        dsimp only
        rw [snoc_take hx, idsOf_snoc, show hasS (idsOf (C.take j)) x.f0 = true by simpa using w2, up1 w1 (by omega)]
        exact .of rfl
    · replace w1 := nlti w1
      conv => whnf
      conv => whnf
      refine ⟨by omega, ?_⟩
      conv => whnf
      conv => whnf
      exact .of (by rw [List.drop_zero, List.take_of_length_le (by omega)])
theorem c185 (l : List S29) (hl : l.length ≤ 1048576) : ACall cx.P 185 [.row 2 (l.map enc29)] [] (.own 2 96 0 (l.map enc29).length .opn) [(96, .live (.arr 2 (l.map enc29)))] := acall3 Tryz.f185 (by kernel_rfl) (by kernel_rfl) rfl <| by
  conv => whnf
  refine ⟨fun w1 => ?_, fun w1 => ?_⟩
  · conv => whnf
    rw [w1]
    exact .nil rfl rfl (.chg .nil) .here
  · conv => whnf
    refine ⟨by simpa using by omega, ?_⟩
    conv => whnf
    conv => whnf
    exact .of rfl
theorem c135 (l : List S47) (hl : l.length ≤ 1048576) : ACall cx.P 135 [.row 7 (l.map enc47)] [] (.own 7 96 0 (l.map enc47).length .opn) [(96, .live (.arr 7 (l.map enc47)))] := acall3 Tryz.f135 (by kernel_rfl) (by kernel_rfl) rfl <| by
  conv => whnf
  refine ⟨fun w1 => ?_, fun w1 => ?_⟩
  · conv => whnf
    rw [w1]
    exact .nil rfl rfl (.chg .nil) .here
  · conv => whnf
    refine ⟨by simpa using by omega, ?_⟩
    conv => whnf
    conv => whnf
    exact .of rfl
theorem set_self {α : Type} {l : List α} {i : Nat} {a : α} (h : l[i]? = some a) : l.set i a = l := by
  obtain ⟨h1, h2⟩ := List.getElem?_eq_some_iff.1 h
  subst h2
  exact List.set_getElem_self h1
theorem c136 (l : List S29) (hl : l.length ≤ 1048576) (hz : ∀ x ∈ l, Sz29 x) : PCall cx.P 136 [.row 2 (l.map enc29)] (.row 2 (l.map enc29)) := pcall3 Tryz.f136 (by kernel_rfl) (by kernel_rfl) <| by
  have hE : (l.map enc29).length = l.length := List.length_map _
  conv => whnf
  refine ⟨_, _, c185 l hl, ?_⟩
  conv => whnf
  conv => whnf
  conv => whnf
  refine .inr (.inl ⟨[0, 7, 8, 9], Nat, fun j => ([(0, .own 2 16 0 (l.map enc29).length .opn), (7, .own 2 16 0 (l.map enc29).length .opn), (8, .int .i64 l.length), (9, .int .i64 j)], [(16, .live (.arr 2 (l.map enc29)))]), fun j => j ≤ l.length, fun j => l.length - j, ?_, fun j hj => ?_⟩)
  · conv => whnf
    exact ⟨0, by rw [← hE]; exact .of rfl, Nat.zero_le _⟩
  · have hj : j ≤ l.length := hj
    conv => whnf
    refine ⟨fun w1 => ?_, fun w1 => ?_⟩
    · replace w1 := lti w1
      obtain ⟨x, hx⟩ := at_ex w1
      have hzx := hz x (List.mem_of_getElem? hx)
      conv => whnf
      refine ⟨⟨Int.natCast_nonneg _, by omega⟩, ?_⟩
      conv => whnf
      conv => whnf
      refine ⟨_, map_at0 hx, ?_⟩
      conv => whnf
      conv => whnf
      refine ⟨_, _, c174 _ hzx.1, ?_⟩
      conv => whnf
      conv => whnf
      refine ⟨_, _, c175 _ hzx.2, ?_⟩
      conv => whnf
      conv => whnf
      conv => whnf
      refine ⟨⟨Int.natCast_nonneg _, by omega⟩, ?_⟩
      conv => whnf
      conv => whnf
      refine ⟨by omega, ?_⟩
      conv => whnf
      conv => whnf
      refine ⟨by omega, ?_⟩
      conv => whnf
      conv => whnf
      refine ⟨_, map_at0 hx, ?_⟩
      conv => whnf
      conv => whnf
      refine ⟨by kernel_rfl, ?_⟩
      conv => whnf
      conv => whnf
      refine ⟨j + 1, ?_, w1, by show l.length - (j + 1) < l.length - j; omega⟩
      dsimp only
      rw [up1 w1 (by omega)]
      have hset : (l.map enc29).set (0 + j) (enc29 x) = l.map enc29 := set_self (map_at0 hx)
      refine .of (Prod.ext rfl ?_)
      show [((16 : Nat), SV.live (.arr 2 ((l.map enc29).set (0 + j) (enc29 x))))] = _
      rw [hset]
    · replace w1 := nlti w1
      conv => whnf
      conv => whnf
      refine ⟨by omega, ?_⟩
      conv => whnf
      conv => whnf
      exact .of rfl
theorem c89 (f : List ByteArray) (m : List S47) (h : SzM f m) : PCall cx.P 89 [encM f m] (encM f m) := pcall3 Tryz.f89 (by kernel_rfl) (by kernel_rfl) <| by
  unfold encM
  conv => whnf
  conv => whnf
  refine ⟨_, _, c78 _ h.hf, ?_⟩
  conv => whnf
  conv => whnf
  refine ⟨_, _, c135 _ h.hm, ?_⟩
  conv => whnf
  conv => whnf
  refine ⟨by kernel_rfl, ?_⟩
  conv => whnf
  conv => whnf
  have hE : (m.map enc47).length = m.length := List.length_map _
  have hm := h.hm
  refine .inr (.inl ⟨[1, 2, 14, 15, 16], Nat, fun j => ([(1, .bptr 80 0), (2, .bptr 144 0), (14, .own 7 82 0 (m.map enc47).length .opn), (15, .int .i64 m.length), (16, .int .i64 j)],
    [(144, .live (.box [.nils, .nils])), (82, .live (.arr 7 (m.map enc47))), (81, .live (.arr 1 (f.map encT))), (80, .live (.box [.own 1 81 0 (f.map encT).length .opn, .own 7 82 0 (m.map enc47).length .opn]))]), fun j => j ≤ m.length, fun j => m.length - j, ?_, fun j hj => ?_⟩)
  · conv => whnf
    exact ⟨0, by rw [← hE]; exact .of rfl, Nat.zero_le _⟩
  · have hj : j ≤ m.length := hj
    conv => whnf
    refine ⟨fun w1 => ?_, fun w1 => ?_⟩
    · replace w1 := lti w1
      obtain ⟨x, hx⟩ := at_ex w1
      have hzx := h.hx x (List.mem_of_getElem? hx)
      have h5 := c136 x.f5 hzx.1.1 hzx.1.2
      have h6 := c136 x.f6 hzx.2.1 hzx.2.2
      conv => whnf
      refine ⟨⟨Int.natCast_nonneg _, by omega⟩, ?_⟩
      conv => whnf
      conv => whnf
      refine ⟨_, map_at0 hx, ?_⟩
      conv => whnf
      conv => whnf
      refine ⟨_, h5, ?_⟩
      conv => whnf
      conv => whnf
      refine ⟨_, h6, ?_⟩
      conv => whnf
      conv => whnf
      conv => whnf
      refine ⟨⟨Int.natCast_nonneg _, by omega⟩, ?_⟩
      conv => whnf
      conv => whnf
      refine ⟨_, map_at0 hx, ?_⟩
      conv => whnf
      conv => whnf
      refine ⟨⟨Int.natCast_nonneg _, by omega⟩, ?_⟩
      conv => whnf
      conv => whnf
      have hset : (m.map enc47).set (0 + j) (enc47 x) = m.map enc47 := set_self (map_at0 hx)
      refine ⟨_, (show ((m.map enc47).set (0 + j) (enc47 x))[0 + j]? = some (enc47 x) by rw [hset]; exact map_at0 hx), ?_⟩
      conv => whnf
      conv => whnf
      conv => whnf
      refine ⟨by kernel_rfl, ?_⟩
      conv => whnf
      conv => whnf
      refine ⟨j + 1, ?_, w1, by show m.length - (j + 1) < m.length - j; omega⟩
      dsimp only
      rw [up1 w1 (by omega)]
      refine .of (Prod.ext rfl ?_)
      show [((144 : Nat), SV.live (.box [.nils, .nils])), (82, .live (.arr 7 (((m.map enc47).set (0 + j) (enc47 x)).set (0 + j) (enc47 x)))), (81, .live (.arr 1 (f.map encT))), (80, .live (.box [.own 1 81 0 (f.map encT).length .opn, .own 7 82 0 (m.map enc47).length .opn]))] = _
      rw [hset, hset]
    · replace w1 := nlti w1
      conv => whnf
      conv => whnf
      refine ⟨by omega, ?_⟩
      conv => whnf
      conv => whnf
      refine ⟨by omega, ?_⟩
      conv => whnf
      conv => whnf
      exact .of rfl
end Go.Ab
namespace Go.Ab
open Go.Proofs Sn
set_option maxRecDepth 100000
set_option linter.unnecessarySimpa false
set_option maxHeartbeats 4000000
theorem c93 (l : List S62) (hl : l.length ≤ 1048576) (h : ∀ x ∈ l, ∀ y ∈ l, cmpE x y = cmp62 x y) : ACall cx.P 93 [.own 10 32 0 (l.map enc62).length .opn, .fn 94 [] []] [(32, .live (.arr 10 (l.map enc62)))] (.tup []) [(32, .live (.arr 10 ((sortL cmp62 l).map enc62)))] :=
  sortK (P := Tryz.prog) Tryz.sortEd Tryz.isAgg62 Tryz.sizeOf62 isCmp_62 (Ent.p Tryz.f93 (by kernel_rfl) (by kernel_rfl)) (Ent.p Tryz.f94 (by kernel_rfl) (by kernel_rfl)) (caps := []) (caps' := []) (by omega) (fun x hx y hy => by rw [← h x hx y hy]; exact c94 x y) rfl (upd1 _ _ _) (fun w X ι blk o h1 h2 => nocap w X ι blk o _ _ _ h1 h2)
noncomputable def dfR (fa : List ByteArray) (a : List S47) (fb : List ByteArray) (b : List S47) : List S62 × Int := bif bP (IsN fa a) && bP (IsN fb b) then (specD fa a fb b, 0) else ([], 7)
theorem edX_len (p q : Bool) (x y : S47) (id : ByteArray) : (edX p q x y id).length ≤ 4 := by
  have h : ∀ (c : Bool) (e : S62), (bif c then [e] else []).length ≤ 1 := fun c e => by cases c <;> simp
  unfold edX ed2 ed3 ed4
  rw [List.length_append]
  cases q with
  | false =>
    have := h ((p != false) || !sameHd x y) ⟨id, 1, false, only id⟩
    show (bif (p != false) || !sameHd x y then [(⟨id, 1, false, only id⟩ : S62)] else []).length + 0 ≤ 4
    omega
  | true =>
    show (bif (p != true) || !sameHd x y then [(⟨id, 1, true, hdPt id y⟩ : S62)] else []).length + (_ ++ (_ ++ _) : List S62).length ≤ 4
    rw [List.length_append, List.length_append]
    have h1 := h ((p != true) || !sameHd x y) ⟨id, 1, true, hdPt id y⟩
    have h2 := h (x.f3 != y.f3) ⟨id, 2, true, ⟨id, 0, ⟨#[]⟩, y.f3, 0, [], []⟩⟩
    have h3 := h (!eqq x.f5 y.f5) ⟨id, 3, true, ⟨id, 0, ⟨#[]⟩, false, 0, y.f5, []⟩⟩
    have h4 := h (!eqq x.f6 y.f6) ⟨id, 4, true, ⟨id, 0, ⟨#[]⟩, false, 0, [], y.f6⟩⟩
    omega
theorem edI_len (a b : List S47) (id : ByteArray) : (edI a b id).length ≤ 4 := edX_len _ _ _ _ _
theorem flat_len (a b : List S47) (I : List ByteArray) : (I.flatMap (edI a b)).length ≤ 4 * I.length := by
  induction I with
  | nil => simp
  | cons i I ih => rw [List.flatMap_cons, List.length_append, List.length_cons]; have := edI_len a b i; omega
theorem c47 (fa fb : List ByteArray) (a b : List S47) (ha : SzM fa a) (hb : SzM fb b) : PCall cx.P 47 [encM fa a, encM fb b] (.tup [.row 10 ((dfR fa a fb b).1.map enc62), .int .i64 (dfR fa a fb b).2]) := pcall3 Tryz.f47 (by kernel_rfl) (by kernel_rfl) <| by
  have h30 := c30 fa a ha
  have h30' := c30 fb b hb
  unfold encM at h30 h30' ⊢
  conv => whnf
  refine ⟨_, h30, ?_⟩
  conv => whnf
  conv => whnf
  refine ⟨fun w1 => ?_, fun w1 => ?_⟩
  · conv => whnf
    exact .trans (.tup2 .nils .refl) (.of (by rw [show dfR fa a fb b = ([], 7) from by unfold dfR; rw [show bP (IsN fa a) = false by simpa using w1]; rfl]; rfl))
  · conv => whnf
    refine ⟨_, h30', ?_⟩
    conv => whnf
    conv => whnf
    refine ⟨fun w2 => ?_, fun w2 => ?_⟩
    · conv => whnf
      exact .trans (.tup2 .nils .refl) (.of (by rw [show dfR fa a fb b = ([], 7) from by unfold dfR; rw [show bP (IsN fb b) = false by simpa using w2, Bool.and_false]; rfl]; rfl))
    · obtain ⟨ra, Fa, rfl, hoa, hna⟩ := bP_iff.1 (show bP (IsN fa a) = true by simpa using w1)
      obtain ⟨rb, Fb, rfl, hob, hnb⟩ := bP_iff.1 (show bP (IsN fb b) = true by simpa using w2)
      have hla : (ra :: Fa).length ≤ 16 := Nat.succ_le_succ hoa.n16
      have hlb : (rb :: Fb).length ≤ 16 := Nat.succ_le_succ hob.n16
      have hfa := hoa.files6
      have hfb := hob.files6
      have h89 := c89 fb _ hb
      have h90 := c90 fa fb (ra :: Fa) (rb :: Fb) (by omega) (by omega)
      unfold encM at h89 h90
      obtain ⟨A, hA⟩ : ∃ A, A = ra :: Fa := ⟨_, rfl⟩
      obtain ⟨B, hB⟩ : ∃ B, B = rb :: Fb := ⟨_, rfl⟩
      rw [← hA] at h90 ha hla ⊢
      rw [← hB] at h90 h89 hb hlb ⊢
      conv => whnf
      refine ⟨_, h89, ?_⟩
      conv => whnf
      conv => whnf
      refine ⟨_, h90, ?_⟩
      conv => whnf
      conv => whnf
      have hI0 : (idsOf (A ++ B)).length ≤ 32 := by
        have h : (idsOf (A ++ B)).length ≤ ([] : List ByteArray).length + (A ++ B).length := idsOf_len (A ++ B) []
        rw [List.length_append, List.length_nil] at h
        omega
      have hIe : ((idsOf (A ++ B)).map encT).length = (idsOf (A ++ B)).length := List.length_map _
      have hprog : progD fa A fb B = (idsOf (A ++ B)).flatMap (edI A B) ++ (fa.filter fun s => !hasS fb s).map (fun s => ⟨s, 5, false, only s⟩) ++ (fb.filter fun s => !hasS fa s).map (fun s => ⟨s, 5, true, only s⟩) := rfl
      have hspec : dfR fa A fb B = (specD fa A fb B, 0) := by unfold dfR; rw [show bP (IsN fa A) = true by rw [hA]; simpa using w1, show bP (IsN fb B) = true by rw [hB]; simpa using w2]; rfl
      have hsort := sort_prog (a := A) (b := B) hoa.fnodup hob.fnodup
      generalize hI : idsOf (A ++ B) = I at hI0 hIe hprog ⊢
      have hL1 : ∀ j, ((I.take j).flatMap (edI A B)).length ≤ 128 := fun j => by
        have := flat_len A B (I.take j)
        rw [List.length_take] at this
        omega
      refine .inr (.inl ⟨[2, 3, 6, 25, 26, 27], Nat, fun j => ([(2, .bptr 144 0), (3, .bptr 208 0), (6, .own 10 400 0 (((I.take j).flatMap (edI A B)).map enc62).length .opn), (25, .row 1 (I.map encT)), (26, .int .i64 I.length), (27, .int .i64 j)],
        [(400, .live (.arr 10 (((I.take j).flatMap (edI A B)).map enc62))), (208, .live (.box [.row 1 (fb.map encT), .row 7 (B.map enc47)])), (144, .live (.box [.row 1 (fa.map encT), .row 7 (A.map enc47)]))]), fun j => j ≤ I.length, fun j => I.length - j, ?_, fun j hj => ?_⟩)
      · conv => whnf
        refine ⟨0, ?_, Nat.zero_le _⟩
        rw [← hIe]
        exact .nil rfl rfl (.same <| .same <| .chg <| .same <| .same <| .same .nil) .here
      · have hj : j ≤ I.length := hj
        have hLe : (((I.take j).flatMap (edI A B)).map enc62).length = ((I.take j).flatMap (edI A B)).length := List.length_map _
        have hLb := hL1 j
        conv => whnf
        refine ⟨fun w3 => ?_, fun w3 => ?_⟩
        · replace w3 := lti w3
          obtain ⟨id, hid⟩ := at_ex w3
          have h91 := c91 fa fb A B ha hb id
          have hed := edI_len A B id
          unfold encM at h91
          conv => whnf
          refine ⟨⟨Int.natCast_nonneg _, by omega⟩, ?_⟩
          conv => whnf
          conv => whnf
          refine ⟨_, map_at hid, ?_⟩
          conv => whnf
          conv => whnf
          refine ⟨_, h91, ?_⟩
          conv => whnf
          conv => whnf
          refine ⟨⟨Nat.zero_add _, by rw [List.length_map, List.length_map]; show (_ + _) * 136 ≤ 2 ^ 47; omega⟩, ?_⟩
          conv => whnf
          conv => whnf
          refine ⟨j + 1, ?_, w3, by show I.length - (j + 1) < I.length - j; omega⟩
          dsimp only
          have hnx : (I.take (j + 1)).flatMap (edI A B) = (I.take j).flatMap (edI A B) ++ edI A B id := by
            rw [snoc_take hid, List.flatMap_append]
            congr 1
            exact List.append_nil _
          rw [hnx, up1 w3 (by omega), List.map_append, List.length_append]
          exact .of rfl
        · replace w3 := nlti w3
          conv => whnf
          have hIj : I.take j = I := List.take_of_length_le (by omega)
          obtain ⟨P, hP⟩ : ∃ P, P = I.flatMap (edI A B) := ⟨_, rfl⟩
          have hPj : (I.take j).flatMap (edI A B) = P := by rw [hIj, hP]
          rw [← hP] at hprog
          rw [hPj] at hLe hLb
          have hfe : (fa.map encT).length = fa.length := List.length_map _
          have hfe' : (fb.map encT).length = fb.length := List.length_map _
          obtain ⟨Z, hZ⟩ : ∃ Z : Nat → List S62, Z = fun j => P ++ ((fa.take j).filter fun s => !hasS fb s).map (fun s => ⟨s, 5, false, only s⟩) := ⟨_, rfl⟩
          have hZl : ∀ j, (Z j).length ≤ 134 := fun j => by
            rw [hZ]
            have h := List.length_filter_le (fun s => !hasS fb s) (fa.take j)
            rw [List.length_take] at h
            show (P ++ _).length ≤ 134
            rw [List.length_append, List.length_map]
            omega
          refine .inr (.inl ⟨[2, 3, 6, 39, 40, 41], Nat, fun j => ([(2, .bptr 144 0), (3, .bptr 208 0), (6, .own 10 400 0 ((Z j).map enc62).length .opn), (39, .row 1 (fa.map encT)), (40, .int .i64 fa.length), (41, .int .i64 j)],
            [(400, .live (.arr 10 ((Z j).map enc62))), (208, .live (.box [.row 1 (fb.map encT), .row 7 (B.map enc47)])), (144, .live (.box [.row 1 (fa.map encT), .row 7 (A.map enc47)]))]), fun j => j ≤ fa.length, fun j => fa.length - j, ?_, fun j hj => ?_⟩)
          · conv => whnf
            refine ⟨0, ?_, Nat.zero_le _⟩
            dsimp only
            rw [hPj, show Z 0 = P from by rw [hZ]; exact List.append_nil _, ← hfe]
            exact .of rfl
          · have hj : j ≤ fa.length := hj
            have hZe : ((Z j).map enc62).length = (Z j).length := List.length_map _
            have hZb := hZl j
            conv => whnf
            refine ⟨fun w4 => ?_, fun w4 => ?_⟩
            · replace w4 := lti w4
              obtain ⟨u, hu⟩ := at_ex w4
              have h92 := c92 fb u (by omega)
              conv => whnf
              refine ⟨⟨Int.natCast_nonneg _, by omega⟩, ?_⟩
              conv => whnf
              conv => whnf
              refine ⟨_, map_at hu, ?_⟩
              conv => whnf
              conv => whnf
              refine ⟨_, h92, ?_⟩
              conv => whnf
              conv => whnf
              conv => whnf
              refine ⟨fun w5 => ?_, fun w5 => ?_⟩
              · conv => whnf
                refine ⟨by simpa using by omega, ?_⟩
                conv => whnf
                conv => whnf
                refine ⟨by simpa using by omega, ?_⟩
                conv => whnf
                conv => whnf
                refine ⟨j + 1, ?_, w4, by show fa.length - (j + 1) < fa.length - j; omega⟩
                dsimp only
                have hnx : Z (j + 1) = Z j ++ [⟨u, 5, false, only u⟩] := by
                  rw [hZ]
                  show P ++ _ = P ++ _ ++ _
                  rw [snoc_take hu, List.filter_append, show [u].filter (fun s => !hasS fb s) = [u] from by rw [List.filter_cons, if_pos (by simpa using w5)]; rfl, List.map_append, List.append_assoc]
                  rfl
                rw [hnx, up1 w4 (by omega), List.map_append, List.length_append]
                exact .le (.refl _) (.cons _ _ _ _ _ (.rows (.app (.refl _) (.cons (by repeat (first | exact .nil | refine .cons (by first | exact .refl | exact .lit rfl | exact .nils) ?_)) .nil))) (.refl _))
              · conv => whnf
                refine ⟨j + 1, ?_, w4, by show fa.length - (j + 1) < fa.length - j; omega⟩
                dsimp only
                have hnx : Z (j + 1) = Z j := by
                  rw [hZ]
                  show P ++ _ = P ++ _
                  rw [snoc_take hu, List.filter_append, show [u].filter (fun s => !hasS fb s) = [] from by rw [List.filter_cons, if_neg (by simpa using w5)]; rfl, List.append_nil]
                rw [hnx, up1 w4 (by omega)]
                exact .of rfl
            · replace w4 := nlti w4
              conv => whnf
              have hPj : Z j = P ++ (fa.filter fun s => !hasS fb s).map (fun s => ⟨s, 5, false, only s⟩) := by rw [hZ]; show P ++ _ = _; rw [List.take_of_length_le (by omega)]
              obtain ⟨Y, hY⟩ : ∃ Y : Nat → List S62, Y = fun k => Z j ++ ((fb.take k).filter fun s => !hasS fa s).map (fun s => ⟨s, 5, true, only s⟩) := ⟨_, rfl⟩
              have hYl : ∀ k, (Y k).length ≤ 140 := fun k => by
                rw [hY]
                have h := List.length_filter_le (fun s => !hasS fa s) (fb.take k)
                rw [List.length_take] at h
                show (Z j ++ _).length ≤ 140
                rw [List.length_append, List.length_map]
                omega
              refine .inr (.inl ⟨[2, 6, 59, 60, 61], Nat, fun k => ([(2, .bptr 144 0), (6, .own 10 400 0 ((Y k).map enc62).length .opn), (59, .row 1 (fb.map encT)), (60, .int .i64 fb.length), (61, .int .i64 k)],
                [(400, .live (.arr 10 ((Y k).map enc62))), (144, .live (.box [.row 1 (fa.map encT), .row 7 (A.map enc47)]))]), fun k => k ≤ fb.length, fun k => fb.length - k, ?_, fun k hk => ?_⟩)
              · conv => whnf
                refine ⟨0, ?_, Nat.zero_le _⟩
                dsimp only
                rw [show Y 0 = Z j from by rw [hY]; exact List.append_nil _, ← hfe']
                exact .of rfl
              · have hk : k ≤ fb.length := hk
                have hYe : ((Y k).map enc62).length = (Y k).length := List.length_map _
                have hYb := hYl k
                conv => whnf
                refine ⟨fun w5 => ?_, fun w5 => ?_⟩
                · replace w5 := lti w5
                  obtain ⟨u, hu⟩ := at_ex w5
                  have h92 := c92 fa u (by omega)
                  conv => whnf
                  refine ⟨⟨Int.natCast_nonneg _, by omega⟩, ?_⟩
                  conv => whnf
                  conv => whnf
                  refine ⟨_, map_at hu, ?_⟩
                  conv => whnf
                  conv => whnf
                  refine ⟨_, h92, ?_⟩
                  conv => whnf
                  conv => whnf
                  refine ⟨fun w6 => ?_, fun w6 => ?_⟩
                  · conv => whnf
                    refine ⟨by simpa using by omega, ?_⟩
                    conv => whnf
                    conv => whnf
                    refine ⟨by simpa using by omega, ?_⟩
                    conv => whnf
                    conv => whnf
                    refine ⟨k + 1, ?_, w5, by show fb.length - (k + 1) < fb.length - k; omega⟩
                    dsimp only
                    have hnx : Y (k + 1) = Y k ++ [⟨u, 5, true, only u⟩] := by
                      rw [hY]
                      show Z j ++ _ = Z j ++ _ ++ _
                      rw [snoc_take hu, List.filter_append, show [u].filter (fun s => !hasS fa s) = [u] from by rw [List.filter_cons, if_pos (by simpa using w6)]; rfl, List.map_append, List.append_assoc]
                      rfl
                    rw [hnx, up1 w5 (by omega), List.map_append, List.length_append]
                    exact .le (.refl _) (.cons _ _ _ _ _ (.rows (.app (.refl _) (.cons (by repeat (first | exact .nil | refine .cons (by first | exact .refl | exact .lit rfl | exact .nils) ?_)) .nil))) (.refl _))
                  · conv => whnf
                    refine ⟨k + 1, ?_, w5, by show fb.length - (k + 1) < fb.length - k; omega⟩
                    dsimp only
                    have hnx : Y (k + 1) = Y k := by
                      rw [hY]
                      show Z j ++ _ = Z j ++ _
                      rw [snoc_take hu, List.filter_append, show [u].filter (fun s => !hasS fa s) = [] from by rw [List.filter_cons, if_neg (by simpa using w6)]; rfl, List.append_nil]
                    rw [hnx, up1 w5 (by omega)]
                    exact .of rfl
                · replace w5 := nlti w5
                  have hYP : Y k = progD fa A fb B := by
                    rw [hprog, ← hPj, hY]
                    show Z j ++ _ = _
                    rw [List.take_of_length_le (by omega)]
                  have h93 := c93 (progD fa A fb B) (by rw [← hYP]; omega) (fun x hx y hy => prog_cmp hx hy)
                  rw [← hYP] at h93
                  conv => whnf
                  refine ⟨_, _, h93, ?_⟩
                  conv => whnf
                  conv => whnf
                  refine ⟨by rw [Nat.zero_add, List.length_map, List.length_map, sortL_length], ?_⟩
                  conv => whnf
                  conv => whnf
                  exact .of (by rw [hspec, List.drop_zero, hYP, hsort])
end Go.Ab
namespace Go.Ab
open Go.Proofs Sn
set_option maxRecDepth 100000
set_option linter.unnecessarySimpa false
set_option maxHeartbeats 4000000
def encP (m : List ByteArray × List S47) : List AV := [.row 1 (m.1.map encT), .row 7 (m.2.map enc47)]
theorem rises_last {T : List ByteArray} {x y : ByteArray} (h : Rises cmpS (T ++ [y] ++ [x])) : x ∈ T ++ [y] ↔ x = y := by
  constructor
  · intro hx
    rcases List.mem_append.1 hx with hx | hx
    · obtain ⟨h1, _, h3⟩ := List.pairwise_append.1 h
      have h4 := (List.pairwise_append.1 h1).2.2 x hx y (List.mem_singleton.2 rfl)
      have h5 := h3 y (List.mem_append.2 (.inr (List.mem_singleton.2 rfl))) x (List.mem_singleton.2 rfl)
      have h6 := isCmp_s.anti x y
      rcases isCmp_s.rng x y with e | e | e
      · rw [e] at h6
        exact absurd (by omega) h5
      · exact (isCmp_s.eq0 x y).1 e
      · exact absurd e h4
    · exact List.mem_singleton.1 hx
  · intro e
    rw [e]
    exact List.mem_append.2 (.inr (List.mem_singleton.2 rfl))
theorem sortD_old {T : List ByteArray} {x : ByteArray} (hx : x ∈ T) : sortD cmpS (T ++ [x]) = sortD cmpS T := sortD_of_mem isCmp_s fun a => by
  rw [List.mem_append, List.mem_singleton]
  exact ⟨fun h => h.elim id fun e => e ▸ hx, .inl⟩
theorem sortD_new {T : List ByteArray} {x : ByteArray} (hr : Rises cmpS (T ++ [x])) (hx : x ∉ T) : sortD cmpS (T ++ [x]) = sortD cmpS T ++ [x] := by
  refine strict_eq isCmp_s (sortD_strict isCmp_s _) (List.pairwise_append.2 ⟨sortD_strict isCmp_s _, List.pairwise_singleton .., fun a ha b hb => ?_⟩) fun a => by rw [mem_sortD isCmp_s, List.mem_append, List.mem_append, mem_sortD isCmp_s]
  rw [List.mem_singleton.1 hb]
  have ha := (mem_sortD isCmp_s).1 ha
  have h := (List.pairwise_append.1 hr).2.2 a ha x (List.mem_singleton.2 rfl)
  rcases isCmp_s.rng a x with e | e | e
  · exact e
  · exact absurd ((isCmp_s.eq0 a x).1 e ▸ ha) hx
  · exact absurd e h
theorem rises_take {l : List ByteArray} (h : Rises cmpS l) (n : Nat) : Rises cmpS (l.take n) := List.Pairwise.sublist (List.take_sublist n l) h
theorem c95 (L : List (List ByteArray × List S47)) (hL : L.length ≤ 8) (hm : ∀ m ∈ L, m.1.length ≤ 1024 ∧ m.2.length ≤ 1024) : PCall cx.P 95 [.row 2 (L.map encP)] (.row 1 ((namesOf L).map encT)) := pcall3 Tryz.f95 (by kernel_rfl) (by kernel_rfl) <| by
  have hE : (L.map encP).length = L.length := List.length_map _
  obtain ⟨G, hG⟩ : ∃ G : (List ByteArray × List S47) → List ByteArray, G = fun m => m.1 ++ m.2.map S47.f0 := ⟨_, rfl⟩
  have hGl : ∀ m ∈ L, (G m).length ≤ 2048 := fun m h => by
    rw [hG]
    show (m.1 ++ m.2.map S47.f0).length ≤ 2048
    rw [List.length_append, List.length_map]
    have := hm m h
    omega
  have hFl : ∀ l : List (List ByteArray × List S47), (∀ m ∈ l, m ∈ L) → (l.flatMap G).length ≤ 2048 * l.length := fun l => by
    induction l with
    | nil => intro _; simp
    | cons m l ih =>
      intro h
      rw [List.flatMap_cons, List.length_append, List.length_cons]
      have h1 := hGl m (h m (List.mem_cons_self ..))
      have h2 := ih fun x hx => h x (List.mem_cons_of_mem _ hx)
      omega
  have hTl : ∀ j, ((L.take j).flatMap G).length ≤ 16384 := fun j => by
    have h := hFl (L.take j) fun m h => List.mem_of_mem_take h
    rw [List.length_take] at h
    omega
  conv => whnf
  refine .inr (.inl ⟨[0, 3, 4], Nat, fun j => ([(0, .row 2 (L.map encP)), (3, .own 1 208 0 (((L.take j).flatMap G).map encT).length .opn), (4, .int .i64 j)], [(208, .live (.arr 1 (((L.take j).flatMap G).map encT)))]), fun j => j ≤ L.length, fun j => L.length - j, ?_, fun j hj => ?_⟩)
  · conv => whnf
    exact ⟨0, .nil rfl rfl (.same <| .chg <| .same .nil) .here, Nat.zero_le _⟩
  · have hj : j ≤ L.length := hj
    have hTe : (((L.take j).flatMap G).map encT).length = ((L.take j).flatMap G).length := List.length_map _
    have hTb := hTl j
    conv => whnf
    refine ⟨fun w1 => ?_, fun w1 => ?_⟩
    · replace w1 := ltm w1
      obtain ⟨m, hmj⟩ := at_ex w1
      have hml := hm m (List.mem_of_getElem? hmj)
      have hme : (m.1.map encT).length = m.1.length := List.length_map _
      have hme2 : (m.2.map enc47).length = m.2.length := List.length_map _
      conv => whnf
      refine ⟨⟨Int.natCast_nonneg _, by omega⟩, ?_⟩
      conv => whnf
      conv => whnf
      refine ⟨_, map_at hmj, ?_⟩
      conv => whnf
      conv => whnf
      obtain ⟨Z, hZ⟩ : ∃ Z : Nat → List ByteArray, Z = fun k => (L.take j).flatMap G ++ m.1 ++ (m.2.take k).map S47.f0 := ⟨_, rfl⟩
      have hZb : ∀ k, (Z k).length ≤ 18432 := fun k => by
        rw [hZ]
        show ((L.take j).flatMap G ++ m.1 ++ (m.2.take k).map S47.f0).length ≤ _
        rw [List.length_append, List.length_append, List.length_map, List.length_take]
        omega
      refine ⟨⟨Nat.zero_add _, by show (_ + _) * 16 ≤ 2 ^ 47; omega⟩, ?_⟩
      conv => whnf
      conv => whnf
      refine .inr (.inl ⟨[0, 3, 4, 5], Nat, fun k => ([(0, .row 2 (L.map encP)), (3, .own 1 208 0 ((Z k).map encT).length .opn), (4, .int .i64 j), (5, .int .i64 k)], [(208, .live (.arr 1 ((Z k).map encT)))]), fun k => k ≤ m.2.length, fun k => m.2.length - k, ?_, fun k hk => ?_⟩)
      · conv => whnf
        refine ⟨0, ?_, Nat.zero_le _⟩
        dsimp only
        rw [show Z 0 = (L.take j).flatMap G ++ m.1 from by rw [hZ]; exact List.append_nil _, List.map_append, List.length_append]
        exact .of rfl
      · have hk : k ≤ m.2.length := hk
        have hZe : ((Z k).map encT).length = (Z k).length := List.length_map _
        have hZb := hZb k
        conv => whnf
        refine ⟨⟨Int.natCast_nonneg _, by omega⟩, ?_⟩
        conv => whnf
        conv => whnf
        refine ⟨_, map_at hmj, ?_⟩
        conv => whnf
        conv => whnf
        refine ⟨fun w2 => ?_, fun w2 => ?_⟩
        · replace w2 := ltm w2
          obtain ⟨u, hu⟩ := at_ex w2
          conv => whnf
          refine ⟨⟨Int.natCast_nonneg _, by omega⟩, ?_⟩
          conv => whnf
          conv => whnf
          refine ⟨_, map_at hmj, ?_⟩
          conv => whnf
          conv => whnf
          refine ⟨⟨Int.natCast_nonneg _, by omega⟩, ?_⟩
          conv => whnf
          conv => whnf
          refine ⟨_, map_at hu, ?_⟩
          conv => whnf
          conv => whnf
          refine ⟨by simpa using by omega, ?_⟩
          conv => whnf
          conv => whnf
          refine ⟨by simpa using by omega, ?_⟩
          conv => whnf
          conv => whnf
          conv => whnf
          refine ⟨k + 1, ?_, w2, by show m.2.length - (k + 1) < m.2.length - k; omega⟩
          dsimp only
          have hnx : Z (k + 1) = Z k ++ [u.f0] := by
            rw [hZ]
            show _ ++ (m.2.take (k + 1)).map S47.f0 = _ ++ (m.2.take k).map S47.f0 ++ _
            rw [snoc_take hu, List.map_append, List.append_assoc _ _ [u.f0]]
            rfl
          rw [hnx, up1 w2 (by omega), List.map_append, List.length_append]
          exact .of rfl
        · replace w2 := nltm w2
          conv => whnf
          conv => whnf
          refine ⟨j + 1, ?_, w1, by show L.length - (j + 1) < L.length - j; omega⟩
          dsimp only
          have hnx : (L.take (j + 1)).flatMap G = Z k := by
            rw [hZ]
            show _ = (L.take j).flatMap G ++ m.1 ++ (m.2.take k).map S47.f0
            rw [snoc_take hmj, List.flatMap_append, List.append_assoc, List.take_of_length_le (by omega : m.2.length ≤ k)]
            congr 1
            rw [hG]
            exact List.append_nil _
          rw [hnx, up1 w1 (by omega)]
          exact .of rfl
    · replace w1 := nltm w1
      have hT : (L.take j).flatMap G = L.flatMap G := by rw [List.take_of_length_le (by omega)]
      obtain ⟨S, hS⟩ : ∃ S, S = sortL cmpS ((L.take j).flatMap G) := ⟨_, rfl⟩
      have hSr : Rises cmpS S := by rw [hS]; exact sortL_rises isCmp_s _
      have hSl : S.length ≤ 16384 := by rw [hS, sortL_length]; exact hTb
      have hSe : (S.map encT).length = S.length := List.length_map _
      have hSn : sortD cmpS S = namesOf L := by
        unfold namesOf
        refine sortD_of_mem isCmp_s fun a => ?_
        rw [hS, (sortL_perm _).mem_iff, hT, hG]
      have h81 := c81 ((L.take j).flatMap G) (by omega)
      rw [← hS] at h81
      conv => whnf
      refine ⟨by omega, ?_⟩
      conv => whnf
      conv => whnf
      refine ⟨_, h81, ?_⟩
      conv => whnf
      conv => whnf
      refine .inr (.inl ⟨[3, 6, 7], Nat, fun k => ([(3, .row 1 (S.map encT)), (6, .own 1 400 0 ((sortD cmpS (S.take k)).map encT).length .opn), (7, .int .i64 k)], [(400, .live (.arr 1 ((sortD cmpS (S.take k)).map encT)))]), fun k => k ≤ S.length, fun k => S.length - k, ?_, fun k hk => ?_⟩)
      · conv => whnf
        exact ⟨0, .nil rfl rfl (.same <| .chg <| .same .nil) .here, Nat.zero_le _⟩
      · have hk : k ≤ S.length := hk
        have hDe : ((sortD cmpS (S.take k)).map encT).length = (sortD cmpS (S.take k)).length := List.length_map _
        have hDb : (sortD cmpS (S.take k)).length ≤ k := Nat.le_trans (sortD_length _) (by rw [List.length_take]; omega)
        conv => whnf
        refine ⟨fun w2 => ?_, fun w2 => ?_⟩
        · replace w2 := ltm w2
          obtain ⟨u, hu⟩ := at_ex w2
          rcases k with _ | k
          · have hnx : sortD cmpS (S.take (0 + 1)) = sortD cmpS (S.take 0) ++ [u] := by rw [snoc_take hu]; rfl
            conv => whnf
            conv => whnf
            refine ⟨fun w3 => ?_, fun w3 => ?_⟩
            · replace w3 := of_decide_eq_true w3
              conv => whnf
              refine ⟨by kernel_rfl, ?_⟩
              conv => whnf
              conv => whnf
              refine ⟨⟨Int.natCast_nonneg _, by omega⟩, ?_⟩
              conv => whnf
              conv => whnf
              refine ⟨_, map_at hu, ?_⟩
              conv => whnf
              conv => whnf
              refine ⟨by simpa using by omega, ?_⟩
              conv => whnf
              conv => whnf
              refine ⟨by simp_all, ?_⟩
              conv => whnf
              conv => whnf
              refine ⟨0 + 1, ?_, by omega, by show S.length - (0 + 1) < S.length - 0; omega⟩
              dsimp only
              rw [hnx, List.map_append, List.length_append]
              exact .of rfl
            · cases w3
          · obtain ⟨v, hv⟩ := at_ex (show k < S.length by omega)
            have hT1 : S.take (k + 1) = S.take k ++ [v] := snoc_take hv
            have hT2 : S.take (k + 1 + 1) = S.take k ++ [v] ++ [u] := by rw [snoc_take hu, hT1]
            have hr2 := rises_take hSr (k + 1 + 1)
            rw [hT2] at hr2
            have hlast := rises_last hr2
            have hpv : IntKind.i64.wrap (((k + 1 : Nat) : Int) - 1) = (k : Int) := by rw [IntWalk.i64_in _ (by omega)]; omega
            conv => whnf
            conv => whnf
            refine ⟨fun w3 => ?_, fun w3 => ?_⟩
            · cases w3
            · replace w3 := of_decide_eq_false w3
              conv => whnf
              refine ⟨⟨Int.natCast_nonneg _, by omega⟩, ?_⟩
              conv => whnf
              conv => whnf
              refine ⟨_, map_at hu, ?_⟩
              conv => whnf
              conv => whnf
              refine ⟨by omega, ?_⟩
              conv => whnf
              conv => whnf
              obtain ⟨v4, hv4⟩ := at_ex (show (IntKind.i64.wrap (↑(k + 1) - 1)).toNat < (S).length by omega)
              refine ⟨_, map_at hv4, ?_⟩
              conv => whnf
              conv => whnf
              refine ⟨by kernel_rfl, ?_⟩
              conv => whnf
              conv => whnf
              refine ⟨fun w5 => ?_, fun w5 => ?_⟩
              · replace w5 := seN w5
                conv => whnf
                refine ⟨⟨Int.natCast_nonneg _, by omega⟩, ?_⟩
                conv => whnf
                conv => whnf
                refine ⟨_, map_at hu, ?_⟩
                conv => whnf
                conv => whnf
                refine ⟨by simpa using by omega, ?_⟩
                conv => whnf
                conv => whnf
                refine ⟨by simpa using by omega, ?_⟩
                conv => whnf
                conv => whnf
                refine ⟨k + 1 + 1, ?_, by omega, by show S.length - (k + 1 + 1) < S.length - (k + 1); omega⟩
                dsimp only
                have hvv : v4 = v := by rw [hpv, Int.toNat_natCast, hv] at hv4; exact (Option.some.inj hv4).symm
                have hnx : sortD cmpS (S.take (k + 1 + 1)) = sortD cmpS (S.take (k + 1)) ++ [u] := by
                  rw [hT2, hT1]
                  exact sortD_new hr2 fun h => w5 ((hlast.1 h).trans hvv.symm)
                rw [hnx, up1 w2 (by omega), List.map_append, List.length_append]
                exact .of rfl
              · replace w5 := seY w5
                conv => whnf
                refine ⟨k + 1 + 1, ?_, by omega, by show S.length - (k + 1 + 1) < S.length - (k + 1); omega⟩
                dsimp only
                have hvv : v4 = v := by rw [hpv, Int.toNat_natCast, hv] at hv4; exact (Option.some.inj hv4).symm
                have hnx : sortD cmpS (S.take (k + 1 + 1)) = sortD cmpS (S.take (k + 1)) := by
                  rw [hT2, hT1]
                  exact sortD_old (hlast.2 (Eq.trans (by simpa using w5) hvv))
                rw [hnx, up1 w2 (by omega)]
                exact .of rfl
        · replace w2 := nltm w2
          conv => whnf
          refine ⟨by omega, ?_⟩
          conv => whnf
          conv => whnf
          exact .of (by rw [List.drop_zero, List.take_of_length_le (by omega), hSn])
end Go.Ab
namespace Go.Ab
open Go.Proofs Sn
set_option maxRecDepth 100000
set_option linter.unnecessarySimpa false
set_option maxHeartbeats 4000000
def partOf (x : S47) (f : Int) : S47 := if f = 1 then hdPt x.f0 x else if f = 2 then ⟨x.f0, 0, ⟨#[]⟩, x.f3, 0, [], []⟩ else if f = 3 then ⟨x.f0, 0, ⟨#[]⟩, false, 0, x.f5, []⟩ else if f = 4 then ⟨x.f0, 0, ⟨#[]⟩, false, 0, [], x.f6⟩ else only x.f0
theorem Le.it {a0 a1 a2 a4 x3 x5 x6 y3 y5 y6 : AV} (h3 : Le x3 y3) (h5 : Le x5 y5) (h6 : Le x6 y6) : Le (.agg [a0, a1, a2, x3, a4, x5, x6]) (.agg [a0, a1, a2, y3, a4, y5, y6]) := .agg rfl fun j x y hx hy => by
  match j with
  | 0 => cases hx; cases hy; exact .refl
  | 1 => cases hx; cases hy; exact .refl
  | 2 => cases hx; cases hy; exact .refl
  | 3 => cases hx; cases hy; exact h3
  | 4 => cases hx; cases hy; exact .refl
  | 5 => cases hx; cases hy; exact h5
  | 6 => cases hx; cases hy; exact h6
  | j + 7 => simp at hx
theorem c57 (x : S47) (f : Int) : PCall cx.P 57 [.agg (enc47 x), .int .i64 f] (.agg (enc47 (partOf x f))) := pcall3 Tryz.f57 (by kernel_rfl) (by kernel_rfl) <| by
  unfold partOf
  conv => whnf
  conv => whnf
  refine ⟨fun w1 => ?_, fun w1 => ?_⟩
  · replace w1 := of_decide_eq_true w1
    conv => whnf
    refine ⟨by kernel_rfl, ?_⟩
    conv => whnf
    conv => whnf
    rw [if_pos w1]; exact .it (.lit rfl) .nils .nils
  · replace w1 := of_decide_eq_false w1
    conv => whnf
    refine ⟨fun w2 => ?_, fun w2 => ?_⟩
    · replace w2 := of_decide_eq_true w2
      conv => whnf
      rw [if_neg w1, if_pos w2]; exact .it .refl .nils .nils
    · replace w2 := of_decide_eq_false w2
      conv => whnf
      refine ⟨fun w3 => ?_, fun w3 => ?_⟩
      · replace w3 := of_decide_eq_true w3
        conv => whnf
        rw [if_neg w1, if_neg w2, if_pos w3]; exact .it (.lit rfl) .refl .nils
      · replace w3 := of_decide_eq_false w3
        conv => whnf
        refine ⟨fun w4 => ?_, fun w4 => ?_⟩
        · replace w4 := of_decide_eq_true w4
          conv => whnf
          rw [if_neg w1, if_neg w2, if_neg w3, if_pos w4]; exact .it (.lit rfl) .nils .refl
        · replace w4 := of_decide_eq_false w4
          conv => whnf
          rw [if_neg w1, if_neg w2, if_neg w3, if_neg w4]; exact .it (.lit rfl) .nils .nils
theorem c56 (f : List ByteArray) (m : List S47) (id : ByteArray) (hm : m.length ≤ 1048576) : PCall cx.P 56 [encM f m, .str id] (.tup [.agg (enc47 (getI m id)), .bool (hasI m id)]) := pcall3 Tryz.f56 (by kernel_rfl) (by kernel_rfl) <| by
  have h151 := c45p f m id (by omega)
  unfold encM at h151 ⊢
  conv => whnf
  refine ⟨_, h151, ?_⟩
  conv => whnf
  conv => whnf
  refine ⟨fun w1 => ?_, fun w1 => ?_⟩
  · replace w1 := of_decide_eq_true w1
    conv => whnf
    have hh : hasI m id = false := decide_eq_false (by omega)
    rw [getI_none hh, hh]
    exact .tup2 (.it (.lit rfl) .nils .nils) (.lit rfl)
  · replace w1 := of_decide_eq_false w1
    have hh : hasI m id = true := decide_eq_true (by omega)
    obtain ⟨i, hi, _, _, hp⟩ := placeOf_lt (show 0 ≤ placeOf m id by omega)
    have hx : m[i]? = some (getI m id) := by unfold getI; rw [hh, hp, Int.toNat_natCast, getD_of hi]; exact List.getElem?_eq_getElem hi
    have hE : (m.map enc47).length = m.length := List.length_map _
    rw [hp]
    conv => whnf
    refine ⟨⟨Int.natCast_nonneg _, by omega⟩, ?_⟩
    conv => whnf
    conv => whnf
    refine ⟨_, map_at hx, ?_⟩
    conv => whnf
    conv => whnf
    rw [hh]
    exact .tup2 .refl (.lit rfl)
end Go.Ab
namespace Go.Ab
open Go.Proofs Sn
set_option maxRecDepth 100000
set_option linter.unnecessarySimpa false
set_option maxHeartbeats 4000000
theorem funcP_same {fn fn' : Func} {args : List AV} {r : AV} (hb : fn'.body = fn.body) (hr : fn'.results = fn.results) (h : funcP cx fn args r) : funcP cx fn' args r := by
  unfold funcP funcW at *
  rw [hb, hr]
  exact h
theorem c46 (f : List ByteArray) (m : List S47) (h : BgM f m) : PCall cx.P 46 [encM f m] (.bool (decide (400 ≤ totM f m))) := pcall Tryz.f46 (by kernel_rfl) (by kernel_rfl) (funcP_same (by kernel_rfl) (by kernel_rfl) (p29 f m h))
end Go.Ab
namespace Go.Ab
open Go.Proofs Sn
set_option maxRecDepth 100000
set_option linter.unnecessarySimpa false
set_option maxHeartbeats 4000000
theorem Sz47.part {x : S47} (h : Sz47 x) (f : Int) : Sz47 (partOf x f) := by
  have n : ([] : List S29).length ≤ 1048576 ∧ ∀ s ∈ ([] : List S29), Sz29 s := ⟨by decide, fun s h => by cases h⟩
  unfold partOf
  split
  · exact ⟨n, n⟩
  · split
    · exact ⟨n, n⟩
    · split
      · exact ⟨h.1, n⟩
      · split
        · exact ⟨n, h.2⟩
        · exact ⟨n, n⟩
theorem edF_len (fa fb : List ByteArray) (id : ByteArray) : (edF fa fb id).length ≤ 1 := by
  unfold edF
  cases hasS fa id != hasS fb id <;> simp
end Go.Ab
namespace Go.Ab
open Sn
theorem pre_of_perm {l1 l2 : List S47} (hn : (l2.map S47.f0).Nodup) (hp : l1.Perm l2) (f : S47 → S47) : ∀ (k : Nat) (x : S47), pre S47.f0 S47.f2 ordID f l1 k x = pre S47.f0 S47.f2 ordID f l2 k x
  | 0, _ => rfl
  | k + 1, x => by
    show f x :: (ordID (kidsOf S47.f2 l1 x.f0)).flatMap _ = f x :: (ordID (kidsOf S47.f2 l2 x.f0)).flatMap _
    have e : ordID (kidsOf S47.f2 l1 x.f0) = ordID (kidsOf S47.f2 l2 x.f0) := ordID_perm (hn.sublist (List.Sublist.map _ List.filter_sublist)) (hp.filter _)
    rw [e]
    congr 1
    exact flatMap_congr' fun c _ => pre_of_perm hn hp f k c
theorem Ok.root_only {fs : List ByteArray} {r : S47} {F : List S47} (h : Ok fs r F) {y : S47} (hy : y ∈ r :: F) (he : y.f2 = ByteArray.empty) : y = r := by
  obtain ⟨n, _, ha⟩ := h.reach y hy
  cases n with
  | zero => exact ha
  | succ n =>
    obtain ⟨p, hp, e, _⟩ := ha
    have := h.names p hp
    rw [e, he, nameIs_empty] at this
    cases this
theorem IsN.pre {fs : List ByteArray} {r : S47} {F : List S47} (h : Ok fs r F) (ht : turnT ordID nIt r F = F) : pre S47.f0 S47.f2 ordID nIt (r :: F) 20 r = r :: F := by
  rw [turn_pre, norm_root h, ht]
def OrdTo (fs : List ByteArray) (xs : List S47) (f' : List ByteArray) (x' : List S47) : Prop := IsN f' x' ∧ f'.Perm fs ∧ x'.Perm xs
theorem OrdTo.uniq {fs : List ByteArray} {xs : List S47} {f1 f2 : List ByteArray} {x1 x2 : List S47} (h1 : OrdTo fs xs f1 x1) (h2 : OrdTo fs xs f2 x2) : f1 = f2 ∧ x1 = x2 := by
  obtain ⟨⟨r1, F1, rfl, o1, s1, t1⟩, p1, q1⟩ := h1
  obtain ⟨⟨r2, F2, rfl, o2, s2, t2⟩, p2, q2⟩ := h2
  have hq := q1.trans q2.symm
  have hr : r1 = r2 := o2.root_only (hq.mem_iff.1 (List.mem_cons_self ..)) o1.plan.2.1
  subst hr
  exact ⟨s1.symm.trans ((sortL_of_perm isCmp_s (p1.trans p2.symm)).trans s2), (IsN.pre o1 t1).symm.trans ((pre_of_perm o2.nodup hq nIt 20 r1).trans (IsN.pre o2 t2))⟩
theorem OrdTo.self {f : List ByteArray} {m : List S47} (h : IsN f m) : OrdTo f m f m := ⟨h, .refl _, .refl _⟩
abbrev St := List ByteArray × List S47
noncomputable def ordO (s : St) : Option St := @dite _ (∃ p : St, OrdTo s.1 s.2 p.1 p.2) (Classical.propDecidable _) (fun h => some h.choose) (fun _ => none)
theorem ordO_some {s p : St} : ordO s = some p ↔ OrdTo s.1 s.2 p.1 p.2 := by
  unfold ordO
  constructor
  · intro h
    split at h
    · rename_i h'
      cases h
      exact h'.choose_spec
    · cases h
  · intro h
    have hx : ∃ p : St, OrdTo s.1 s.2 p.1 p.2 := ⟨p, h⟩
    rw [dif_pos hx]
    obtain ⟨h1, h2⟩ := hx.choose_spec.uniq h
    exact congrArg some (Prod.ext h1 h2)
theorem ordO_none {s : St} : ordO s = none ↔ ¬ ∃ p : St, OrdTo s.1 s.2 p.1 p.2 := by
  constructor
  · rintro h ⟨p, hp⟩
    rw [ordO_some.2 hp] at h
    cases h
  · intro h
    cases e : ordO s with
    | none => rfl
    | some p => exact absurd ⟨p, ordO_some.1 e⟩ h
def setF (x : S47) (e : S62) : S47 := if e.f1 = 1 then ⟨x.f0, e.f3.f1, e.f3.f2, x.f3, e.f3.f4, x.f5, x.f6⟩ else if e.f1 = 2 then ⟨x.f0, x.f1, x.f2, e.f3.f3, x.f4, x.f5, x.f6⟩ else if e.f1 = 3 then ⟨x.f0, x.f1, x.f2, x.f3, x.f4, e.f3.f5, x.f6⟩ else if e.f1 = 4 then ⟨x.f0, x.f1, x.f2, x.f3, x.f4, x.f5, e.f3.f6⟩ else x
theorem setF_f0 (x : S47) (e : S62) : (setF x e).f0 = x.f0 := by
  unfold setF
  split
  · rfl
  · split
    · rfl
    · split
      · rfl
      · split <;> rfl
def updI (xs : List S47) (e : S62) : List S47 := xs.map fun x => if x.f0 = e.f0 then setF x e else x
def delI (xs : List S47) (d : ByteArray) : List S47 := xs.filter fun x => decide (x.f0 ≠ d)
def delS (fs : List ByteArray) (d : ByteArray) : List ByteArray := fs.filter fun s => decide (s ≠ d)
def oneS (s : St) (e : S62) : Option St :=
  if e.f1 = 5 then (if hasS s.1 e.f0 = e.f2 then none else if e.f2 = true then some (s.1 ++ [e.f0], s.2) else some (delS s.1 e.f0, s.2))
  else if e.f1 = 1 then (if hasI s.2 e.f0 = true then (if e.f2 = true then some (s.1, updI s.2 e) else some (s.1, delI s.2 e.f0)) else (if e.f2 = true then some (s.1, s.2 ++ [setF (only e.f0) e]) else none))
  else if 2 ≤ e.f1 ∧ e.f1 ≤ 4 then (if hasI s.2 e.f0 = true then some (s.1, updI s.2 e) else none)
  else none
def runS : List S62 → St → Option St
  | [], s => some s
  | e :: l, s => match oneS s e with | some t => runS l t | none => none
theorem runS_append (l k : List S62) (s : St) : runS (l ++ k) s = match runS l s with | some t => runS k t | none => none := by
  induction l generalizing s with
  | nil => rfl
  | cons e l ih =>
    show (match oneS s e with | some t => runS (l ++ k) t | none => none) = match (match oneS s e with | some t => runS l t | none => none) with | some t => runS k t | none => none
    cases oneS s e with
    | none => rfl
    | some t => exact ih t
def Nm (x : S47) : Prop := nIt x = x ∧ Small x.f5 ∧ Small x.f6
structure Nice (s : St) : Prop where
  fn : s.1.Nodup
  xn : (s.2.map S47.f0).Nodup
  names : ∀ x ∈ s.2, nameIs x.f0 = true
  nm : ∀ x ∈ s.2, Nm x
def NiceE (e : S62) : Prop := nameIs e.f0 = true ∧ Nm e.f3
theorem Nm.ses {x : S47} (h : Nm x) : nSes x.f5 = x.f5 ∧ nSes x.f6 = x.f6 := ⟨congrArg S47.f5 h.1, congrArg S47.f6 h.1⟩
theorem Nm.of {x : S47} (h5 : nSes x.f5 = x.f5) (h6 : nSes x.f6 = x.f6) (k5 : Small x.f5) (k6 : Small x.f6) : Nm x := ⟨by unfold nIt; rw [h5, h6], k5, k6⟩
theorem small_nil : Small [] := ⟨by decide, fun _ h => by cases h⟩
theorem Nm.only (d : ByteArray) : Nm (only d) := .of rfl rfl small_nil small_nil
theorem Nm.set {x : S47} {e : S62} (h : Nm x) (he : Nm e.f3) : Nm (setF x e) := by
  obtain ⟨a, b⟩ := h.ses
  obtain ⟨c, d⟩ := he.ses
  unfold setF
  split
  · exact .of a b h.2.1 h.2.2
  · split
    · exact .of a b h.2.1 h.2.2
    · split
      · exact .of c b he.2.1 h.2.2
      · split
        · exact .of a d h.2.1 he.2.2
        · exact h
theorem updI_ids (xs : List S47) (e : S62) : (updI xs e).map S47.f0 = xs.map S47.f0 := by
  unfold updI
  rw [List.map_map]
  refine List.map_congr_left fun x _ => ?_
  show (if x.f0 = e.f0 then setF x e else x).f0 = x.f0
  split
  · exact setF_f0 x e
  · rfl
theorem delI_mem {xs : List S47} {d : ByteArray} {x : S47} : x ∈ delI xs d ↔ x ∈ xs ∧ x.f0 ≠ d := by unfold delI; rw [List.mem_filter, decide_eq_true_iff]
theorem delS_mem {fs : List ByteArray} {d x : ByteArray} : x ∈ delS fs d ↔ x ∈ fs ∧ x ≠ d := by unfold delS; rw [List.mem_filter, decide_eq_true_iff]
theorem updI_mem {xs : List S47} {e : S62} {x : S47} : x ∈ updI xs e ↔ ∃ y ∈ xs, (if y.f0 = e.f0 then setF y e else y) = x := by unfold updI; exact List.mem_map
theorem hasI_no {m : List S47} {id : ByteArray} : hasI m id = false ↔ ∀ x ∈ m, x.f0 ≠ id := by
  rw [← Bool.not_eq_true, hasI_iff]
  exact ⟨fun h x hx e => h ⟨x, hx, e⟩, fun h ⟨x, hx, e⟩ => h x hx e⟩
theorem getI_is {m : List S47} (hn : (m.map S47.f0).Nodup) {x : S47} {id : ByteArray} (hx : x ∈ m) (e : x.f0 = id) : getI m id = x := e ▸ getI_of hn hx
theorem hasI_of {m : List S47} {x : S47} {id : ByteArray} (hx : x ∈ m) (e : x.f0 = id) : hasI m id = true := hasI_iff.2 ⟨x, hx, e⟩
theorem nodup_snoc {α : Type} {l : List α} {a : α} (h : l.Nodup) (ha : a ∉ l) : (l ++ [a]).Nodup := List.nodup_append.2 ⟨h, by simp, fun s hs t ht => by rw [List.mem_singleton.1 ht]; exact fun e => ha (e ▸ hs)⟩
theorem Nice.one {s t : St} {e : S62} (h : Nice s) (he : NiceE e) (h1 : oneS s e = some t) : Nice t := by
  have upd : Nice (s.1, updI s.2 e) := ⟨h.fn, by show ((updI s.2 e).map S47.f0).Nodup; rw [updI_ids]; exact h.xn, fun x hx => by
    obtain ⟨y, hy, rfl⟩ := updI_mem.1 hx
    split
    · rw [setF_f0]; exact h.names y hy
    · exact h.names y hy, fun x hx => by
    obtain ⟨y, hy, rfl⟩ := updI_mem.1 hx
    split
    · exact (h.nm y hy).set he.2
    · exact h.nm y hy⟩
  unfold oneS at h1
  split at h1
  · split at h1
    · cases h1
    · rename_i hs
      split at h1
      · rename_i h2
        cases h1
        exact ⟨nodup_snoc h.fn fun hm => hs (by rw [hasS_iff.2 hm, h2]), h.xn, h.names, h.nm⟩
      · cases h1
        exact ⟨h.fn.filter _, h.xn, h.names, h.nm⟩
  · split at h1
    · split at h1
      · split at h1
        · cases h1; exact upd
        · cases h1
          exact ⟨h.fn, h.xn.sublist (List.Sublist.map _ List.filter_sublist), fun x hx => h.names x (delI_mem.1 hx).1, fun x hx => h.nm x (delI_mem.1 hx).1⟩
      · rename_i hh
        split at h1
        · cases h1
          have hn := hasI_no.1 (by simpa using hh : hasI s.2 e.f0 = false)
          have h0 : (setF (only e.f0) e).f0 = e.f0 := setF_f0 _ _
          refine ⟨h.fn, ?_, fun x hx => ?_, fun x hx => ?_⟩
          · show ((s.2 ++ [setF (only e.f0) e]).map S47.f0).Nodup
            rw [List.map_append]
            refine nodup_snoc h.xn fun hm => ?_
            obtain ⟨y, hy, ey⟩ := List.mem_map.1 hm
            exact hn y hy (ey.trans h0)
          · rcases List.mem_append.1 hx with hx | hx
            · exact h.names x hx
            · rw [List.mem_singleton.1 hx, h0]; exact he.1
          · rcases List.mem_append.1 hx with hx | hx
            · exact h.nm x hx
            · rw [List.mem_singleton.1 hx]; exact (Nm.only _).set he.2
        · cases h1
    · split at h1
      · split at h1
        · cases h1; exact upd
        · cases h1
      · cases h1
abbrev Lo := Bool × S47 × Bool
def loc (s : St) (id : ByteArray) : Lo := (hasI s.2 id, getI s.2 id, hasS s.1 id)
def stepL (v : Lo) (e : S62) : Option Lo :=
  if e.f1 = 5 then (if v.2.2 = e.f2 then none else some (v.1, v.2.1, e.f2))
  else if e.f1 = 1 then (if v.1 = true then (if e.f2 = true then some (true, setF v.2.1 e, v.2.2) else some (false, z47, v.2.2)) else (if e.f2 = true then some (true, setF (only e.f0) e, v.2.2) else none))
  else if 2 ≤ e.f1 ∧ e.f1 ≤ 4 then (if v.1 = true then some (true, setF v.2.1 e, v.2.2) else none)
  else none
theorem hasS_no {l : List ByteArray} {s : ByteArray} : hasS l s = false ↔ s ∉ l := by rw [← Bool.not_eq_true, hasS_iff]
theorem bool_of {a b : Bool} (h : a = true ↔ b = true) : a = b := Bool.eq_iff_iff.2 h
theorem loc_upd {s : St} (h : Nice s) (e : S62) (hh : hasI s.2 e.f0 = true) : loc (s.1, updI s.2 e) e.f0 = (true, setF (getI s.2 e.f0) e, hasS s.1 e.f0) ∧ ∀ id, id ≠ e.f0 → loc (s.1, updI s.2 e) id = loc s id := by
  have hn : ((updI s.2 e).map S47.f0).Nodup := by rw [updI_ids]; exact h.xn
  have hid : ∀ id, hasI (updI s.2 e) id = hasI s.2 id := fun id => bool_of (by
    rw [hasI_iff, hasI_iff]
    constructor
    · rintro ⟨x, hx, rfl⟩
      obtain ⟨y, hy, rfl⟩ := updI_mem.1 hx
      refine ⟨y, hy, ?_⟩
      split
      · exact (setF_f0 y e).symm
      · rfl
    · rintro ⟨y, hy, rfl⟩
      refine ⟨_, updI_mem.2 ⟨y, hy, rfl⟩, ?_⟩
      split
      · exact setF_f0 y e
      · rfl)
  obtain ⟨g1, g2⟩ := getI_mem hh
  refine ⟨?_, fun id hne => ?_⟩
  · have e1 : getI (updI s.2 e) e.f0 = setF (getI s.2 e.f0) e := getI_is hn (updI_mem.2 ⟨_, g1, if_pos g2⟩) ((setF_f0 _ _).trans g2)
    show (hasI (updI s.2 e) e.f0, getI (updI s.2 e) e.f0, hasS s.1 e.f0) = _
    rw [hid, hh, e1]
  · show (hasI (updI s.2 e) id, getI (updI s.2 e) id, hasS s.1 id) = (hasI s.2 id, getI s.2 id, hasS s.1 id)
    rw [hid]
    congr 2
    cases hi : hasI s.2 id with
    | false => rw [getI_none hi, getI_none (by rw [hid, hi])]
    | true =>
      obtain ⟨k1, k2⟩ := getI_mem hi
      exact getI_is hn (updI_mem.2 ⟨_, k1, if_neg (by rw [k2]; exact hne)⟩) k2
theorem loc_del {s : St} (h : Nice s) (d : ByteArray) : loc (s.1, delI s.2 d) d = (false, z47, hasS s.1 d) ∧ ∀ id, id ≠ d → loc (s.1, delI s.2 d) id = loc s id := by
  have hn : ((delI s.2 d).map S47.f0).Nodup := h.xn.sublist (List.Sublist.map _ List.filter_sublist)
  have h0 : hasI (delI s.2 d) d = false := hasI_no.2 fun x hx => (delI_mem.1 hx).2
  refine ⟨?_, fun id hne => ?_⟩
  · show (hasI (delI s.2 d) d, getI (delI s.2 d) d, hasS s.1 d) = _
    rw [getI_none h0, h0]
  · have hid : hasI (delI s.2 d) id = hasI s.2 id := bool_of (by
      rw [hasI_iff, hasI_iff]
      exact ⟨fun ⟨x, hx, e⟩ => ⟨x, (delI_mem.1 hx).1, e⟩, fun ⟨x, hx, e⟩ => ⟨x, delI_mem.2 ⟨hx, by rw [e]; exact hne⟩, e⟩⟩)
    show (hasI (delI s.2 d) id, getI (delI s.2 d) id, hasS s.1 id) = (hasI s.2 id, getI s.2 id, hasS s.1 id)
    rw [hid]
    congr 2
    cases hi : hasI s.2 id with
    | false => rw [getI_none hi, getI_none (by rw [hid, hi])]
    | true =>
      obtain ⟨k1, k2⟩ := getI_mem hi
      exact getI_is hn (delI_mem.2 ⟨k1, by rw [k2]; exact hne⟩) k2
theorem loc_add {s : St} (h : Nice s) (y : S47) (hh : hasI s.2 y.f0 = false) : loc (s.1, s.2 ++ [y]) y.f0 = (true, y, hasS s.1 y.f0) ∧ ∀ id, id ≠ y.f0 → loc (s.1, s.2 ++ [y]) id = loc s id := by
  have hno := hasI_no.1 hh
  have hn : ((s.2 ++ [y]).map S47.f0).Nodup := by
    rw [List.map_append]
    refine nodup_snoc h.xn fun hm => ?_
    obtain ⟨x, hx, ex⟩ := List.mem_map.1 hm
    exact hno x hx ex
  have hy : y ∈ s.2 ++ [y] := List.mem_append.2 (.inr (List.mem_singleton.2 rfl))
  refine ⟨?_, fun id hne => ?_⟩
  · show (hasI (s.2 ++ [y]) y.f0, getI (s.2 ++ [y]) y.f0, hasS s.1 y.f0) = _
    rw [getI_is hn hy rfl, hasI_of hy rfl]
  · have hid : hasI (s.2 ++ [y]) id = hasI s.2 id := bool_of (by
      rw [hasI_iff, hasI_iff]
      constructor
      · rintro ⟨x, hx, e⟩
        rcases List.mem_append.1 hx with hx | hx
        · exact ⟨x, hx, e⟩
        · rw [List.mem_singleton.1 hx] at e; exact absurd e.symm hne
      · rintro ⟨x, hx, e⟩
        exact ⟨x, List.mem_append.2 (.inl hx), e⟩)
    show (hasI (s.2 ++ [y]) id, getI (s.2 ++ [y]) id, hasS s.1 id) = (hasI s.2 id, getI s.2 id, hasS s.1 id)
    rw [hid]
    congr 2
    cases hi : hasI s.2 id with
    | false => rw [getI_none hi, getI_none (by rw [hid, hi])]
    | true =>
      obtain ⟨k1, k2⟩ := getI_mem hi
      exact getI_is hn (List.mem_append.2 (.inl k1)) k2
theorem oneS_loc {s : St} (h : Nice s) (e : S62) : (∀ t, oneS s e = some t → stepL (loc s e.f0) e = some (loc t e.f0) ∧ ∀ id, id ≠ e.f0 → loc t id = loc s id) ∧ (oneS s e = none → stepL (loc s e.f0) e = none) := by
  unfold oneS stepL
  by_cases h5 : e.f1 = 5
  · rw [if_pos h5, if_pos h5]
    show (∀ t, _ → (if hasS s.1 e.f0 = e.f2 then none else some (hasI s.2 e.f0, getI s.2 e.f0, e.f2)) = _ ∧ _) ∧ (_ → (if hasS s.1 e.f0 = e.f2 then none else some (hasI s.2 e.f0, getI s.2 e.f0, e.f2)) = none)
    by_cases hs : hasS s.1 e.f0 = e.f2
    · rw [if_pos hs, if_pos hs]
      exact ⟨fun t ht => by (cases ht), fun _ => rfl⟩
    · rw [if_neg hs, if_neg hs]
      by_cases h2 : e.f2 = true
      · rw [if_pos h2]
        refine ⟨fun t ht => ?_, fun ht => by cases ht⟩
        cases ht
        refine ⟨?_, fun id hne => ?_⟩
        · show some (hasI s.2 e.f0, getI s.2 e.f0, e.f2) = some (hasI s.2 e.f0, getI s.2 e.f0, hasS (s.1 ++ [e.f0]) e.f0)
          rw [h2, hasS_iff.2 (List.mem_append.2 (.inr (List.mem_singleton.2 rfl)))]
        · show (hasI s.2 id, getI s.2 id, hasS (s.1 ++ [e.f0]) id) = (hasI s.2 id, getI s.2 id, hasS s.1 id)
          congr 2
          refine bool_of ?_
          rw [hasS_iff, hasS_iff, List.mem_append, List.mem_singleton]
          exact ⟨fun h => h.resolve_right hne, .inl⟩
      · rw [if_neg h2]
        refine ⟨fun t ht => ?_, fun ht => by cases ht⟩
        cases ht
        refine ⟨?_, fun id hne => ?_⟩
        · show some (hasI s.2 e.f0, getI s.2 e.f0, e.f2) = some (hasI s.2 e.f0, getI s.2 e.f0, hasS (delS s.1 e.f0) e.f0)
          rw [show e.f2 = false by simpa using h2, hasS_no.2 fun hm => (delS_mem.1 hm).2 rfl]
        · show (hasI s.2 id, getI s.2 id, hasS (delS s.1 e.f0) id) = (hasI s.2 id, getI s.2 id, hasS s.1 id)
          congr 2
          refine bool_of ?_
          rw [hasS_iff, hasS_iff, delS_mem]
          exact ⟨fun h => h.1, fun h => ⟨h, hne⟩⟩
  · rw [if_neg h5, if_neg h5]
    show (∀ t, _ → (if e.f1 = 1 then (if hasI s.2 e.f0 = true then (if e.f2 = true then some (true, setF (getI s.2 e.f0) e, hasS s.1 e.f0) else some (false, z47, hasS s.1 e.f0)) else (if e.f2 = true then some (true, setF (only e.f0) e, hasS s.1 e.f0) else none)) else if 2 ≤ e.f1 ∧ e.f1 ≤ 4 then (if hasI s.2 e.f0 = true then some (true, setF (getI s.2 e.f0) e, hasS s.1 e.f0) else none) else none) = _ ∧ _) ∧ (_ → (if e.f1 = 1 then (if hasI s.2 e.f0 = true then (if e.f2 = true then some (true, setF (getI s.2 e.f0) e, hasS s.1 e.f0) else some (false, z47, hasS s.1 e.f0)) else (if e.f2 = true then some (true, setF (only e.f0) e, hasS s.1 e.f0) else none)) else if 2 ≤ e.f1 ∧ e.f1 ≤ 4 then (if hasI s.2 e.f0 = true then some (true, setF (getI s.2 e.f0) e, hasS s.1 e.f0) else none) else none) = none)
    by_cases hh : hasI s.2 e.f0 = true
    · have hu := loc_upd h e hh
      have hd := loc_del h e.f0
      simp only [if_pos hh]
      by_cases h1 : e.f1 = 1
      · simp only [if_pos h1]
        by_cases h2 : e.f2 = true
        · simp only [if_pos h2]
          exact ⟨fun t ht => by cases ht; exact ⟨congrArg some hu.1.symm, hu.2⟩, fun ht => by cases ht⟩
        · simp only [if_neg h2]
          exact ⟨fun t ht => by cases ht; exact ⟨congrArg some hd.1.symm, hd.2⟩, fun ht => by cases ht⟩
      · simp only [if_neg h1]
        by_cases h24 : 2 ≤ e.f1 ∧ e.f1 ≤ 4
        · simp only [if_pos h24]
          exact ⟨fun t ht => by cases ht; exact ⟨congrArg some hu.1.symm, hu.2⟩, fun ht => by cases ht⟩
        · simp only [if_neg h24]
          exact ⟨fun t ht => by (cases ht), fun _ => trivial⟩
    · simp only [if_neg hh]
      by_cases h1 : e.f1 = 1
      · simp only [if_pos h1]
        by_cases h2 : e.f2 = true
        · simp only [if_pos h2]
          have h0 : (setF (only e.f0) e).f0 = e.f0 := setF_f0 _ _
          have ha := loc_add h (setF (only e.f0) e) (by rw [h0]; simpa using hh)
          rw [h0] at ha
          exact ⟨fun t ht => by cases ht; exact ⟨congrArg some ha.1.symm, ha.2⟩, fun ht => by cases ht⟩
        · simp only [if_neg h2]
          exact ⟨fun t ht => by (cases ht), fun _ => trivial⟩
      · simp only [if_neg h1]
        by_cases h24 : 2 ≤ e.f1 ∧ e.f1 ≤ 4
        · simp only [if_pos h24]
          exact ⟨fun t ht => by (cases ht), fun _ => trivial⟩
        · simp only [if_neg h24]
          exact ⟨fun t ht => by (cases ht), fun _ => trivial⟩
end Go.Ab
namespace Go.Ab
open Sn
def runL : List S62 → Lo → Option Lo
  | [], v => some v
  | e :: l, v => match stepL v e with | some u => runL l u | none => none
theorem runL_append (l k : List S62) (v : Lo) : runL (l ++ k) v = match runL l v with | some u => runL k u | none => none := by
  induction l generalizing v with
  | nil => rfl
  | cons e l ih =>
    show (match stepL v e with | some t => runL (l ++ k) t | none => none) = match (match stepL v e with | some t => runL l t | none => none) with | some t => runL k t | none => none
    cases stepL v e with
    | none => rfl
    | some t => exact ih t
def atId (l : List S62) (id : ByteArray) : List S62 := l.filter fun e => decide (e.f0 = id)
theorem atId_cons (e : S62) (l : List S62) : atId (e :: l) e.f0 = e :: atId l e.f0 := by unfold atId; rw [List.filter_cons, if_pos (by simp)]
theorem atId_ne {e : S62} {l : List S62} {id : ByteArray} (h : id ≠ e.f0) : atId (e :: l) id = atId l id := by unfold atId; rw [List.filter_cons, if_neg (by simpa using fun e => h e.symm)]
theorem run_loc : ∀ (l : List S62) (s : St), Nice s → (∀ e ∈ l, NiceE e) → (∀ t, runS l s = some t → Nice t ∧ ∀ id, runL (atId l id) (loc s id) = some (loc t id)) ∧ (runS l s = none → ∃ id, runL (atId l id) (loc s id) = none) := by
  intro l
  induction l with
  | nil => exact fun s h _ => ⟨fun t ht => by cases ht; exact ⟨h, fun _ => rfl⟩, fun h => by cases h⟩
  | cons e l ih =>
    intro s h hl
    obtain ⟨h1, h2⟩ := oneS_loc h e
    show (∀ t, (match oneS s e with | some t => runS l t | none => none) = some t → _) ∧ ((match oneS s e with | some t => runS l t | none => none) = none → _)
    cases ho : oneS s e with
    | none =>
      refine ⟨fun t ht => by (cases ht), fun _ => ⟨e.f0, ?_⟩⟩
      rw [atId_cons]
      show (match stepL (loc s e.f0) e with | some u => _ | none => none) = none
      rw [h2 ho]
    | some t =>
      obtain ⟨g1, g2⟩ := h1 t ho
      have hn := h.one (hl e (List.mem_cons_self ..)) ho
      obtain ⟨i1, i2⟩ := ih t hn fun e he => hl e (List.mem_cons_of_mem _ he)
      have key : ∀ id, runL (atId (e :: l) id) (loc s id) = runL (atId l id) (loc t id) := fun id => by
        by_cases hid : id = e.f0
        · subst hid
          rw [atId_cons]
          show (match stepL (loc s e.f0) e with | some u => runL (atId l e.f0) u | none => none) = _
          rw [g1]
        · rw [atId_ne hid, g2 id hid]
      refine ⟨fun u hu => ?_, fun hu => ?_⟩
      · obtain ⟨j1, j2⟩ := i1 u hu
        exact ⟨j1, fun id => by rw [key]; exact j2 id⟩
      · obtain ⟨id, hid⟩ := i2 hu
        exact ⟨id, by rw [key]; exact hid⟩
theorem mem_loc {s : St} (h : Nice s) {x : S47} : x ∈ s.2 ↔ hasI s.2 x.f0 = true ∧ getI s.2 x.f0 = x := by
  constructor
  · intro hx
    exact ⟨hasI_of hx rfl, getI_is h.xn hx rfl⟩
  · rintro ⟨h1, h2⟩
    rw [← h2]
    exact (getI_mem h1).1
theorem perm_of_loc {s t : St} (hs : Nice s) (ht : Nice t) (h : ∀ id, loc s id = loc t id) : s.1.Perm t.1 ∧ s.2.Perm t.2 := by
  refine ⟨(List.perm_ext_iff_of_nodup hs.fn ht.fn).2 fun x => ?_, (List.perm_ext_iff_of_nodup (nodup_of_map hs.xn) (nodup_of_map ht.xn)).2 fun x => ?_⟩
  · have h1 : hasS s.1 x = hasS t.1 x := congrArg (fun v : Lo => v.2.2) (h x)
    rw [← hasS_iff, ← hasS_iff, h1]
  · have h1 : hasI s.2 x.f0 = hasI t.2 x.f0 := congrArg (fun v : Lo => v.1) (h x.f0)
    have h2 : getI s.2 x.f0 = getI t.2 x.f0 := congrArg (fun v : Lo => v.2.1) (h x.f0)
    rw [mem_loc hs, mem_loc ht, h1, h2]
theorem IsN.nice {f : List ByteArray} {m : List S47} (h : IsN f m) : Nice (f, m) ∧ ∀ s ∈ f, nameIs s = true := by
  obtain ⟨r, F, rfl, o, s, t⟩ := h
  refine ⟨⟨o.fnodup, o.nodup, o.names, fun x hx => ⟨?_, (o.items x hx).entry.small, (o.items x hx).exit.small⟩⟩, o.fnames⟩
  have hx : x ∈ r :: F := hx
  rw [← IsN.pre o t] at hx
  obtain ⟨y, n, e, _⟩ := (mem_pre isOrd_ID o.rooted.mem).1 hx
  rw [e, nIt_nIt]
theorem nm_z : Nm z47 := .of rfl rfl small_nil small_nil
theorem Nice.get {s : St} (h : Nice s) (id : ByteArray) : Nm (getI s.2 id) := by
  cases hi : hasI s.2 id with
  | false => rw [getI_none hi]; exact nm_z
  | true => exact h.nm _ (getI_mem hi).1
theorem loc_fl {s : St} (id : ByteArray) : (hasI s.2 id = false → getI s.2 id = z47) ∧ (hasI s.2 id = true → (getI s.2 id).f0 = id) := ⟨getI_none, fun h => (getI_mem h).2⟩
theorem sameHd_iff {x y : S47} : sameHd x y = true ↔ x.f1 = y.f1 ∧ x.f2 = y.f2 ∧ x.f4 = y.f4 := by
  unfold sameHd
  rw [Bool.and_eq_true, Bool.and_eq_true, beq_iff_eq, beq_iff_eq, beq_iff_eq]
  exact ⟨fun ⟨a, b, c⟩ => ⟨a, bs_inj b, c⟩, fun ⟨a, b, c⟩ => ⟨a, by rw [b], c⟩⟩
theorem run_edF (fa fb : List ByteArray) (id : ByteArray) (p : Bool) (x : S47) : runL (edF fa fb id) (p, x, hasS fa id) = some (p, x, hasS fb id) := by
  unfold edF
  cases hc : hasS fa id != hasS fb id with
  | false =>
    show some (p, x, hasS fa id) = _
    rw [show hasS fa id = hasS fb id by simpa using hc]
  | true =>
    have hne : ¬ hasS fa id = hasS fb id := by simpa using hc
    show (match stepL (p, x, hasS fa id) ⟨id, 5, hasS fb id, only id⟩ with | some u => some u | none => none) = _
    have : stepL (p, x, hasS fa id) ⟨id, 5, hasS fb id, only id⟩ = some (p, x, hasS fb id) := by unfold stepL; rw [if_pos rfl, if_neg hne]
    rw [this]
theorem step_in {x : S47} {c : Bool} {e : S62} (h : e.f1 = 2 ∨ e.f1 = 3 ∨ e.f1 = 4) : stepL (true, x, c) e = some (true, setF x e, c) := by
  unfold stepL
  rw [if_neg (by omega), if_neg (by omega), if_pos (by omega)]
  rfl
theorem runL1 {e : S62} {v u : Lo} (h : stepL v e = some u) : runL [e] v = some u := by
  show (match stepL v e with | some u => some u | none => none) = some u
  rw [h]
theorem run_ed2 (x y w : S47) (id : ByteArray) (c : Bool) (h : w.f3 = x.f3) : runL (ed2 x y id) (true, w, c) = some (true, ⟨w.f0, w.f1, w.f2, y.f3, w.f4, w.f5, w.f6⟩, c) := by
  unfold ed2
  cases hc : x.f3 != y.f3 with
  | false => show some (true, w, c) = _; rw [← show x.f3 = y.f3 by simpa using hc, ← h]
  | true => exact runL1 (step_in (.inl rfl))
theorem run_ed3 (x y w : S47) (id : ByteArray) (c : Bool) (h : w.f5 = x.f5) : runL (ed3 x y id) (true, w, c) = some (true, ⟨w.f0, w.f1, w.f2, w.f3, w.f4, y.f5, w.f6⟩, c) := by
  unfold ed3
  cases hc : !eqq x.f5 y.f5 with
  | false => show some (true, w, c) = _; rw [← eqq_iff.1 (show eqq x.f5 y.f5 = true by simpa using hc), ← h]
  | true => exact runL1 (step_in (.inr (.inl rfl)))
theorem run_ed4 (x y w : S47) (id : ByteArray) (c : Bool) (h : w.f6 = x.f6) : runL (ed4 x y id) (true, w, c) = some (true, ⟨w.f0, w.f1, w.f2, w.f3, w.f4, w.f5, y.f6⟩, c) := by
  unfold ed4
  cases hc : !eqq x.f6 y.f6 with
  | false => show some (true, w, c) = _; rw [← eqq_iff.1 (show eqq x.f6 y.f6 = true by simpa using hc), ← h]
  | true => exact runL1 (step_in (.inr (.inr rfl)))
theorem run_234 (x y w : S47) (id : ByteArray) (c : Bool) (h3 : w.f3 = x.f3) (h5 : w.f5 = x.f5) (h6 : w.f6 = x.f6) : runL (ed2 x y id ++ (ed3 x y id ++ ed4 x y id)) (true, w, c) = some (true, ⟨w.f0, w.f1, w.f2, y.f3, w.f4, y.f5, y.f6⟩, c) := by
  rw [runL_append, run_ed2 x y w id c h3]
  show runL (ed3 x y id ++ ed4 x y id) _ = _
  rw [runL_append, run_ed3 x y _ id c (by exact h5)]
  show runL (ed4 x y id) _ = _
  rw [run_ed4 x y _ id c (by exact h6)]
theorem run_edX (p q : Bool) (x y : S47) (id : ByteArray) (c : Bool) (hx : p = false → x = z47) (hx' : p = true → x.f0 = id) (hy : q = false → y = z47) (hy' : q = true → y.f0 = id) : runL (edX p q x y id) (p, x, c) = some (q, y, c) := by
  unfold edX
  cases q with
  | false =>
    rw [hy rfl]
    cases p with
    | false => rw [hx rfl, show sameHd z47 z47 = true from by unfold sameHd; simp]; rfl
    | true =>
      show runL ([⟨id, 1, false, only id⟩] ++ []) (true, x, c) = _
      exact runL1 rfl
  | true =>
    have hy0 := hy' rfl
    rw [runL_append]
    cases p with
    | false =>
      rw [hx rfl]
      have h1 : runL [⟨id, 1, true, hdPt id y⟩] (false, z47, c) = some (true, ⟨id, y.f1, y.f2, false, y.f4, [], []⟩, c) := runL1 rfl
      show (match runL [⟨id, 1, true, hdPt id y⟩] (false, z47, c) with | some u => runL (ed2 z47 y id ++ (ed3 z47 y id ++ ed4 z47 y id)) u | none => none) = _
      rw [h1]
      show runL _ (true, (⟨id, y.f1, y.f2, false, y.f4, [], []⟩ : S47), c) = _
      rw [run_234 z47 y ⟨id, y.f1, y.f2, false, y.f4, [], []⟩ id c rfl rfl rfl, ← hy0]
    | true =>
      have hx0 := hx' rfl
      show (match runL (bif (true != true) || !sameHd x y then [⟨id, 1, true, hdPt id y⟩] else []) (true, x, c) with | some u => runL (ed2 x y id ++ (ed3 x y id ++ ed4 x y id)) u | none => none) = _
      have h1 : runL (bif (true != true) || !sameHd x y then [⟨id, 1, true, hdPt id y⟩] else []) (true, x, c) = some (true, ⟨x.f0, y.f1, y.f2, x.f3, y.f4, x.f5, x.f6⟩, c) := by
        cases hs : sameHd x y with
        | true =>
          obtain ⟨e1, e2, e4⟩ := sameHd_iff.1 hs
          show some (true, x, c) = _
          rw [← e1, ← e2, ← e4]
        | false => exact runL1 rfl
      rw [h1]
      show runL _ (true, (⟨x.f0, y.f1, y.f2, x.f3, y.f4, x.f5, x.f6⟩ : S47), c) = _
      rw [run_234 x y ⟨x.f0, y.f1, y.f2, x.f3, y.f4, x.f5, x.f6⟩ id c rfl rfl rfl]
      show some (true, (⟨x.f0, y.f1, y.f2, y.f3, y.f4, y.f5, y.f6⟩ : S47), c) = _
      rw [hx0, ← hy0]
theorem run_id (s t : St) (id : ByteArray) : runL (edI s.2 t.2 id ++ edF s.1 t.1 id) (loc s id) = some (loc t id) := by
  rw [runL_append, edI_X]
  show (match runL (edX (hasI s.2 id) (hasI t.2 id) (getI s.2 id) (getI t.2 id) id) (hasI s.2 id, getI s.2 id, hasS s.1 id) with | some u => runL (edF s.1 t.1 id) u | none => none) = _
  rw [run_edX _ _ _ _ id _ (loc_fl id).1 (loc_fl id).2 (loc_fl id).1 (loc_fl id).2]
  exact run_edF _ _ _ _ _
theorem atId_other {l : List S62} {id : ByteArray} (h : ∀ e ∈ l, e.f0 ≠ id) : atId l id = [] := by
  unfold atId
  rw [List.filter_eq_nil_iff]
  intro e he
  simpa using h e he
theorem atId_all {l : List S62} {id : ByteArray} (h : ∀ e ∈ l, e.f0 = id) : atId l id = l := by
  unfold atId
  rw [List.filter_eq_self]
  intro e he
  simpa using h e he
theorem atId_spec (s t : St) (id : ByteArray) : atId (specD s.1 s.2 t.1 t.2) id = edI s.2 t.2 id ++ edF s.1 t.1 id := by
  unfold specD
  have hfl : ∀ L : List ByteArray, atId (L.flatMap fun id => edI s.2 t.2 id ++ edF s.1 t.1 id) id = L.flatMap fun i => atId (edI s.2 t.2 i ++ edF s.1 t.1 i) id := fun L => by
    unfold atId
    rw [List.filter_flatMap]
  rw [hfl]
  have hno : ∀ i, i ≠ id → atId (edI s.2 t.2 i ++ edF s.1 t.1 i) id = [] := fun i hi => atId_other fun e he => by rw [edIF_f0 he]; exact hi
  by_cases hm : id ∈ namesOf [(s.1, s.2), (t.1, t.2)]
  · rw [flatMap_one ((names_strict _).nodup isCmp_s) hm fun i _ hi => hno i hi]
    exact atId_all fun e he => edIF_f0 he
  · have h1 : edI s.2 t.2 id ++ edF s.1 t.1 id = [] := List.eq_nil_iff_forall_not_mem.2 fun e he => hm (by
      have : e ∈ specD s.1 s.2 t.1 t.2 := mem_specD.2 ⟨id, List.mem_append.1 he⟩
      unfold specD at this
      obtain ⟨i, hi, h2⟩ := List.mem_flatMap.1 this
      rw [← edIF_f0 he, edIF_f0 h2]
      exact hi)
    rw [h1]
    rw [List.flatMap_eq_nil_iff]
    intro i hi
    exact hno i fun e => hm (e ▸ hi)
theorem Nm.part {y : S47} (h : Nm y) (id : ByteArray) : Nm (hdPt id y) ∧ Nm ⟨id, 0, ⟨#[]⟩, y.f3, 0, [], []⟩ ∧ Nm ⟨id, 0, ⟨#[]⟩, false, 0, y.f5, []⟩ ∧ Nm ⟨id, 0, ⟨#[]⟩, false, 0, [], y.f6⟩ :=
  ⟨.of rfl rfl small_nil small_nil, .of rfl rfl small_nil small_nil, .of h.ses.1 rfl h.2.1 small_nil, .of rfl h.ses.2 small_nil h.2.2⟩
theorem edX_nm {p q : Bool} {x y : S47} {id : ByteArray} (h : Nm y) {e : S62} (he : e ∈ edX p q x y id) : Nm e.f3 := by
  obtain ⟨h1, h2, h3, h4⟩ := h.part id
  unfold edX at he
  rcases List.mem_append.1 he with he | he
  · cases hc : (p != q) || !sameHd x y with
    | false => rw [hc] at he; cases he
    | true =>
      rw [hc] at he
      rw [List.mem_singleton.1 he]
      cases q with
      | false => exact Nm.only id
      | true => exact h1
  · cases q with
    | false => cases he
    | true =>
      rcases List.mem_append.1 he with he | he
      · unfold ed2 at he
        cases hc : x.f3 != y.f3 with
        | false => rw [hc] at he; cases he
        | true => rw [hc] at he; rw [List.mem_singleton.1 he]; exact h2
      · rcases List.mem_append.1 he with he | he
        · unfold ed3 at he
          cases hc : !eqq x.f5 y.f5 with
          | false => rw [hc] at he; cases he
          | true => rw [hc] at he; rw [List.mem_singleton.1 he]; exact h3
        · unfold ed4 at he
          cases hc : !eqq x.f6 y.f6 with
          | false => rw [hc] at he; cases he
          | true => rw [hc] at he; rw [List.mem_singleton.1 he]; exact h4
structure NiceF (s : St) : Prop where
  nice : Nice s
  files : ∀ f ∈ s.1, nameIs f = true
theorem NiceF.of {f : List ByteArray} {m : List S47} (h : IsN f m) : NiceF (f, m) := ⟨h.nice.1, h.nice.2⟩
theorem spec_nice {s t : St} (hs : NiceF s) (ht : NiceF t) : ∀ e ∈ specD s.1 s.2 t.1 t.2, NiceE e := fun e he => by
  obtain ⟨id, h⟩ := mem_specD.1 he
  have hid : e.f0 = id := edIF_f0 (List.mem_append.2 h)
  have hn : e.f0 ∈ namesOf [(s.1, s.2), (t.1, t.2)] := by
    unfold specD at he
    obtain ⟨i, hi, h2⟩ := List.mem_flatMap.1 he
    rw [edIF_f0 h2]; exact hi
  refine ⟨?_, ?_⟩
  · have key : ∀ u : St, NiceF u → e.f0 ∈ u.1 ∨ hasI u.2 e.f0 = true → nameIs e.f0 = true := fun u hu h => by
      rcases h with h | h
      · exact hu.files _ h
      · obtain ⟨x, hx, ex⟩ := hasI_iff.1 h
        rw [← ex]
        exact hu.nice.names x hx
    rcases names2.1 hn with h | h
    · exact key s hs h
    · exact key t ht h
  · rcases h with h | h
    · rw [edI_X] at h
      exact edX_nm (ht.nice.get id) h
    · rw [(edF_mem h).1]; exact Nm.only id
theorem run_spec {s t : St} (hs : NiceF s) (ht : NiceF t) : ∃ u, runS (specD s.1 s.2 t.1 t.2) s = some u ∧ Nice u ∧ ∀ id, loc u id = loc t id := by
  obtain ⟨h1, h2⟩ := run_loc (specD s.1 s.2 t.1 t.2) s hs.nice (spec_nice hs ht)
  cases hr : runS (specD s.1 s.2 t.1 t.2) s with
  | none =>
    obtain ⟨id, hid⟩ := h2 hr
    rw [atId_spec, run_id] at hid
    cases hid
  | some u =>
    obtain ⟨g1, g2⟩ := h1 u hr
    refine ⟨u, rfl, g1, fun id => ?_⟩
    have := g2 id
    rw [atId_spec, run_id] at this
    exact (Option.some.inj this).symm
theorem ord_loc {u : St} {f : List ByteArray} {m : List S47} (hu : Nice u) (hN : IsN f m) (h : ∀ id, loc u id = loc (f, m) id) : ordO u = some (f, m) := by
  obtain ⟨h1, h2⟩ := perm_of_loc hu hN.nice.1 h
  exact ordO_some.2 ⟨hN, h1.symm, h2.symm⟩
def Adj (l : List S62) : Prop := ∀ (i : Nat) (x y : S62), l[i]? = some x → l[i + 1]? = some y → cmpE x y = -1
theorem adj_of {l : List S62} (h : l.Pairwise fun x y => cmpE x y = -1) : Adj l := fun i x y hx hy => by
  obtain ⟨h1, rfl⟩ := List.getElem?_eq_some_iff.1 hx
  obtain ⟨h2, rfl⟩ := List.getElem?_eq_some_iff.1 hy
  exact List.pairwise_iff_getElem.1 h i (i + 1) h1 h2 (Nat.lt_succ_self i)
noncomputable def apS (s : St) (l : List S62) : St × Int := bif bP (IsN s.1 s.2) then (bif bP (Adj l) then (match runS l s with | none => (([], []), 1) | some t => (match ordO t with | none => (([], []), 7) | some n => (n, 0))) else (([], []), 1)) else (([], []), 7)
theorem apS_ok {s t n : St} {l : List S62} (hs : IsN s.1 s.2) (ha : Adj l) (hr : runS l s = some t) (ho : ordO t = some n) : apS s l = (n, 0) := by unfold apS; rw [bP_iff.2 hs, bP_iff.2 ha, hr]; simp only [cond_true, ho]
theorem ap_spec {s t : St} (hs : IsN s.1 s.2) (ht : IsN t.1 t.2) : apS s (specD s.1 s.2 t.1 t.2) = (t, 0) := by
  obtain ⟨u, h1, h2, h3⟩ := run_spec (NiceF.of hs) (NiceF.of ht)
  exact apS_ok hs (adj_of (specD_strict ..)) h1 (ord_loc h2 ht h3)
theorem ap_no {s : St} (l : List S62) (hs : ¬ IsN s.1 s.2) : apS s l = (([], []), 7) := by unfold apS; rw [bP_no.2 hs]; rfl
theorem edX_self (p : Bool) (x : S47) (id : ByteArray) : edX p p x x id = [] := by
  have hs : sameHd x x = true := sameHd_iff.2 ⟨rfl, rfl, rfl⟩
  unfold edX ed2 ed3 ed4
  rw [hs, bne_self_eq_false, bne_self_eq_false, eqq_y rfl, eqq_y rfl]
  cases p <;> rfl
theorem spec_self (s : St) : specD s.1 s.2 s.1 s.2 = [] := List.eq_nil_iff_forall_not_mem.2 fun e he => by
  obtain ⟨id, h⟩ := mem_specD.1 he
  rcases h with h | h
  · rw [edI_X] at h
    rw [edX_self] at h
    cases h
  · have := (edF_mem h).2
    rw [bne_self_eq_false] at this
    cases this
end Go.Ab
namespace Go.Ab
open Go.Proofs Sn
set_option maxRecDepth 100000
set_option linter.unnecessarySimpa false
set_option maxHeartbeats 4000000
theorem isN_by {f : List ByteArray} {r : S47} {F : List S47} (h : isB f (r :: F) = true) (hs : sortL cmpS f = f) (ht : turnT ordID nIt r F = F) : IsN f (r :: F) := by
  obtain ⟨r', F', e, h⟩ := isB_iff.1 h
  cases e
  exact ⟨r, F, rfl, h, hs, ht⟩
def dP : S47 := ⟨⟨#[112]⟩, 1, ⟨#[]⟩, false, 0, [], []⟩
def dT : S47 := ⟨⟨#[116]⟩, 2, ⟨#[112]⟩, true, 0, [], []⟩
theorem dNa : IsN [] [dP] := isN_by (by kernel_rfl) (by kernel_rfl) (by kernel_rfl)
theorem dNb : IsN [] [dP, dT] := isN_by (by kernel_rfl) (by kernel_rfl) (by kernel_rfl)
theorem IsN.sz {f : List ByteArray} {m : List S47} (h : IsN f m) : SzM f m := by
  obtain ⟨r, F, rfl, o, _⟩ := h
  exact o.sz
theorem dSpec : specD [] [dP] [] [dP, dT] = [⟨⟨#[116]⟩, 1, true, hdPt ⟨#[116]⟩ dT⟩, ⟨⟨#[116]⟩, 2, true, ⟨⟨#[116]⟩, 0, ⟨#[]⟩, true, 0, [], []⟩⟩] := by
  have hn : namesOf [([], [dP]), ([], [dP, dT])] = [⟨#[112]⟩, ⟨#[116]⟩] := by kernel_rfl
  unfold specD
  rw [hn]
  show (edI [dP] [dP, dT] ⟨#[112]⟩ ++ edF [] [] ⟨#[112]⟩) ++ ((edI [dP] [dP, dT] ⟨#[116]⟩ ++ edF [] [] ⟨#[116]⟩) ++ []) = _
  rw [edI_X, edI_X, show hasI [dP] ⟨#[112]⟩ = true by kernel_rfl, show hasI [dP, dT] ⟨#[112]⟩ = true by kernel_rfl, show getI [dP] ⟨#[112]⟩ = dP by kernel_rfl, show getI [dP, dT] ⟨#[112]⟩ = dP by kernel_rfl, edX_self,
    show hasI [dP] ⟨#[116]⟩ = false by kernel_rfl, show hasI [dP, dT] ⟨#[116]⟩ = true by kernel_rfl, show getI [dP] ⟨#[116]⟩ = z47 by kernel_rfl, show getI [dP, dT] ⟨#[116]⟩ = dT by kernel_rfl]
  unfold edX ed2 ed3 ed4
  rw [show eqq z47.f5 dT.f5 = true from eqq_y rfl, show eqq z47.f6 dT.f6 = true from eqq_y rfl]
  rfl
theorem dfR_y {fa fb : List ByteArray} {a b : List S47} (ha : IsN fa a) (hb : IsN fb b) : dfR fa a fb b = (specD fa a fb b, 0) := by unfold dfR; rw [bP_iff.2 ha, bP_iff.2 hb]; rfl
theorem dRow : Le (.row 7 [[AV.str ⟨#[112]⟩, .int .i64 1, .str ⟨#[]⟩, .lit false, .int .i64 0, .nils, .nils]]) (.row 7 ([dP].map enc47)) := .rows (.cons (by repeat (first | exact .nil | refine .cons (by first | exact .refl | exact .lit rfl | exact .nils) ?_)) .nil)
theorem dRow2 : Le (.row 7 [[AV.str ⟨#[112]⟩, .int .i64 1, .str ⟨#[]⟩, .lit false, .int .i64 0, .nils, .nils], [AV.str ⟨#[116]⟩, .int .i64 2, .str ⟨#[112]⟩, .lit true, .int .i64 0, .nils, .nils]]) (.row 7 ([dP, dT].map enc47)) := .rows (.cons (by repeat (first | exact .nil | refine .cons (by first | exact .refl | exact .lit rfl | exact .nils) ?_)) <| .cons (by repeat (first | exact .nil | refine .cons (by first | exact .refl | exact .lit rfl | exact .nils) ?_)) .nil)
theorem PCall.by2 {P : Program} {f : Nat} {x y x' y' r : AV} (h : PCall P f [x', y'] r) (h1 : Le x x') (h2 : Le y y') : PCall P f [x, y] r := h.by rfl fun j a b ha hb => by
  match j with
  | 0 => cases ha; cases hb; exact h1
  | 1 => cases ha; cases hb; exact h2
  | j + 2 => simp at ha
theorem d47a : PCall cx.P 47 [.agg [.nils, .row 7 [[AV.str ⟨#[112]⟩, .int .i64 1, .str ⟨#[]⟩, .lit false, .int .i64 0, .nils, .nils]]], .agg [.nils, .row 7 [[AV.str ⟨#[112]⟩, .int .i64 1, .str ⟨#[]⟩, .lit false, .int .i64 0, .nils, .nils]]]] (.tup [.row 10 [], .int .i64 0]) := by
  have h := c47 [] [] [dP] [dP] dNa.sz dNa.sz
  rw [dfR_y dNa dNa, show specD [] [dP] [] [dP] = [] from spec_self ([], [dP])] at h
  exact h.by2 (.agg2 .nils dRow) (.agg2 .nils dRow)
theorem d47b : PCall cx.P 47 [.agg [.nils, .row 7 [[AV.str ⟨#[112]⟩, .int .i64 1, .str ⟨#[]⟩, .lit false, .int .i64 0, .nils, .nils]]], .agg [.nils, .row 7 [[AV.str ⟨#[112]⟩, .int .i64 1, .str ⟨#[]⟩, .lit false, .int .i64 0, .nils, .nils], [AV.str ⟨#[116]⟩, .int .i64 2, .str ⟨#[112]⟩, .lit true, .int .i64 0, .nils, .nils]]]] (.tup [.row 10 ([⟨⟨#[116]⟩, 1, true, hdPt ⟨#[116]⟩ dT⟩, ⟨⟨#[116]⟩, 2, true, ⟨⟨#[116]⟩, 0, ⟨#[]⟩, true, 0, [], []⟩⟩].map enc62), .int .i64 0]) := by
  have h := c47 [] [] [dP] [dP, dT] dNa.sz dNb.sz
  rw [dfR_y dNa dNb, dSpec] at h
  exact h.by2 (.agg2 .nils dRow) (.agg2 .nils dRow2)
def br3 : List Nat := [79, 93, 128, 176, 177, 179, 143, 178, 180, 157, 205, 206, 78, 135, 174, 175, 185, 186, 127, 104, 149, 150, 96, 97, 98, 129, 207, 111, 211, 239, 155, 110, 210, 235, 238, 273]
noncomputable def cxA (l : List Nat) : Cx := ⟨Tryz.prog, look tyT, fun g => memN g (l ++ br3)⟩
theorem pcallA (l : List Nat) {f : Nat} (fn : Func) (hf : cx.P.funcs[f]? = some fn) (hok : okFn fn = true) {args : List AV} {r : AV} (h : funcP (cxA l) fn args r) : PCall cx.P f args r :=
  funcP_sound (cx := cxA l) cx_ok cx_mixed hf (Ent.ok hf hok).2 (Ent.ok hf hok).1 h
theorem acallA (l : List Nat) {f : Nat} (fn : Func) (hf : cx.P.funcs[f]? = some fn) (hok : okFn fn = true) {args : List AV} {σ σ' : Sto} {r : AV} (hσ : (σ.all fun p => !isFree (sget σ p.1)) = true) (h : funcA (cxA l) fn args σ r σ') : ACall cx.P f args σ r σ' :=
  funcA_sound (cx := cxA l) cx_ok cx_mixed hf (Ent.ok hf hok).2 (Ent.ok hf hok).1 hσ h
def rP : List AV := [.str ⟨#[112]⟩, .int .i64 1, .str ⟨#[]⟩, .lit false, .int .i64 0, .nils, .nils]
def rT : List AV := [.str ⟨#[116]⟩, .int .i64 2, .str ⟨#[112]⟩, .lit true, .int .i64 0, .nils, .nils]
theorem c50 : PCall cx.P 50 [] (.lit true) := pcallA [1003] Tryz.f50 (by kernel_rfl) (by kernel_rfl) <| by
  conv => whnf
  refine ⟨[1, 2], ([(1, .bptr 80 0), (2, .bptr 144 0)], [(144, .live (.box [.nils, .row 7 [rP, rT]])), (80, .live (.box [.nils, .row 7 [rP]]))]), ?_⟩
  conv => whnf
  refine ⟨(StLe.frz 82 (by kernel_rfl) ?_).trans ((StLe.frz 146 (by kernel_rfl) ?_).trans (.of rfl)), ?_⟩
  · repeat' (first | exact True.intro | exact rfl | refine And.intro ?_ ?_)
  · repeat' (first | exact True.intro | exact rfl | refine And.intro ?_ ?_)
  conv => whnf
  refine ⟨_, d47a, ?_⟩
  conv => whnf
  conv => whnf
  refine ⟨_, d47b, ?_⟩
  conv => whnf
  conv => whnf
  refine ⟨fun w1 => ?_, fun w1 => ?_⟩
  rotate_left
  · exact absurd w1 (by decide)
  conv => whnf
  refine ⟨fun w2 => ?_, fun w2 => ?_⟩
  rotate_left
  · exact absurd w2 (by decide)
  conv => whnf
  refine ⟨fun w3 => ?_, fun w3 => ?_⟩
  rotate_left
  · exact absurd w3 (by decide)
  conv => whnf
  refine ⟨fun w4 => ?_, fun w4 => ?_⟩
  rotate_left
  · exact absurd w4 (by decide)
  conv => whnf
  refine ⟨⟨Int.natCast_nonneg _, by decide⟩, ?_⟩
  conv => whnf
  conv => whnf
  refine ⟨_, rfl, ?_⟩
  conv => whnf
  conv => whnf
  refine ⟨fun w5 => ?_, fun w5 => ?_⟩
  rotate_left
  · rw [(sEq_iff _ _).2 rfl] at w5; cases w5
  conv => whnf
  refine ⟨⟨Int.natCast_nonneg _, by decide⟩, ?_⟩
  conv => whnf
  conv => whnf
  refine ⟨_, rfl, ?_⟩
  conv => whnf
  conv => whnf
  refine ⟨fun w6 => ?_, fun w6 => ?_⟩
  rotate_left
  · exact absurd w6 (by decide)
  conv => whnf
  refine ⟨⟨Int.natCast_nonneg _, by decide⟩, ?_⟩
  conv => whnf
  conv => whnf
  refine ⟨_, rfl, ?_⟩
  conv => whnf
  conv => whnf
  exact .blit rfl
end Go.Ab
namespace Go.Ab
open Go.Proofs Sn
set_option maxRecDepth 100000
set_option linter.unnecessarySimpa false
set_option linter.unusedSimpArgs false
set_option maxHeartbeats 4000000
theorem map_erase {α : Type} {e : α → List AV} {l : List α} {i : Nat} : (l.eraseIdx i).map e = (l.map e).eraseIdx i := by
  rw [List.eraseIdx_eq_take_drop_succ, List.eraseIdx_eq_take_drop_succ, List.map_append, List.map_take, List.map_drop]
theorem del_cut {pins : List Nat} {es R T : List (List AV)} {s k i : Nat} {q : Q} (hi : i < es.length) :
    StLe pins ([(0, .own s k 0 (i + (es.drop (i + 1)).length) q)], [(k, .live (.arr s (List.take (i + (es.drop (i + 1)).length) (es.take i ++ (es.drop (i + 1) ++ R)) ++ T)))]) ([(0, .own s k 0 (es.eraseIdx i).length .opn)], [(k, .live (.arr s (es.eraseIdx i)))]) := by
  have h1 : es.eraseIdx i = es.take i ++ es.drop (i + 1) := List.eraseIdx_eq_take_drop_succ ..
  have h2 : i + (es.drop (i + 1)).length = (es.take i ++ es.drop (i + 1)).length := by rw [List.length_append, List.length_take]; omega
  rw [h1, h2, ← List.append_assoc, List.take_left']
  · exact .trans (.le (.cons _ _ _ _ _ .opn <| .refl _) (.refl _)) (.cut (.cut (fun j e h => by
      rw [List.getElem?_append_left (List.getElem?_eq_some_iff.1 h).1]
      exact h) .nil))
  · rfl
theorem c206 (F : List ByteArray) (i : Nat) (hi : i < F.length) (hF : F.length ≤ 1048576) : ACall cx.P 206 [.own 1 32 0 (F.map encT).length .opn, .int .i64 i, .int .i64 ((i + 1 : Nat) : Int)] [(32, .live (.arr 1 (F.map encT)))] (.own 1 32 0 ((F.eraseIdx i).map encT).length .opn) [(32, .live (.arr 1 ((F.eraseIdx i).map encT)))] := acall3 Tryz.f206 (by kernel_rfl) (by kernel_rfl) rfl <| by
  have hE : (F.map encT).length = F.length := List.length_map _
  conv => whnf
  refine ⟨⟨Int.natCast_nonneg _, by omega, by omega, by omega⟩, ?_⟩
  conv => whnf
  conv => whnf
  refine ⟨fun w1 => ?_, fun w1 => ?_⟩
  · have := of_decide_eq_true w1
    omega
  · clear w1
    conv => whnf
    refine ⟨⟨Int.natCast_nonneg _, by omega⟩, ?_⟩
    conv => whnf
    conv => whnf
    refine ⟨⟨Int.natCast_nonneg _, by omega⟩, ?_⟩
    conv => whnf
    conv => whnf
    refine ⟨by rw [Int.toNat_natCast]; omega, ?_⟩
    conv => whnf
    conv => whnf
    refine ⟨by rw [Int.toNat_natCast, Int.toNat_natCast, List.length_drop]; omega, ?_⟩
    conv => whnf
    conv => whnf
    refine ⟨by kernel_rfl, ?_⟩
    conv => whnf
    conv => whnf
    refine ⟨by rw [Int.toNat_natCast, Int.toNat_natCast, List.length_drop]; omega, ?_⟩
    conv => whnf
    conv => whnf
    refine ⟨by simp only [Int.toNat_natCast, List.length_append, List.length_take, List.length_drop]; omega, ?_⟩
    conv => whnf
    conv => whnf
    rw [map_erase]
    simp only [Int.toNat_natCast, Nat.zero_add]
    exact del_cut (by omega)
theorem c205 (F : List S47) (i : Nat) (hi : i < F.length) (hF : F.length ≤ 1048576) : ACall cx.P 205 [.own 7 32 0 (F.map enc47).length .opn, .int .i64 i, .int .i64 ((i + 1 : Nat) : Int)] [(32, .live (.arr 7 (F.map enc47)))] (.own 7 32 0 ((F.eraseIdx i).map enc47).length .opn) [(32, .live (.arr 7 ((F.eraseIdx i).map enc47)))] := acall3 Tryz.f205 (by kernel_rfl) (by kernel_rfl) rfl <| by
  have hE : (F.map enc47).length = F.length := List.length_map _
  conv => whnf
  refine ⟨⟨Int.natCast_nonneg _, by omega, by omega, by omega⟩, ?_⟩
  conv => whnf
  conv => whnf
  refine ⟨fun w1 => ?_, fun w1 => ?_⟩
  · have := of_decide_eq_true w1
    omega
  · clear w1
    conv => whnf
    refine ⟨⟨Int.natCast_nonneg _, by omega⟩, ?_⟩
    conv => whnf
    conv => whnf
    refine ⟨⟨Int.natCast_nonneg _, by omega⟩, ?_⟩
    conv => whnf
    conv => whnf
    refine ⟨by rw [Int.toNat_natCast]; omega, ?_⟩
    conv => whnf
    conv => whnf
    refine ⟨by rw [Int.toNat_natCast, Int.toNat_natCast, List.length_drop]; omega, ?_⟩
    conv => whnf
    conv => whnf
    refine ⟨by kernel_rfl, ?_⟩
    conv => whnf
    conv => whnf
    refine ⟨by rw [Int.toNat_natCast, Int.toNat_natCast, List.length_drop]; omega, ?_⟩
    conv => whnf
    conv => whnf
    refine ⟨by simp only [Int.toNat_natCast, List.length_append, List.length_take, List.length_drop]; omega, ?_⟩
    conv => whnf
    conv => whnf
    rw [map_erase]
    simp only [Int.toNat_natCast, Nat.zero_add]
    exact del_cut (by omega)
end Go.Ab
namespace Go.Ab
open Go.Proofs Sn
set_option maxRecDepth 100000
set_option linter.unnecessarySimpa false
set_option linter.unusedSimpArgs false
set_option maxHeartbeats 4000000
def isR (x : S47) : Bool := sEq x.f2 ⟨#[]⟩
theorem isR_iff {x : S47} : isR x = true ↔ x.f2 = ByteArray.empty := sEq_iff _ _
def odd (x : S47) : Bool := !nameIs x.f0
theorem c152 (x : S47) : PCall cx.P 152 [.agg (enc47 x)] (.bool (isR x)) := pcall3 Tryz.f152 (by kernel_rfl) (by kernel_rfl) <| by
  conv => whnf
  exact .of rfl
theorem c153 (x : S47) : PCall cx.P 153 [.agg (enc47 x)] (.bool (odd x)) := pcall3 Tryz.f153 (by kernel_rfl) (by kernel_rfl) <| by
  conv => whnf
  refine ⟨_, c154 _, ?_⟩
  conv => whnf
  conv => whnf
  exact .of rfl
theorem c155a (m : List S47) (hm : m.length ≤ 1048576) : ACall cx.P 155 [.row 7 (m.map enc47), .fn 152 [] []] [] (.int .i64 (firstAt (fun j => isR (m.getD j z47)) m.length)) [] := acallA [] Tryz.f155 (by kernel_rfl) (by kernel_rfl) rfl <| by
  have hE : (m.map enc47).length = m.length := List.length_map _
  have hp := c152
  conv => whnf
  refine .inr (.inl ⟨[0, 1, 7, 8], Nat, fun j => ([(0, .row 7 (m.map enc47)), (1, .fn 152 [] []), (7, .int .i64 m.length), (8, .int .i64 j)], []), fun j => j ≤ m.length ∧ ∀ k, k < j → isR (m.getD k z47) = false, fun j => m.length - j, ?_, fun j hj => ?_⟩)
  · conv => whnf
    exact ⟨0, .of (by rw [← hE]; rfl), Nat.zero_le _, fun k h => absurd h (Nat.not_lt_zero k)⟩
  · obtain ⟨hj1, hj2⟩ := hj
    conv => whnf
    refine ⟨fun w1 => ?_, fun w1 => ?_⟩
    · replace w1 := lti w1
      obtain ⟨x, hx⟩ := at_ex w1
      conv => whnf
      refine ⟨⟨Int.natCast_nonneg _, by omega⟩, ?_⟩
      conv => whnf
      conv => whnf
      refine ⟨_, map_at hx, ?_⟩
      conv => whnf
      conv => whnf
      refine ⟨_, hp x, ?_⟩
      conv => whnf
      conv => whnf
      refine ⟨fun w3 => ?_, fun w3 => ?_⟩
      · conv => whnf
        refine .of ?_
        rw [show firstAt (fun j => isR (m.getD j z47)) m.length = (j : Int) from firstAt_hit w1 (by rw [getD_at hx]; exact w3) hj2]
      · conv => whnf
        exact ⟨j + 1, .of (by rw [up1 w1 (by omega)]), ⟨w1, nx1 hj2 (by rw [getD_at hx]; exact w3)⟩, by show m.length - (j + 1) < m.length - j; omega⟩
    · replace w1 := nlti w1
      conv => whnf
      refine .of ?_
      rw [show firstAt (fun j => isR (m.getD j z47)) m.length = -1 from firstAt_miss fun k hk => hj2 k (by omega)]
theorem c155b (m : List S47) (hm : m.length ≤ 1048576) : ACall cx.P 155 [.row 7 (m.map enc47), .fn 153 [] []] [] (.int .i64 (firstAt (fun j => odd (m.getD j z47)) m.length)) [] := acallA [] Tryz.f155 (by kernel_rfl) (by kernel_rfl) rfl <| by
  have hE : (m.map enc47).length = m.length := List.length_map _
  have hp := c153
  conv => whnf
  refine .inr (.inl ⟨[0, 1, 7, 8], Nat, fun j => ([(0, .row 7 (m.map enc47)), (1, .fn 153 [] []), (7, .int .i64 m.length), (8, .int .i64 j)], []), fun j => j ≤ m.length ∧ ∀ k, k < j → odd (m.getD k z47) = false, fun j => m.length - j, ?_, fun j hj => ?_⟩)
  · conv => whnf
    exact ⟨0, .of (by rw [← hE]; rfl), Nat.zero_le _, fun k h => absurd h (Nat.not_lt_zero k)⟩
  · obtain ⟨hj1, hj2⟩ := hj
    conv => whnf
    refine ⟨fun w1 => ?_, fun w1 => ?_⟩
    · replace w1 := lti w1
      obtain ⟨x, hx⟩ := at_ex w1
      conv => whnf
      refine ⟨⟨Int.natCast_nonneg _, by omega⟩, ?_⟩
      conv => whnf
      conv => whnf
      refine ⟨_, map_at hx, ?_⟩
      conv => whnf
      conv => whnf
      refine ⟨_, hp x, ?_⟩
      conv => whnf
      conv => whnf
      refine ⟨fun w3 => ?_, fun w3 => ?_⟩
      · conv => whnf
        refine .of ?_
        rw [show firstAt (fun j => odd (m.getD j z47)) m.length = (j : Int) from firstAt_hit w1 (by rw [getD_at hx]; exact w3) hj2]
      · conv => whnf
        exact ⟨j + 1, .of (by rw [up1 w1 (by omega)]), ⟨w1, nx1 hj2 (by rw [getD_at hx]; exact w3)⟩, by show m.length - (j + 1) < m.length - j; omega⟩
    · replace w1 := nlti w1
      conv => whnf
      refine .of ?_
      rw [show firstAt (fun j => odd (m.getD j z47)) m.length = -1 from firstAt_miss fun k hk => hj2 k (by omega)]
theorem c155o (m : List S47) (hm : m.length ≤ 1048576) : ACall cx.P 155 [.own 7 32 0 (m.map enc47).length .opn, .fn 152 [] []] [(32, .live (.arr 7 (m.map enc47)))] (.int .i64 (firstAt (fun j => isR (m.getD j z47)) m.length)) [(32, .live (.arr 7 (m.map enc47)))] := acallA [] Tryz.f155 (by kernel_rfl) (by kernel_rfl) rfl <| by
  have hE : (m.map enc47).length = m.length := List.length_map _
  have hp := c152
  conv => whnf
  refine .inr (.inl ⟨[0, 1, 7, 8], Nat, fun j => ([(0, .own 7 32 0 (m.map enc47).length .opn), (1, .fn 152 [] []), (7, .int .i64 m.length), (8, .int .i64 j)], [(32, .live (.arr 7 (m.map enc47)))]), fun j => j ≤ m.length ∧ ∀ k, k < j → isR (m.getD k z47) = false, fun j => m.length - j, ?_, fun j hj => ?_⟩)
  · conv => whnf
    exact ⟨0, .of (by rw [← hE]; rfl), Nat.zero_le _, fun k h => absurd h (Nat.not_lt_zero k)⟩
  · obtain ⟨hj1, hj2⟩ := hj
    conv => whnf
    refine ⟨fun w1 => ?_, fun w1 => ?_⟩
    · replace w1 := lti w1
      obtain ⟨x, hx⟩ := at_ex w1
      conv => whnf
      refine ⟨⟨Int.natCast_nonneg _, by omega⟩, ?_⟩
      conv => whnf
      conv => whnf
      refine ⟨_, map_at0 hx, ?_⟩
      conv => whnf
      conv => whnf
      refine ⟨_, hp x, ?_⟩
      conv => whnf
      conv => whnf
      refine ⟨fun w3 => ?_, fun w3 => ?_⟩
      · conv => whnf
        refine .of ?_
        rw [show firstAt (fun j => isR (m.getD j z47)) m.length = (j : Int) from firstAt_hit w1 (by rw [getD_at hx]; exact w3) hj2]
      · conv => whnf
        exact ⟨j + 1, .of (by rw [up1 w1 (by omega)]), ⟨w1, nx1 hj2 (by rw [getD_at hx]; exact w3)⟩, by show m.length - (j + 1) < m.length - j; omega⟩
    · replace w1 := nlti w1
      conv => whnf
      refine .of ?_
      rw [show firstAt (fun j => isR (m.getD j z47)) m.length = -1 from firstAt_miss fun k hk => hj2 k (by omega)]
theorem c110p (m : List S47) (hm : m.length ≤ 1048576) : ACall cx.P 110 [.row 7 (m.map enc47), .fn 153 [] []] [] (.bool (m.any odd)) [] := acallA [] Tryz.f110 (by kernel_rfl) (by kernel_rfl) rfl <| by
  rw [← fa_any (z := z47)]
  conv => whnf
  refine ⟨_, _, c155b m hm, ?_⟩
  conv => whnf
  conv => whnf
  exact .of rfl
end Go.Ab
namespace Go.Ab
open Go.Proofs Sn
set_option maxRecDepth 100000
set_option linter.unnecessarySimpa false
set_option linter.unusedSimpArgs false
set_option maxHeartbeats 4000000
def flt (m : List S47) : List S47 := m.filter fun x => !isR x
theorem flt_all {m : List S47} (h : firstAt (fun j => isR (m.getD j z47)) m.length = -1) : flt m = m := by
  unfold flt
  rw [List.filter_eq_self]
  intro x hx
  obtain ⟨i, hi, e⟩ := mem_getD (z := z47) hx
  cases hr : isR x with
  | false => rfl
  | true =>
    have := (firstAt_ge (p := fun j => isR (m.getD j z47)) (n := m.length)).2 ⟨i, hi, by rw [e]; exact hr⟩
    omega
theorem flt_take {m : List S47} {i : Nat} (h : ∀ j, j < i → isR (m.getD j z47) = false) (hi : i ≤ m.length) : flt (m.take i) = m.take i := by
  unfold flt
  rw [List.filter_eq_self]
  intro x hx
  obtain ⟨j, hj, e⟩ := mem_getD (z := z47) hx
  rw [List.length_take] at hj
  have e2 : m.getD j z47 = x := by
    rw [← e, List.getD_eq_getElem?_getD, List.getD_eq_getElem?_getD, List.getElem?_take_of_lt (by omega)]
  rw [← e2, h j (by omega)]
  rfl
theorem flt_snoc {m : List S47} {j : Nat} {x : S47} (h : m[j]? = some x) : flt (m.take (j + 1)) = flt (m.take j) ++ bif isR x then [] else [x] := by
  unfold flt
  rw [snoc_take h, List.filter_append]
  congr 1
  cases hr : isR x with
  | true => rw [List.filter_cons, if_neg (by rw [hr]; decide)]; rfl
  | false => rw [List.filter_cons, if_pos (by rw [hr]; decide)]; rfl
theorem c157 (m : List S47) (hm : m.length ≤ 1048576) : ACall cx.P 157 [.own 7 32 0 (m.map enc47).length .opn, .fn 152 [] []] [(32, .live (.arr 7 (m.map enc47)))] (.own 7 32 0 ((flt m).map enc47).length .opn) [(32, .live (.arr 7 ((flt m).map enc47)))] := acallA [] Tryz.f157 (by kernel_rfl) (by kernel_rfl) rfl <| by
  have hE : (m.map enc47).length = m.length := List.length_map _
  conv => whnf
  refine ⟨_, _, c155o m hm, ?_⟩
  conv => whnf
  conv => whnf
  refine ⟨fun w1 => ?_, fun w1 => ?_⟩
  · have w1 := eq_of_beq w1
    conv => whnf
    rw [flt_all w1]
    exact .of rfl
  · have w1 := ne_of_beq w1
    obtain ⟨i, hi, hp, hb, he⟩ : ∃ i : Nat, i < m.length ∧ isR (m.getD i z47) = true ∧ (∀ j, j < i → isR (m.getD j z47) = false) ∧ firstAt (fun j => isR (m.getD j z47)) m.length = (i : Int) := by
      refine firstAt_at (p := fun j => isR (m.getD j z47)) (n := m.length) ?_
      refine Decidable.byContradiction fun h => w1 ?_
      refine firstAt_miss fun j hj => ?_
      cases hr : isR (m.getD j z47) with
      | false => rfl
      | true => exact absurd ((firstAt_ge (p := fun j => isR (m.getD j z47)) (n := m.length)).2 ⟨j, hj, hr⟩) h
    rw [he]
    clear w1 he
    conv => whnf
    refine .inr (.inl ⟨[0, 1, 5, 6], List S47 × Nat × Nat, fun a => ([(0, .own 7 32 0 (m.map enc47).length .opn), (1, .fn 152 [] []), (5, .int .i64 a.2.1), (6, .int .i64 a.2.2)], [(32, .live (.arr 7 (a.1.map enc47)))]), fun a => a.1.length = m.length ∧ a.2.1 < a.2.2 ∧ a.2.2 ≤ m.length ∧ a.1.take a.2.1 = flt (m.take a.2.2) ∧ a.1.drop a.2.2 = m.drop a.2.2, fun a => m.length - a.2.2, ?_, fun a ha => ?_⟩)
    · conv => whnf
      refine ⟨(m, i, i + 1), .of ?_, rfl, Nat.lt_succ_self i, hi, ?_, rfl⟩
      · rw [up1 hi (by omega)]
      · rw [flt_snoc (show m[i]? = some (m.getD i z47) by rw [getD_of hi]; exact List.getElem?_eq_getElem hi), hp, flt_take hb (by omega)]
        exact (List.append_nil _).symm
    · obtain ⟨A, i, j⟩ := a
      obtain ⟨h1, h2, h3, h4, h5⟩ := ha
      dsimp only at h1 h2 h3 h4 h5 ⊢
      have hA : (A.map enc47).length = A.length := List.length_map _
      conv => whnf
      refine ⟨fun w2 => ?_, fun w2 => ?_⟩
      · have w2 : j < m.length := by have := of_decide_eq_true w2; omega
        obtain ⟨x, hx⟩ := at_ex w2
        have hxA : A[j]? = some x := by
          have e1 : (A.drop j)[0]? = (m.drop j)[0]? := by rw [h5]
          rw [List.getElem?_drop, List.getElem?_drop] at e1
          exact e1.trans hx
        have h6 : A.drop (j + 1) = m.drop (j + 1) := by
          have := congrArg (List.drop 1) h5
          rw [List.drop_drop, List.drop_drop] at this
          exact this
        conv => whnf
        refine ⟨⟨Int.natCast_nonneg _, by omega⟩, ?_⟩
        conv => whnf
        conv => whnf
        refine ⟨_, map_at0 hxA, ?_⟩
        conv => whnf
        conv => whnf
        refine ⟨_, c152 x, ?_⟩
        conv => whnf
        conv => whnf
        refine ⟨fun w3 => ?_, fun w3 => ?_⟩
        · have hr : isR x = false := by simpa using w3
          obtain ⟨y, hy⟩ := at_ex (show i < A.length by omega)
          conv => whnf
          refine ⟨⟨Int.natCast_nonneg _, by omega⟩, ?_⟩
          conv => whnf
          conv => whnf
          refine ⟨_, map_at0 hy, ?_⟩
          conv => whnf
          conv => whnf
          refine ⟨(A.set i x, i + 1, j + 1), ?_, ⟨by dsimp only; rw [List.length_set, h1], by dsimp only; omega, w2, ?_, ?_⟩, by show m.length - (j + 1) < m.length - j; omega⟩
          · dsimp only
            rw [up1 (show i < m.length by omega) (by omega), up1 w2 (by omega), List.map_set]
            refine .of ?_
            rw [Nat.zero_add, Int.toNat_natCast]
            rfl
          · dsimp only
            rw [flt_snoc hx, hr, ← h4]
            have hs : (A.set i x)[i]? = some x := by rw [List.getElem?_set_self (by omega)]
            rw [snoc_take hs, List.take_set, List.set_eq_of_length_le (by rw [List.length_take]; omega)]
            rfl
          · dsimp only
            rw [List.drop_set_of_lt (by omega)]
            exact h6
        · have hr : isR x = true := by simpa using w3
          conv => whnf
          refine ⟨(A, i, j + 1), .of (by dsimp only; rw [up1 w2 (by omega)]), ⟨h1, by dsimp only; omega, w2, ?_, h6⟩, by show m.length - (j + 1) < m.length - j; omega⟩
          dsimp only
          rw [flt_snoc hx, hr, ← h4]
          exact (List.append_nil _).symm
      · have w2 : ¬ j < m.length := by have := of_decide_eq_false w2; omega
        have hjm : j = m.length := by omega
        subst hjm
        rw [List.take_length] at h4
        conv => whnf
        refine ⟨⟨Int.natCast_nonneg _, by omega⟩, ?_⟩
        conv => whnf
        conv => whnf
        refine ⟨by simp only [Int.toNat_natCast]; omega, ?_⟩
        conv => whnf
        conv => whnf
        refine ⟨⟨Int.natCast_nonneg _, by omega⟩, ?_⟩
        conv => whnf
        conv => whnf
        have e : (flt m).map enc47 = (A.map enc47).take i := by rw [← h4, List.map_take]
        have el : ((flt m).map enc47).length = i := by rw [e, List.length_take]; omega
        rw [el, e]
        simp only [Int.toNat_natCast, Nat.zero_add]
        exact .trans (.le (.cons _ _ _ _ _ .opn <| .refl _) (.refl _)) (.cut (.cut (fun j e h => by
          rw [List.getElem?_append_left (List.getElem?_eq_some_iff.1 h).1]
          exact h) .nil))
end Go.Ab
namespace Go.Ab
open Sn
def cmpn (k : Int) (v : Lo) : Lo := if k = 1 then (v.1, ⟨⟨#[]⟩, v.2.1.f1, v.2.1.f2, false, v.2.1.f4, [], []⟩, false) else if k = 2 then (false, ⟨⟨#[]⟩, 0, ⟨#[]⟩, v.2.1.f3, 0, [], []⟩, false) else if k = 3 then (false, ⟨⟨#[]⟩, 0, ⟨#[]⟩, false, 0, v.2.1.f5, []⟩, false) else if k = 4 then (false, ⟨⟨#[]⟩, 0, ⟨#[]⟩, false, 0, [], v.2.1.f6⟩, false) else (false, z47, v.2.2)
theorem bif_mem {c : Bool} {x e : S62} (h : e ∈ bif c then [x] else []) : c = true ∧ e = x := by
  cases c with
  | false => cases h
  | true => exact ⟨rfl, List.mem_singleton.1 h⟩
theorem Nice.rooted {s : St} (h : Nice s) {r : S47} (hr : r ∈ s.2) (he : r.f2 = ByteArray.empty) : Rooted S47.f0 S47.f2 s.2 r where
  nodup := h.xn
  mem := hr
  top p hp e := by
    have := h.names p hp
    rw [e, he, nameIs_empty] at this
    cases this
theorem depth16 {l : List S47} {r : S47} (h : Rooted S47.f0 S47.f2 l r) (hl : l.length ≤ 16) {y : S47} {n : Nat} (hy : y ∈ l) (ha : Anc S47.f0 S47.f2 l r y n) : n < 16 := Nat.lt_of_lt_of_le (h.depth hy ha) hl
theorem perm_of_len {α : Type} {A B : List α} (hA : A.Nodup) (hs : ∀ x ∈ A, x ∈ B) (hl : B.length ≤ A.length) (hB : B.Nodup) : A.Perm B := by
  refine (List.perm_ext_iff_of_nodup hA hB).2 fun x => ⟨hs x, fun hx => Classical.byContradiction fun hn => ?_⟩
  have h1 : (x :: A).Nodup := List.nodup_cons.2 ⟨hn, hA⟩
  have h2 := h1.length_le_of_subset (l₂ := B) (fun y hy => by
    rcases List.mem_cons.1 hy with rfl | hy
    · exact hx
    · exact hs y hy)
  rw [List.length_cons] at h2
  omega
theorem pre17 {l : List S47} {r : S47} (h : Rooted S47.f0 S47.f2 l r) (hl : l.length ≤ 16) {ord : List S47 → List S47} (ho : IsOrd ord) {f : S47 → S47} (j : Nat) : pre S47.f0 S47.f2 ord f l (16 + j) r = pre S47.f0 S47.f2 ord f l 16 r :=
  pre_more' ho h.mem (fun _ _ hy ha => depth16 h hl hy ha) j
theorem ord_to {s : St} (h : Nice s) {r : S47} (hr : r ∈ s.2) (he : r.f2 = ByteArray.empty) {p : St} (hp : OrdTo s.1 s.2 p.1 p.2) : s.2.length ≤ 16 ∧ (∀ y ∈ s.2, y.f2 = ByteArray.empty → y = r) ∧ (∀ y ∈ s.2, ∃ n, n < 16 ∧ Anc S47.f0 S47.f2 s.2 r y n) ∧ p.1 = sortL cmpS s.1 ∧ p.2 = pre S47.f0 S47.f2 ordID nIt s.2 16 r := by
  obtain ⟨f', x'⟩ := p
  obtain ⟨⟨r', F', rfl, o, hs, ht⟩, p1, p2⟩ := hp
  have p2 : (r' :: F').Perm s.2 := p2
  have hrr : r = r' := o.root_only (p2.mem_iff.2 hr) he
  subst hrr
  have hl : s.2.length ≤ 16 := by rw [← p2.length_eq]; exact Nat.succ_le_succ o.n16
  refine ⟨hl, fun y hy hye => o.root_only (p2.mem_iff.2 hy) hye, fun y hy => ?_, ?_, ?_⟩
  · obtain ⟨n, hn, ha⟩ := o.reach y (p2.mem_iff.2 hy)
    have tr : ∀ (n : Nat) (y : S47), Anc S47.f0 S47.f2 (r :: F') r y n → Anc S47.f0 S47.f2 s.2 r y n := fun n => by
      induction n with
      | zero => exact fun y h => h
      | succ n ih => exact fun y ⟨q, hq, e, ha⟩ => ⟨q, p2.mem_iff.1 hq, e, ih q ha⟩
    exact ⟨n, by omega, tr n y ha⟩
  · exact hs.symm.trans (sortL_of_perm isCmp_s p1)
  · have h1 := IsN.pre o ht
    show r :: F' = _
    rw [show 20 = 16 + 4 from rfl, pre17 o.rooted (by rw [p2.length_eq]; exact hl) isOrd_ID 4] at h1
    rw [← pre_of_perm h.xn p2 nIt 16 r]
    exact h1.symm
theorem to_ord {s : St} (h : Nice s) {r : S47} (hr : r ∈ s.2) (he : r.f2 = ByteArray.empty) (hl : s.2.length ≤ 16) (hlen : (pre S47.f0 S47.f2 ordID nIt s.2 16 r).length = s.2.length) (ho : OkM (sortL cmpS s.1) (pre S47.f0 S47.f2 ordID nIt s.2 16 r)) : OrdTo s.1 s.2 (sortL cmpS s.1) (pre S47.f0 S47.f2 ordID nIt s.2 16 r) := by
  have hR := h.rooted hr he
  have hperm : (pre S47.f0 S47.f2 ordID nIt s.2 16 r).Perm s.2 := by
    refine perm_of_len (nodup_of_map (pre_nodup isOrd_ID (f := nIt) (fun _ => rfl) hR hr (show Anc S47.f0 S47.f2 s.2 r r 0 from rfl))) (fun x hx => ?_) (by omega) (nodup_of_map h.xn)
    obtain ⟨y, n, e, hy, _⟩ := (mem_pre isOrd_ID hr).1 hx
    rw [e, (h.nm y hy).1]
    exact hy
  refine ⟨?_, sortL_perm _, hperm⟩
  obtain ⟨r0, F0, e0, o⟩ := ho
  have hh : pre S47.f0 S47.f2 ordID nIt s.2 16 r = nIt r :: (ordID (kidsOf S47.f2 s.2 r.f0)).flatMap (pre S47.f0 S47.f2 ordID nIt s.2 15) := rfl
  have hr0 : r0 = r := by
    rw [hh] at e0
    rw [← (List.cons.inj e0).1]
    exact (h.nm r hr).1
  subst hr0
  refine ⟨r0, F0, e0, o, sortL_of_rises isCmp_s (sortL_rises isCmp_s _), ?_⟩
  have h1 := pre_of_perm h.xn hperm nIt 20 r0
  rw [show 20 = 16 + 4 from rfl, pre17 hR hl isOrd_ID 4, e0, turn_pre, norm_root o] at h1
  exact (List.cons.inj h1).2
end Go.Ab
namespace Go.Ab
open Sn
abbrev preN (l : List S47) (r : S47) : List S47 := pre S47.f0 S47.f2 ordID nIt l 16 r
abbrev preU (l : List S47) (k : Nat) (r : S47) : List S47 := pre S47.f0 S47.f2 (fun l => l) (fun x => x) l k r
theorem ord_no_root {s : St} (h : ∀ x ∈ s.2, x.f2 ≠ ByteArray.empty) : ordO s = none := ordO_none.2 fun ⟨p, hp⟩ => by
  obtain ⟨⟨r, F, e, o, _⟩, _, p2⟩ := hp
  rw [e] at p2
  exact h r (p2.mem_iff.1 (List.mem_cons_self ..)) o.plan.2.1
theorem ord_long {s : St} (h : 16 < s.2.length) : ordO s = none := ordO_none.2 fun ⟨p, hp⟩ => by
  obtain ⟨⟨r, F, e, o, _⟩, _, p2⟩ := hp
  rw [e] at p2
  have h1 := p2.length_eq
  have h2 := o.n16
  rw [List.length_cons] at h1
  omega
theorem two_roots {s : St} {r r' : S47} (h1 : r ∈ s.2) (h2 : r' ∈ s.2) (e1 : r.f2 = ByteArray.empty) (e2 : r'.f2 = ByteArray.empty) (hne : r ≠ r') : ordO s = none := ordO_none.2 fun ⟨p, hp⟩ => by
  obtain ⟨⟨q, F, e, o, _⟩, _, p2⟩ := hp
  rw [e] at p2
  exact hne ((o.root_only (p2.mem_iff.2 h1) e1).trans (o.root_only (p2.mem_iff.2 h2) e2).symm)
theorem reach_of {l : List S47} {r : S47} (h : Rooted S47.f0 S47.f2 l r) {ord : List S47 → List S47} (ho : IsOrd ord) (hlen : (pre S47.f0 S47.f2 ord (fun x => x) l 16 r).length = l.length) : ∀ y ∈ l, ∃ n, n < 16 ∧ Anc S47.f0 S47.f2 l r y n := fun y hy => by
  have hp : (pre S47.f0 S47.f2 ord (fun x => x) l 16 r).Perm l := perm_of_len (nodup_of_map (pre_nodup ho (f := fun x => x) (fun _ => rfl) h h.mem (show Anc S47.f0 S47.f2 l r r 0 from rfl))) (fun x hx => by
    obtain ⟨z, n, e, hz, _⟩ := (mem_pre ho h.mem).1 hx
    rw [e]; exact hz) (by omega) (nodup_of_map h.nodup)
  obtain ⟨z, n, e, _, hn, ha⟩ := (mem_pre ho h.mem).1 (hp.mem_iff.2 hy)
  exact ⟨n, hn, by rw [e]; exact ha⟩
theorem len_of {l : List S47} {r : S47} (h : Rooted S47.f0 S47.f2 l r) {ord : List S47 → List S47} (ho : IsOrd ord) {f : S47 → S47} (hf : ∀ x, (f x).f0 = x.f0) (hr : ∀ y ∈ l, ∃ n, n < 16 ∧ Anc S47.f0 S47.f2 l r y n) : (pre S47.f0 S47.f2 ord f l 16 r).length = l.length := by
  rw [(pre_perm ho hf h hr).length_eq, List.length_map]
theorem ord_no_reach {s : St} (h : Nice s) {r : S47} (hr : r ∈ s.2) (he : r.f2 = ByteArray.empty) (hlen : (preU s.2 16 r).length ≠ s.2.length) : ordO s = none := ordO_none.2 fun ⟨p, hp⟩ => by
  obtain ⟨_, _, h3, _⟩ := ord_to h hr he hp
  exact hlen (len_of (h.rooted hr he) isOrd_id (fun _ => rfl) h3)
theorem ord_no_reach' {s : St} (h : Nice s) {r : S47} (hr : r ∈ s.2) (he : r.f2 = ByteArray.empty) (hlen : (preN s.2 r).length ≠ s.2.length) : ordO s = none := ordO_none.2 fun ⟨p, hp⟩ => by
  obtain ⟨_, _, h3, _⟩ := ord_to h hr he hp
  exact hlen (len_of (h.rooted hr he) isOrd_ID (fun _ => rfl) h3)
theorem ord_last {s : St} (h : Nice s) {r : S47} (hr : r ∈ s.2) (he : r.f2 = ByteArray.empty) (hl : s.2.length ≤ 16) (hlen : (preN s.2 r).length = s.2.length) : ordO s = bif isB (sortL cmpS s.1) (preN s.2 r) then some (sortL cmpS s.1, preN s.2 r) else none := by
  cases hb : isB (sortL cmpS s.1) (preN s.2 r) with
  | true => exact ordO_some.2 (to_ord h hr he hl hlen (isB_iff.1 hb))
  | false =>
    refine ordO_none.2 fun ⟨p, hp⟩ => ?_
    obtain ⟨_, _, _, h4, h5⟩ := ord_to h hr he hp
    have h6 := hp.1
    rw [h4, h5] at h6
    obtain ⟨r0, F0, e, o, _⟩ := h6
    rw [isB_iff.2 ⟨r0, F0, e, o⟩] at hb
    cases hb
theorem len_U {s : St} (h : Nice s) {r : S47} (hr : r ∈ s.2) (he : r.f2 = ByteArray.empty) (hlen : (preU s.2 16 r).length = s.2.length) : (preN s.2 r).length = s.2.length ∧ (preU s.2 16 r).Perm s.2 := by
  have h1 := h.rooted hr he
  have h2 := reach_of h1 isOrd_id hlen
  refine ⟨len_of h1 isOrd_ID (fun _ => rfl) h2, ?_⟩
  have := pre_perm isOrd_id (f := fun x => x) (fun _ => rfl) h1 h2
  rwa [List.map_id'] at this
theorem rooted_perm {l l' : List S47} {r : S47} (h : Rooted S47.f0 S47.f2 l r) (hp : l'.Perm l) : Rooted S47.f0 S47.f2 l' r where
  nodup := (hp.map S47.f0).nodup_iff.2 h.nodup
  mem := hp.mem_iff.2 h.mem
  top p hpm := h.top p (hp.mem_iff.1 hpm)
theorem pre_lenR {l : List S47} {r : S47} (h : Rooted S47.f0 S47.f2 l r) {ord : List S47 → List S47} (ho : IsOrd ord) {f : S47 → S47} (hf : ∀ x, (f x).f0 = x.f0) (n : Nat) {x : S47} {d : Nat} (hx : x ∈ l) (ha : Anc S47.f0 S47.f2 l r x d) : (pre S47.f0 S47.f2 ord f l n x).length ≤ l.length := by
  have h1 := pre_nodup (f := f) ho hf h (k := n) hx ha
  have h2 : ((pre S47.f0 S47.f2 ord f l n x).map S47.f0).length ≤ (l.map S47.f0).length := by
    refine h1.length_le_of_subset (fun s hs => ?_)
    obtain ⟨z, hz, rfl⟩ := List.mem_map.1 hs
    obtain ⟨y, m, rfl, hy, _, _⟩ := (mem_pre ho hx).1 hz
    rw [hf]
    exact List.mem_map_of_mem hy
  simpa using h2
end Go.Ab
namespace Go.Ab
open Go.Proofs Sn
set_option maxRecDepth 100000
set_option linter.unnecessarySimpa false
set_option linter.unusedSimpArgs false
set_option maxHeartbeats 4000000
theorem sortI_all (l : List S47) (s : ByteArray) : (sortL (cmpAt l) (kidsI l s)).map (rd_T47 l) = ordID (kidsOf S47.f2 l s) := by
  have h1 := sortL_map (c := cmpID) (key := rd_T47 l) (kidsI l s)
  rw [kidsI_items] at h1
  exact h1
theorem c80t {fs : List ByteArray} {r : S47} {L : List S47} (h : Rooted S47.f0 S47.f2 L r) (hl16 : L.length ≤ 16) (hsm : ∀ x ∈ L, Small x.f5 ∧ Small x.f6) : ∀ (k d i : Nat) (x : S47), d + k = 16 → L[i]? = some x → Anc S47.f0 S47.f2 L r x d → PCall cx.P 80 [encM fs L, .int .i64 i] (.row 7 ((pre S47.f0 S47.f2 ordID nIt L k x).map enc47)) := by
  intro k
  induction k with
  | zero =>
    intro d i x hd hx ha
    have := depth16 h hl16 (List.mem_of_getElem? hx) ha
    omega
  | succ k ih =>
    intro d i x hd hx ha
    have hm : L.length ≤ 1048576 := by omega
    have hE : (L.map enc47).length = L.length := List.length_map _
    have hi := (List.getElem?_eq_some_iff.1 hx).1
    have hKm := kidsI_len L x.f0
    have hi5 := (hsm x (List.mem_of_getElem? hx)).1
    have hi6 := (hsm x (List.mem_of_getElem? hx)).2
    have hS := sortI_all L x.f0
    obtain ⟨K, hK⟩ : ∃ K, K = sortL (cmpAt L) (kidsI L x.f0) := ⟨_, rfl⟩
    have hKl : K.length = (kidsI L x.f0).length := by rw [hK, sortL_length]
    have h128 := c128n (fs := fs) h.nodup hm x.f0
    rw [← hK] at h128 hS
    have hKE : (K.map enc0).length = K.length := List.length_map _
    have hKI : ((kidsI L x.f0).map enc0).length = K.length := by rw [List.length_map, hKl]
    have h127 := c127 fs L x.f0 hm
    rw [hKI] at h127 h128
    refine pcall Tryz.f80 (by kernel_rfl) (by kernel_rfl) ?_
    unfold encM at h127 ⊢
    conv => whnf
    refine ⟨⟨Int.natCast_nonneg _, by omega⟩, ?_⟩
    conv => whnf
    conv => whnf
    refine ⟨_, map_at hx, ?_⟩
    conv => whnf
    conv => whnf
    refine ⟨_, c126 _ hi5, ?_⟩
    conv => whnf
    conv => whnf
    refine ⟨_, c126 _ hi6, ?_⟩
    conv => whnf
    conv => whnf
    refine ⟨by kernel_rfl, ?_⟩
    conv => whnf
    conv => whnf
    refine ⟨_, _, h127, ?_⟩
    conv => whnf
    conv => whnf
    refine ⟨_, _, h128, ?_⟩
    conv => whnf
    conv => whnf
    have hlen : ∀ t, (nIt x :: ((K.map (rd_T47 L)).take t).flatMap (pre S47.f0 S47.f2 ordID nIt L k)).length ≤ 1048576 := fun t => by
      have h1 := Nat.le_trans (pre_lenR h isOrd_ID (f := nIt) (fun _ => rfl) (k + 1) (List.mem_of_getElem? hx) ha) hm
      refine Nat.le_trans ?_ h1
      show _ ≤ (nIt x :: (ordID (kidsOf S47.f2 L x.f0)).flatMap (pre S47.f0 S47.f2 ordID nIt L k)).length
      rw [← hS, List.length_cons, List.length_cons]
      refine Nat.succ_le_succ ?_
      rw [List.length_flatMap, List.length_flatMap]
      conv => rhs; rw [← List.take_append_drop t (K.map (rd_T47 L))]
      rw [List.map_append, List.sum_append]
      exact Nat.le_add_right _ _
    refine .inr (.inl ⟨[2, 6, 32, 33, 34], Nat, fun j => ([(2, .bptr 144 0), (6, .own 7 400 0 ((nIt x :: ((K.map (rd_T47 L)).take j).flatMap (pre S47.f0 S47.f2 ordID nIt L k)).map enc47).length .opn), (32, .own 1 2064 0 K.length .opn), (33, .int .i64 K.length), (34, .int .i64 j)],
      [(2064, .live (.arr 1 (K.map enc0))), (400, .live (.arr 7 ((nIt x :: ((K.map (rd_T47 L)).take j).flatMap (pre S47.f0 S47.f2 ordID nIt L k)).map enc47))), (144, .live (.box [.row 1 (fs.map encT), .row 7 (L.map enc47)]))]), fun j => j ≤ K.length, fun j => K.length - j, ?_, fun j hj => ?_⟩)
    · conv => whnf
      exact ⟨0, .le (.cons _ _ _ _ _ .refl <| .cons _ _ _ _ _ .opn <| .refl _) (.refl _), Nat.zero_le _⟩
    · have hj : j ≤ K.length := hj
      conv => whnf
      refine ⟨fun w1 => ?_, fun w1 => ?_⟩
      · replace w1 := lti w1
        obtain ⟨a, hKa⟩ := at_ex w1
        have haK : a ∈ kidsI L x.f0 := by rw [← (sortL_perm (c := cmpAt L) _).mem_iff, ← hK]; exact List.mem_of_getElem? hKa
        obtain ⟨q, rfl, hq, hqp⟩ := kidsI_mem haK
        obtain ⟨y, hy⟩ := at_ex hq
        rw [getD_at hy] at hqp
        have hya : Anc S47.f0 S47.f2 L r y (d + 1) := by
          have := Anc.trans (m := 1) ⟨x, List.mem_of_getElem? hx, hqp.symm, rfl⟩ ha
          rwa [Nat.add_comm] at this
        have h80 := ih (d + 1) q y (by omega) hy hya
        unfold encM at h80
        conv => whnf
        refine ⟨⟨Int.natCast_nonneg _, by omega⟩, ?_⟩
        conv => whnf
        conv => whnf
        refine ⟨_, map_at0 hKa, ?_⟩
        conv => whnf
        conv => whnf
        refine ⟨_, h80, ?_⟩
        conv => whnf
        conv => whnf
        have hyd : rd_T47 L (q : Int) = y := by unfold rd_T47; rw [Int.toNat_natCast, getD_at hy]
        have hnx : (nIt x :: ((K.map (rd_T47 L)).take (j + 1)).flatMap (pre S47.f0 S47.f2 ordID nIt L k)) = (nIt x :: ((K.map (rd_T47 L)).take j).flatMap (pre S47.f0 S47.f2 ordID nIt L k)) ++ pre S47.f0 S47.f2 ordID nIt L k y := by
          rw [snoc_take (show (K.map (rd_T47 L))[j]? = some y by rw [List.getElem?_map, hKa]; exact congrArg some hyd), List.flatMap_append, List.cons_append]
          congr 2
          exact List.append_nil _
        have hl1 := hlen (j + 1)
        rw [hnx, List.length_append] at hl1
        refine ⟨⟨Nat.zero_add _, by rw [List.length_map, List.length_map]; show (_ + _) * 104 ≤ 2 ^ 47; omega⟩, ?_⟩
        conv => whnf
        conv => whnf
        refine ⟨j + 1, ?_, w1, by show K.length - (j + 1) < K.length - j; omega⟩
        dsimp only
        rw [hnx, up1 w1 (by omega), List.map_append, List.length_append]
        exact .of rfl
      · replace w1 := nlti w1
        conv => whnf
        refine ⟨by omega, ?_⟩
        conv => whnf
        conv => whnf
        have : (nIt x :: ((K.map (rd_T47 L)).take j).flatMap (pre S47.f0 S47.f2 ordID nIt L k)) = pre S47.f0 S47.f2 ordID nIt L (k + 1) x := by
          rw [List.take_of_length_le (by rw [List.length_map]; omega), hS]; rfl
        exact .of (by rw [List.drop_zero, this])
theorem c36t {fs : List ByteArray} {r : S47} {F : List S47} (hf : fs.length ≤ 1048576) (h : Rooted S47.f0 S47.f2 (r :: F) r) (hl16 : (r :: F).length ≤ 16) (hsm : ∀ x ∈ r :: F, Small x.f5 ∧ Small x.f6) : PCall cx.P 36 [encM fs (r :: F)] (encM (sortL cmpS fs) (preN (r :: F) r)) := pcall Tryz.f36 (by kernel_rfl) (by kernel_rfl) <| by
  have h80 := c80t (fs := fs) h hl16 hsm 16 0 0 r rfl rfl rfl
  unfold encM at h80 ⊢
  conv => whnf
  refine ⟨_, _, c78 _ hf, ?_⟩
  conv => whnf
  conv => whnf
  refine ⟨_, _, c79 _ hf, ?_⟩
  conv => whnf
  conv => whnf
  refine ⟨_, h80, ?_⟩
  conv => whnf
  conv => whnf
  refine ⟨by rw [Nat.zero_add, List.length_map, List.length_map, sortL_length], ?_⟩
  conv => whnf
  conv => whnf
  exact .of rfl
end Go.Ab
namespace Go.Ab
open Go.Proofs Sn
set_option maxRecDepth 100000
set_option linter.unnecessarySimpa false
set_option linter.unusedSimpArgs false
set_option maxHeartbeats 4000000
theorem flt_kids {l : List S47} {s : ByteArray} (hs : s ≠ ByteArray.empty) : (flt l).filter (fun y => sEq y.f2 s) = kidsOf S47.f2 l s := by
  unfold flt kidsOf
  rw [List.filter_filter]
  refine List.filter_congr fun y _ => ?_
  rw [Bool.eq_iff_iff, Bool.and_eq_true, sEq_iff, decide_eq_true_iff]
  refine ⟨fun h => h.1, fun h => ⟨h, ?_⟩⟩
  cases hr : isR y with
  | false => rfl
  | true => exact absurd (h.symm.trans (isR_iff.1 hr)) hs
theorem c156 {L : List S47} {r : S47} (h : Rooted S47.f0 S47.f2 L r) (he : r.f2 = ByteArray.empty) (hl16 : L.length ≤ 16) : ∀ (k d : Nat) (x : S47), d + k = 16 → x ∈ L → Anc S47.f0 S47.f2 L r x d → PCall cx.P 156 [.row 7 ((flt L).map enc47), .agg (enc47 x)] (.row 7 ((preU L k x).map enc47)) := by
  intro k
  induction k with
  | zero =>
    intro d x hd hx ha
    have := depth16 h hl16 hx ha
    omega
  | succ k ih =>
    intro d x hd hx ha
    have hx0 : x.f0 ≠ ByteArray.empty := by rw [← he]; exact h.top x hx
    obtain ⟨K, hK⟩ : ∃ K, K = flt L := ⟨_, rfl⟩
    have hKk := flt_kids (l := L) hx0
    have hKL : ∀ y ∈ K, y ∈ L := fun y hy => by rw [hK] at hy; exact (List.mem_filter.1 hy).1
    have hKl : K.length ≤ 16 := by rw [hK]; exact Nat.le_trans (List.length_filter_le _ _) hl16
    rw [← hK] at hKk ih ⊢
    have hE : (K.map enc47).length = K.length := List.length_map _
    obtain ⟨Z, hZ⟩ : ∃ Z : Nat → List S47, Z = fun j => x :: ((K.take j).filter (fun y => sEq y.f2 x.f0)).flatMap (preU L k) := ⟨_, rfl⟩
    have hZe : Z K.length = preU L (k + 1) x := by
      rw [hZ]
      show x :: ((K.take K.length).filter _).flatMap _ = _
      rw [List.take_length, hKk]
      rfl
    have hZy : ∀ j y, K[j]? = some y → sEq y.f2 x.f0 = true → Z (j + 1) = Z j ++ preU L k y := fun j y hy hs => by
      rw [hZ]
      show x :: ((K.take (j + 1)).filter _).flatMap _ = (x :: ((K.take j).filter _).flatMap _) ++ _
      rw [snoc_take hy, List.filter_append, List.filter_cons, if_pos hs, List.flatMap_append, List.cons_append]
      congr 2
      exact List.append_nil _
    have hZn : ∀ j y, K[j]? = some y → sEq y.f2 x.f0 = false → Z (j + 1) = Z j := fun j y hy hs => by
      rw [hZ]
      show x :: ((K.take (j + 1)).filter _).flatMap _ = x :: ((K.take j).filter _).flatMap _
      rw [snoc_take hy, List.filter_append, List.filter_cons, if_neg (by rw [hs]; decide)]
      show _ = x :: ((K.take j).filter _).flatMap _
      rw [List.filter_nil, List.append_nil]
    have hZl : ∀ j, j ≤ K.length → (Z j).length ≤ 16 := fun j hj => by
      refine Nat.le_trans ?_ (Nat.le_trans (pre_lenR h isOrd_id (f := fun x => x) (fun _ => rfl) (k + 1) hx ha) hl16)
      show _ ≤ (preU L (k + 1) x).length
      rw [← hZe, hZ]
      show (x :: ((K.take j).filter _).flatMap _).length ≤ (x :: ((K.take K.length).filter _).flatMap _).length
      rw [List.length_cons, List.length_cons]
      refine Nat.succ_le_succ ?_
      rw [List.take_length]
      conv => rhs; rw [← List.take_append_drop j K]
      rw [List.filter_append, List.flatMap_append, List.length_append]
      exact Nat.le_add_right _ _
    refine pcall3 Tryz.f156 (by kernel_rfl) (by kernel_rfl) ?_
    conv => whnf
    refine .inr (.inl ⟨[0, 3, 5, 10, 11, 12], Nat, fun j => ([(0, .row 7 (K.map enc47)), (3, .bptr 208 0), (5, .own 7 336 0 ((Z j).map enc47).length .opn), (10, .row 7 (K.map enc47)), (11, .int .i64 K.length), (12, .int .i64 j)],
      [(336, .live (.arr 7 ((Z j).map enc47))), (208, .live (.box (enc47 x)))]), fun j => j ≤ K.length, fun j => K.length - j, ?_, fun j hj => ?_⟩)
    · conv => whnf
      refine ⟨0, ?_, Nat.zero_le _⟩
      dsimp only
      rw [show Z 0 = [x] from by rw [hZ]; rfl, ← hE]
      exact .le (.cons _ _ _ _ _ .refl <| .cons _ _ _ _ _ .refl <| .cons _ _ _ _ _ .opn <| .refl _) (.refl _)
    · have hj : j ≤ K.length := hj
      have hZb := hZl j hj
      have hZE : ((Z j).map enc47).length = (Z j).length := List.length_map _
      conv => whnf
      refine ⟨fun w1 => ?_, fun w1 => ?_⟩
      · replace w1 := lti w1
        obtain ⟨y, hy⟩ := at_ex w1
        conv => whnf
        refine ⟨⟨Int.natCast_nonneg _, by omega⟩, ?_⟩
        conv => whnf
        conv => whnf
        refine ⟨_, map_at hy, ?_⟩
        conv => whnf
        conv => whnf
        refine ⟨fun w2 => ?_, fun w2 => ?_⟩
        · have hya : Anc S47.f0 S47.f2 L r y (d + 1) := by
            have := Anc.trans (m := 1) ⟨x, hx, ((sEq_iff _ _).1 w2).symm, rfl⟩ ha
            rwa [Nat.add_comm] at this
          have h156 := ih (d + 1) y (by omega) (hKL y (List.mem_of_getElem? hy)) hya
          have hZb2 := hZl (j + 1) w1
          rw [hZy j y hy w2, List.length_append] at hZb2
          conv => whnf
          refine ⟨_, h156, ?_⟩
          conv => whnf
          conv => whnf
          refine ⟨⟨Nat.zero_add _, by rw [List.length_map, List.length_map]; show (_ + _) * 104 ≤ 2 ^ 47; omega⟩, ?_⟩
          conv => whnf
          conv => whnf
          refine ⟨j + 1, ?_, w1, by show K.length - (j + 1) < K.length - j; omega⟩
          dsimp only
          rw [hZy j y hy w2, up1 w1 (by omega), List.map_append, List.length_append]
          exact .of rfl
        · conv => whnf
          refine ⟨j + 1, ?_, w1, by show K.length - (j + 1) < K.length - j; omega⟩
          dsimp only
          rw [hZn j y hy w2, up1 w1 (by omega)]
          exact .of rfl
      · replace w1 := nlti w1
        conv => whnf
        refine ⟨by omega, ?_⟩
        conv => whnf
        conv => whnf
        exact .of (by rw [List.drop_zero, show j = K.length by omega, hZe])
theorem c105 {s : St} (h : Nice s) (hf : s.1.length ≤ 1024) (hm : s.2.length ≤ 1024) : ∃ p : St, PCall cx.P 105 [encM s.1 s.2] (.tup [encM p.1 p.2, .bool (ordO s).isSome]) ∧ ∀ n, ordO s = some n → n = p := by
  obtain ⟨fs, xs⟩ := s
  have hf : fs.length ≤ 1024 := hf
  have hm : xs.length ≤ 1024 := hm
  show ∃ p : St, PCall cx.P 105 [encM fs xs] (.tup [encM p.1 p.2, .bool (ordO (fs, xs)).isSome]) ∧ ∀ n, ordO (fs, xs) = some n → n = p
  have hodd : xs.any odd = false := by
    rw [List.any_eq_false]
    intro x hx
    unfold odd
    rw [h.names x hx]
    decide
  have h110 := c110p xs (by omega)
  rw [hodd] at h110
  have h155 := c155a xs (by omega)
  have no : ordO (fs, xs) = none → PCall cx.P 105 [encM fs xs] (.tup [.agg [.nils, .nils], .lit false]) → ∃ p : St, PCall cx.P 105 [encM fs xs] (.tup [encM p.1 p.2, .bool (ordO (fs, xs)).isSome]) ∧ ∀ n, ordO (fs, xs) = some n → n = p := fun hn hc => ⟨([], []), by rw [hn]; exact hc.to (.tup2 (.agg2 .nils .nils) (.lit rfl)), fun n e => by rw [hn] at e; cases e⟩
  have hE : (xs.map enc47).length = xs.length := List.length_map _
  by_cases hroot : 0 ≤ firstAt (fun j => isR (xs.getD j z47)) xs.length
  · obtain ⟨i, hi, hp, hb, hfi⟩ := firstAt_at hroot
    rw [hfi] at h155
    have hx : xs[i]? = some (xs.getD i z47) := by rw [getD_of hi]; exact List.getElem?_eq_getElem hi
    generalize xs.getD i z47 = r at hx hp
    have hr : r ∈ xs := List.mem_of_getElem? hx
    have he : r.f2 = ByteArray.empty := isR_iff.1 hp
    by_cases hlen : 16 < xs.length
    · refine no (ord_long hlen) (pcall3 Tryz.f105 (by kernel_rfl) (by kernel_rfl) ?_)
      unfold encM
      conv => whnf
      refine ⟨_, _, h155, ?_⟩
      conv => whnf
      conv => whnf
      refine ⟨fun w1 => ?_, fun w1 => ?_⟩
      · have := of_decide_eq_true w1
        omega
      · conv => whnf
        refine ⟨fun w2 => ?_, fun w2 => ?_⟩
        · conv => whnf
          exact .of rfl
        · have := of_decide_eq_false w2
          omega
    · have hR := h.rooted hr he
      have hl16 : xs.length ≤ 16 := by omega
      have h156 := c156 hR he hl16 16 0 r rfl hr rfl
      have h135 := c135 xs (by omega)
      have h157 := c157 xs (by omega)
      have hU := pre_lenR hR isOrd_id (f := fun x => x) (fun _ => rfl) 16 hr (show Anc S47.f0 S47.f2 xs r r 0 from rfl)
      have hUe : ((preU xs 16 r).map enc47).length = (preU xs 16 r).length := List.length_map _
      have hFe : ((flt xs).map enc47).length = (flt xs).length := List.length_map _
      by_cases hlu : (preU xs 16 r).length = xs.length
      · obtain ⟨k1, k2⟩ := len_U h hr he hlu
        have hU0 : ∃ F, preU xs 16 r = r :: F := ⟨_, rfl⟩
        obtain ⟨F, hF⟩ := hU0
        have h36 := c36t (fs := fs) (r := r) (F := F) (by omega) (by rw [← hF]; exact rooted_perm hR k2) (by rw [← hF, hlu]; exact hl16) (fun x hx => by
          rw [← hF] at hx
          have := h.nm x (k2.mem_iff.1 hx)
          exact ⟨this.2.1, this.2.2⟩)
        rw [← hF] at h36
        have hN : preN (preU xs 16 r) r = preN xs r := pre_of_perm h.xn k2 nIt 16 r
        rw [hN] at h36
        have hlast := ord_last h hr he hl16 k1
        have hsz : SzM (sortL cmpS fs) (preN xs r) := ⟨by rw [sortL_length]; omega, by have : (preN xs r).length = xs.length := k1; omega, fun x hx => by
          obtain ⟨y, n, e, hy, _⟩ := (mem_pre isOrd_ID hr).1 hx
          have hy := h.nm y hy
          rw [e, hy.1]
          exact ⟨⟨Nat.le_trans hy.2.1.1 (by decide), fun x hx => ⟨Nat.le_trans (hy.2.1.2 x hx).1 (by decide), Nat.le_trans (hy.2.1.2 x hx).2 (by decide)⟩⟩, Nat.le_trans hy.2.2.1 (by decide), fun x hx => ⟨Nat.le_trans (hy.2.2.2 x hx).1 (by decide), Nat.le_trans (hy.2.2.2 x hx).2 (by decide)⟩⟩⟩
        have h62 := c62 (sortL cmpS fs) (preN xs r) hsz
        refine ⟨(sortL cmpS fs, preN xs r), PCall.to (pcall3 Tryz.f105 (by kernel_rfl) (by kernel_rfl) (r := .tup [encM (sortL cmpS fs) (preN xs r), .bool (isB (sortL cmpS fs) (preN xs r))]) ?_) (.tup2 .refl (.bool ?_)), fun n e => ?_⟩
        · unfold encM at h36 h62 ⊢
          conv => whnf
          refine ⟨_, _, h155, ?_⟩
          conv => whnf
          conv => whnf
          refine ⟨fun w1 => ?_, fun w1 => ?_⟩
          · have := of_decide_eq_true w1
            omega
          · conv => whnf
            refine ⟨fun w2 => ?_, fun w2 => ?_⟩
            · have := of_decide_eq_true w2
              omega
            · conv => whnf
              refine ⟨_, _, h110, ?_⟩
              conv => whnf
              conv => whnf
              refine ⟨fun w3 => ?_, fun w3 => ?_⟩
              · cases w3
              · conv => whnf
                refine ⟨_, _, h135, ?_⟩
                conv => whnf
                conv => whnf
                refine ⟨_, _, h157, ?_⟩
                conv => whnf
                conv => whnf
                refine ⟨⟨Int.natCast_nonneg _, by omega⟩, ?_⟩
                conv => whnf
                conv => whnf
                refine ⟨_, map_at hx, ?_⟩
                conv => whnf
                conv => whnf
                refine ⟨by omega, ?_⟩
                conv => whnf
                conv => whnf
                rw [List.drop_zero]
                refine ⟨_, h156, ?_⟩
                conv => whnf
                conv => whnf
                refine ⟨by kernel_rfl, ?_⟩
                conv => whnf
                conv => whnf
                refine ⟨fun w4 => ?_, fun w4 => ?_⟩
                · exact absurd (congrArg (fun n : Nat => (n : Int)) (hUe.trans (hlu.trans hE.symm))) (ne_of_bne w4)
                · conv => whnf
                  refine ⟨_, h36, ?_⟩
                  conv => whnf
                  conv => whnf
                  conv => whnf
                  refine ⟨_, h62, ?_⟩
                  conv => whnf
                  conv => whnf
                  refine ⟨by kernel_rfl, ?_⟩
                  conv => whnf
                  conv => whnf
                  exact .of rfl
        · rw [hlast]
          cases isB (sortL cmpS fs) (preN xs r) <;> rfl
        · rw [hlast] at e
          cases hB : isB (sortL cmpS fs) (preN xs r) with
          | true => rw [hB] at e; cases e; rfl
          | false => rw [hB] at e; cases e
      · refine no (ord_no_reach h hr he hlu) (pcall3 Tryz.f105 (by kernel_rfl) (by kernel_rfl) ?_)
        unfold encM
        conv => whnf
        refine ⟨_, _, h155, ?_⟩
        conv => whnf
        conv => whnf
        refine ⟨fun w1 => ?_, fun w1 => ?_⟩
        · have := of_decide_eq_true w1
          omega
        · conv => whnf
          refine ⟨fun w2 => ?_, fun w2 => ?_⟩
          · have := of_decide_eq_true w2
            omega
          · conv => whnf
            refine ⟨_, _, h110, ?_⟩
            conv => whnf
            conv => whnf
            refine ⟨fun w3 => ?_, fun w3 => ?_⟩
            · cases w3
            · conv => whnf
              refine ⟨_, _, h135, ?_⟩
              conv => whnf
              conv => whnf
              refine ⟨_, _, h157, ?_⟩
              conv => whnf
              conv => whnf
              refine ⟨⟨Int.natCast_nonneg _, by omega⟩, ?_⟩
              conv => whnf
              conv => whnf
              refine ⟨_, map_at hx, ?_⟩
              conv => whnf
              conv => whnf
              refine ⟨by omega, ?_⟩
              conv => whnf
              conv => whnf
              rw [List.drop_zero]
              refine ⟨_, h156, ?_⟩
              conv => whnf
              conv => whnf
              refine ⟨by kernel_rfl, ?_⟩
              conv => whnf
              conv => whnf
              refine ⟨fun w4 => ?_, fun w4 => ?_⟩
              · conv => whnf
                exact .of rfl
              · have w4' : ((preU xs 16 r).map enc47).length = (xs.map enc47).length := Int.ofNat.inj (eq_of_bne w4)
                exact absurd (hUe.symm.trans (w4'.trans hE)) hlu
  · have hn1 : firstAt (fun j => isR (xs.getD j z47)) xs.length = -1 := by
      refine firstAt_miss fun j hj => ?_
      cases hr : isR (xs.getD j z47) with
      | false => rfl
      | true => exact absurd ((firstAt_ge (p := fun j => isR (xs.getD j z47)) (n := xs.length)).2 ⟨j, hj, hr⟩) hroot
    rw [hn1] at h155
    refine no (ord_no_root fun x hx hx2 => ?_) (pcall3 Tryz.f105 (by kernel_rfl) (by kernel_rfl) ?_)
    · obtain ⟨j, hj, e⟩ := mem_getD (z := z47) hx
      exact hroot ((firstAt_ge (p := fun j => isR (xs.getD j z47)) (n := xs.length)).2 ⟨j, hj, by rw [e]; exact isR_iff.2 hx2⟩)
    · unfold encM
      conv => whnf
      refine ⟨_, _, h155, ?_⟩
      conv => whnf
      conv => whnf
      refine ⟨fun w1 => ?_, fun w1 => ?_⟩
      · conv => whnf
        exact .of rfl
      · cases w1
end Go.Ab
namespace Go.Ab
open Go.Proofs Sn
set_option maxRecDepth 100000
set_option linter.unnecessarySimpa false
set_option linter.unusedSimpArgs false
set_option maxHeartbeats 4000000
def mS (F : List ByteArray) (X : List S47) : Sto := [(34, .live (.arr 7 (X.map enc47))), (33, .live (.arr 1 (F.map encT))), (32, .live (.box [.own 1 33 0 (F.map encT).length .opn, .own 7 34 0 (X.map enc47).length .opn]))]
def mR (F : List ByteArray) (X : List S47) : Sto := [(32, .live (.box [.own 1 33 0 (F.map encT).length .opn, .own 7 34 0 (X.map enc47).length .opn])), (33, .live (.arr 1 (F.map encT))), (34, .live (.arr 7 (X.map enc47)))]
def mF (F : List ByteArray) (X : List S47) : Sto := [(48, .live (.arr 1 (F.map encT))), (32, .live (.box [.own 1 48 0 (F.map encT).length .opn, .own 7 34 0 (X.map enc47).length .opn])), (33, .dead), (34, .live (.arr 7 (X.map enc47)))]
def mX (F : List ByteArray) (X : List S47) : Sto := [(49, .live (.arr 7 (X.map enc47))), (32, .live (.box [.own 1 33 0 (F.map encT).length .opn, .own 7 49 0 (X.map enc47).length .opn])), (33, .live (.arr 1 (F.map encT))), (34, .dead)]
theorem delS_idx {F : List ByteArray} {s : ByteArray} {i : Nat} (hn : F.Nodup) (hi : F[i]? = some s) : F.eraseIdx i = delS F s := by
  obtain ⟨h1, h2⟩ := List.getElem?_eq_some_iff.1 hi
  have hF : F = F.take i ++ s :: F.drop (i + 1) := by rw [← h2, ← List.drop_eq_getElem_cons h1, List.take_append_drop]
  rw [List.eraseIdx_eq_take_drop_succ]
  unfold delS
  conv => rhs; rw [hF]
  rw [hF] at hn
  obtain ⟨_, n2, n3⟩ := List.nodup_append.1 hn
  have n4 := (List.nodup_cons.1 n2).1
  rw [List.filter_append, List.filter_cons, if_neg (by simp), List.filter_eq_self.2 fun a ha => decide_eq_true (n3 a ha s (List.mem_cons_self ..)), List.filter_eq_self.2 fun a ha => decide_eq_true (show a ≠ s from fun e => n4 (e ▸ ha))]
theorem delI_idx {X : List S47} {x : S47} {i : Nat} (hn : (X.map S47.f0).Nodup) (hi : X[i]? = some x) : X.eraseIdx i = delI X x.f0 := by
  obtain ⟨h1, h2⟩ := List.getElem?_eq_some_iff.1 hi
  have hF : X = X.take i ++ x :: X.drop (i + 1) := by rw [← h2, ← List.drop_eq_getElem_cons h1, List.take_append_drop]
  rw [List.eraseIdx_eq_take_drop_succ]
  unfold delI
  conv => rhs; rw [hF]
  rw [hF, List.map_append, List.map_cons] at hn
  obtain ⟨_, n2, n3⟩ := List.nodup_append.1 hn
  have n4 := (List.nodup_cons.1 n2).1
  rw [List.filter_append, List.filter_cons, if_neg (by simp), List.filter_eq_self.2 fun a ha => decide_eq_true (n3 a.f0 (List.mem_map_of_mem ha) x.f0 (List.mem_cons_self ..)), List.filter_eq_self.2 fun a ha => decide_eq_true (show a.f0 ≠ x.f0 from fun e => n4 (by rw [← e]; exact List.mem_map_of_mem ha))]
theorem updI_idx {X : List S47} {x : S47} {i : Nat} {e : S62} (hn : (X.map S47.f0).Nodup) (hi : X[i]? = some x) (he : x.f0 = e.f0) : X.set i (setF x e) = updI X e := by
  obtain ⟨h1, h2⟩ := List.getElem?_eq_some_iff.1 hi
  have hF : X = X.take i ++ x :: X.drop (i + 1) := by rw [← h2, ← List.drop_eq_getElem_cons h1, List.take_append_drop]
  unfold updI
  rw [List.set_eq_take_append_cons_drop, if_pos h1]
  conv => rhs; rw [hF]
  rw [hF, List.map_append, List.map_cons] at hn
  obtain ⟨_, n2, n3⟩ := List.nodup_append.1 hn
  have n4 := (List.nodup_cons.1 n2).1
  have key : ∀ l : List S47, (∀ a ∈ l, a.f0 ≠ e.f0) → l.map (fun x => if x.f0 = e.f0 then setF x e else x) = l := fun l h => by
    conv => rhs; rw [← List.map_id l]
    exact List.map_congr_left fun a ha => if_neg (h a ha)
  rw [List.map_append, List.map_cons, if_pos he, key _ fun a ha h => n3 a.f0 (List.mem_map_of_mem ha) x.f0 (List.mem_cons_self ..) (h.trans he.symm), key _ fun a ha h => n4 (by rw [he, ← h]; exact List.mem_map_of_mem ha)]
theorem idx_at {F : List ByteArray} {s : ByteArray} (h : 0 ≤ idx F s) : ∃ i : Nat, idx F s = i ∧ F[i]? = some s := by
  obtain ⟨i, hi, h1, _, h2⟩ := firstAt_at h
  refine ⟨i, h2, ?_⟩
  have : s = F.getD i ByteArray.empty := bs_inj (eq_of_beq h1)
  rw [this, getD_of hi]
  exact List.getElem?_eq_getElem hi
theorem idx_hs {F : List ByteArray} {s : ByteArray} : decide (idx F s ≥ 0) = hasS F s := bool_of (by rw [decide_eq_true_iff, hasS_iff]; exact idx_ge)
theorem c150n (F : List ByteArray) (X : List S47) (e : S62) (hF : F.length ≤ 1024) (h : hasS F e.f0 = e.f2) : ACall cx.P 150 [.bptr 32 0, .agg (enc62 e)] (mS F X) (.lit false) (mR F X) := acallA [] Tryz.f150 (by kernel_rfl) (by kernel_rfl) rfl <| by
  have h141 := c141 F e.f0 (by omega)
  have hE : (F.map encT).length = F.length := List.length_map _
  conv => whnf
  refine ⟨by omega, ?_⟩
  conv => whnf
  conv => whnf
  refine ⟨_, h141, ?_⟩
  conv => whnf
  conv => whnf
  refine ⟨by kernel_rfl, ?_⟩
  conv => whnf
  conv => whnf
  rw [idx_hs]
  refine ⟨fun w1 => ?_, fun w1 => ?_⟩
  · conv => whnf
    exact .of rfl
  · rw [h] at w1
    simp at w1
theorem c150a (F : List ByteArray) (X : List S47) (e : S62) (hF : F.length ≤ 1024) (h : hasS F e.f0 = false) (he : e.f2 = true) : ACall cx.P 150 [.bptr 32 0, .agg (enc62 e)] (mS F X) (.lit true) (mF (F ++ [e.f0]) X) := acallA [] Tryz.f150 (by kernel_rfl) (by kernel_rfl) rfl <| by
  have h141 := c141 F e.f0 (by omega)
  have hE : (F.map encT).length = F.length := List.length_map _
  conv => whnf
  refine ⟨by omega, ?_⟩
  conv => whnf
  conv => whnf
  refine ⟨_, h141, ?_⟩
  conv => whnf
  conv => whnf
  refine ⟨by kernel_rfl, ?_⟩
  conv => whnf
  conv => whnf
  rw [idx_hs]
  refine ⟨fun w1 => ?_, fun w1 => ?_⟩
  · rw [h, he] at w1
    cases w1
  · conv => whnf
    refine ⟨fun w2 => ?_, fun w2 => ?_⟩
    · conv => whnf
      refine ⟨by simpa using by omega, ?_⟩
      conv => whnf
      conv => whnf
      refine ⟨by simpa using by omega, ?_⟩
      conv => whnf
      conv => whnf
      refine ⟨by kernel_rfl, ?_⟩
      conv => whnf
      conv => whnf
      unfold mF
      rw [List.map_append, List.length_append]
      exact .of rfl
    · rw [he] at w2
      cases w2
theorem c150d (F : List ByteArray) (X : List S47) (e : S62) (hn : F.Nodup) (hF : F.length ≤ 1024) (h : hasS F e.f0 = true) (he : e.f2 = false) : ACall cx.P 150 [.bptr 32 0, .agg (enc62 e)] (mS F X) (.lit true) (mR (delS F e.f0) X) := acallA [] Tryz.f150 (by kernel_rfl) (by kernel_rfl) rfl <| by
  have h141 := c141 F e.f0 (by omega)
  have hE : (F.map encT).length = F.length := List.length_map _
  have hge : 0 ≤ idx F e.f0 := idx_ge.2 (hasS_iff.1 h)
  obtain ⟨i, hi, hx⟩ := idx_at hge
  have hil := (List.getElem?_eq_some_iff.1 hx).1
  have h206 := c206 F i hil (by omega)
  rw [delS_idx hn hx] at h206
  conv => whnf
  refine ⟨by omega, ?_⟩
  conv => whnf
  conv => whnf
  refine ⟨_, h141, ?_⟩
  conv => whnf
  conv => whnf
  refine ⟨by kernel_rfl, ?_⟩
  conv => whnf
  conv => whnf
  rw [idx_hs]
  refine ⟨fun w1 => ?_, fun w1 => ?_⟩
  · rw [h, he] at w1
    cases w1
  · conv => whnf
    refine ⟨fun w2 => ?_, fun w2 => ?_⟩
    · rw [he] at w2
      cases w2
    · conv => whnf
      rw [hi, up1 hil (by omega)]
      refine ⟨_, _, h206, ?_⟩
      conv => whnf
      conv => whnf
      exact .of rfl
end Go.Ab
namespace Go.Ab
open Go.Proofs Sn
set_option maxRecDepth 100000
set_option linter.unnecessarySimpa false
set_option linter.unusedSimpArgs false
set_option maxHeartbeats 4000000
theorem place_has {X : List S47} {id : ByteArray} (h : hasI X id = true) : ∃ i : Nat, placeOf X id = i ∧ X[i]? = some (getI X id) := by
  have h0 := of_decide_eq_true h
  obtain ⟨i, hi, _, _, hp⟩ := placeOf_lt h0
  refine ⟨i, hp, ?_⟩
  unfold getI
  rw [h, hp, Int.toNat_natCast, getD_of hi]
  exact List.getElem?_eq_getElem hi
theorem place_no {X : List S47} {id : ByteArray} (h : hasI X id = false) : placeOf X id = -1 := by
  have h0 : ¬ 0 ≤ placeOf X id := of_decide_eq_false h
  rcases placeOf_rng X id with e | ⟨i, _, e⟩
  · exact e
  · omega
theorem c149n (F : List ByteArray) (X : List S47) (e : S62) (hX : X.length ≤ 1024) (h : hasI X e.f0 = false) (he : e.f2 = false) : ACall cx.P 149 [.bptr 32 0, .agg (enc62 e)] (mS F X) (.lit false) (mR F X) := acallA [] Tryz.f149 (by kernel_rfl) (by kernel_rfl) rfl <| by
  have h151 := c151 F X e.f0 (by omega)
  rw [place_no h] at h151
  have hE : (X.map enc47).length = X.length := List.length_map _
  have hE' : (F.map encT).length = F.length := List.length_map _
  unfold encM at h151
  conv => whnf
  refine ⟨by omega, ?_⟩
  conv => whnf
  conv => whnf
  refine ⟨by omega, ?_⟩
  conv => whnf
  conv => whnf
  simp only [List.drop_zero]
  refine ⟨_, h151, ?_⟩
  conv => whnf
  conv => whnf
  refine ⟨by kernel_rfl, ?_⟩
  conv => whnf
  conv => whnf
  refine ⟨fun w1 => ?_, fun w1 => ?_⟩
  · conv => whnf
    refine ⟨fun w2 => ?_, fun w2 => ?_⟩
    · conv => whnf
      exact .of rfl
    · rw [he] at w2
      cases w2
  · exact absurd w1 (by decide)
theorem c149d (F : List ByteArray) (X : List S47) (e : S62) (hn : (X.map S47.f0).Nodup) (hX : X.length ≤ 1024) (h : hasI X e.f0 = true) (he : e.f2 = false) : ACall cx.P 149 [.bptr 32 0, .agg (enc62 e)] (mS F X) (.lit true) (mR F (delI X e.f0)) := acallA [] Tryz.f149 (by kernel_rfl) (by kernel_rfl) rfl <| by
  have h151 := c151 F X e.f0 (by omega)
  obtain ⟨i, hi, hx⟩ := place_has h
  have hil := (List.getElem?_eq_some_iff.1 hx).1
  rw [hi] at h151
  have hE : (X.map enc47).length = X.length := List.length_map _
  have hE' : (F.map encT).length = F.length := List.length_map _
  have h205 := c205 X i hil (by omega)
  rw [delI_idx hn hx, (getI_mem h).2] at h205
  unfold encM at h151
  conv => whnf
  refine ⟨by omega, ?_⟩
  conv => whnf
  conv => whnf
  refine ⟨by omega, ?_⟩
  conv => whnf
  conv => whnf
  simp only [List.drop_zero]
  refine ⟨_, h151, ?_⟩
  conv => whnf
  conv => whnf
  refine ⟨by kernel_rfl, ?_⟩
  conv => whnf
  conv => whnf
  refine ⟨fun w1 => ?_, fun w1 => ?_⟩
  · have := of_decide_eq_true w1
    omega
  · conv => whnf
    refine ⟨fun w2 => ?_, fun w2 => ?_⟩
    · conv => whnf
      rw [up1 hil (by omega)]
      refine ⟨_, _, h205, ?_⟩
      conv => whnf
      conv => whnf
      exact .of rfl
    · rw [he] at w2
      cases w2
theorem set_at {es : List (List AV)} {i : Nat} {a : List AV} (h : i < es.length) : (es.set (0 + ((i : Int)).toNat) a)[0 + ((i : Int)).toNat]? = some a := by rw [Nat.zero_add, Int.toNat_natCast, List.getElem?_set_self h]
theorem last_at {es : List (List AV)} {c : List AV} : (List.drop 0 es ++ List.drop 0 [c])[0 + ((es.length : Int)).toNat]? = some c := by
  rw [List.drop_zero, List.drop_zero, Nat.zero_add, Int.toNat_natCast, List.getElem?_append_right (Nat.le_refl _), Nat.sub_self]
  rfl
theorem set_last {es : List (List AV)} {c d : List AV} : (es ++ [c]).set es.length d = es ++ [d] := by
  rw [List.set_append_right _ _ (Nat.le_refl _), Nat.sub_self]
  rfl
theorem setF_1 {x : S47} {e : S62} (h : e.f1 = 1) : setF x e = ⟨x.f0, e.f3.f1, e.f3.f2, x.f3, e.f3.f4, x.f5, x.f6⟩ := by unfold setF; rw [if_pos h]
theorem c149s (F : List ByteArray) (X : List S47) (e : S62) (hn : (X.map S47.f0).Nodup) (hX : X.length ≤ 1024) (h : hasI X e.f0 = true) (he : e.f2 = true) (h1 : e.f1 = 1) : ACall cx.P 149 [.bptr 32 0, .agg (enc62 e)] (mS F X) (.lit true) (mR F (updI X e)) := acallA [] Tryz.f149 (by kernel_rfl) (by kernel_rfl) rfl <| by
  have h151 := c151 F X e.f0 (by omega)
  obtain ⟨i, hi, hx⟩ := place_has h
  have hil := (List.getElem?_eq_some_iff.1 hx).1
  have hupd := updI_idx (e := e) hn hx (getI_mem h).2
  generalize getI X e.f0 = x at hx hupd
  rw [setF_1 h1] at hupd
  rw [hi] at h151
  have hE : (X.map enc47).length = X.length := List.length_map _
  have hE' : (F.map encT).length = F.length := List.length_map _
  unfold encM at h151
  conv => whnf
  refine ⟨by omega, ?_⟩
  conv => whnf
  conv => whnf
  refine ⟨by omega, ?_⟩
  conv => whnf
  conv => whnf
  simp only [List.drop_zero]
  refine ⟨_, h151, ?_⟩
  conv => whnf
  conv => whnf
  refine ⟨by kernel_rfl, ?_⟩
  conv => whnf
  conv => whnf
  refine ⟨fun w1 => ?_, fun w1 => ?_⟩
  · have := of_decide_eq_true w1
    omega
  · clear w1
    conv => whnf
    refine ⟨fun w2 => ?_, fun w2 => ?_⟩
    · rw [he] at w2
      cases w2
    · conv => whnf
      refine ⟨fun w3 => ?_, fun w3 => ?_⟩
      · have := of_decide_eq_true w3
        omega
      · conv => whnf
        refine ⟨⟨Int.natCast_nonneg _, by omega⟩, ?_⟩
        conv => whnf
        conv => whnf
        refine ⟨_, map_at0 hx, ?_⟩
        conv => whnf
        conv => whnf
        refine ⟨_, set_at (by omega), ?_⟩
        conv => whnf
        conv => whnf
        refine ⟨_, set_at (by rw [List.length_set]; omega), ?_⟩
        conv => whnf
        conv => whnf
        refine ⟨by kernel_rfl, ?_⟩
        conv => whnf
        conv => whnf
        unfold mR
        rw [← hupd, List.map_set, List.length_set]
        simp only [List.set_set, Nat.zero_add, Int.toNat_natCast]
        exact .of rfl
theorem c149a (F : List ByteArray) (X : List S47) (e : S62) (hX : X.length ≤ 1024) (h : hasI X e.f0 = false) (he : e.f2 = true) (h1 : e.f1 = 1) : ACall cx.P 149 [.bptr 32 0, .agg (enc62 e)] (mS F X) (.lit true) (mX F (X ++ [setF (only e.f0) e])) := acallA [] Tryz.f149 (by kernel_rfl) (by kernel_rfl) rfl <| by
  have h151 := c151 F X e.f0 (by omega)
  rw [place_no h] at h151
  rw [setF_1 h1]
  have hE : (X.map enc47).length = X.length := List.length_map _
  have hE' : (F.map encT).length = F.length := List.length_map _
  unfold encM at h151
  conv => whnf
  refine ⟨by omega, ?_⟩
  conv => whnf
  conv => whnf
  refine ⟨by omega, ?_⟩
  conv => whnf
  conv => whnf
  simp only [List.drop_zero]
  refine ⟨_, h151, ?_⟩
  conv => whnf
  conv => whnf
  refine ⟨by kernel_rfl, ?_⟩
  conv => whnf
  conv => whnf
  refine ⟨fun w1 => ?_, fun w1 => ?_⟩
  · clear w1
    conv => whnf
    refine ⟨fun w2 => ?_, fun w2 => ?_⟩
    · rw [he] at w2
      cases w2
    · conv => whnf
      refine ⟨fun w3 => ?_, fun w3 => ?_⟩
      · rw [he] at w3
        cases w3
      · conv => whnf
        refine ⟨fun w4 => ?_, fun w4 => ?_⟩
        · conv => whnf
          refine ⟨by simpa using by omega, ?_⟩
          conv => whnf
          conv => whnf
          refine ⟨by simpa using by omega, ?_⟩
          conv => whnf
          conv => whnf
          refine ⟨by kernel_rfl, ?_⟩
          conv => whnf
          conv => whnf
          refine ⟨⟨Int.natCast_nonneg _, Int.ofNat_lt.2 (Nat.lt_succ_self _)⟩, ?_⟩
          conv => whnf
          conv => whnf
          refine ⟨_, last_at, ?_⟩
          conv => whnf
          conv => whnf
          refine ⟨_, set_at (by rw [List.length_append]; show _ < _ + 1; rw [List.drop_zero]; omega), ?_⟩
          conv => whnf
          conv => whnf
          refine ⟨_, set_at (by rw [List.length_set, List.length_append]; show _ < _ + 1; rw [List.drop_zero]; omega), ?_⟩
          conv => whnf
          conv => whnf
          refine ⟨by kernel_rfl, ?_⟩
          conv => whnf
          conv => whnf
          unfold mX
          rw [List.map_append, List.length_append]
          simp only [List.set_set, Nat.zero_add, Int.toNat_natCast, List.drop_zero, List.replicate_zero, set_last]
          exact .trans (.of rfl) (.le (.cons _ _ _ _ _ .refl <| .refl _) (.cons _ _ _ _ _ (.rows (.app (.refl _) (.cons (by repeat (first | exact .nil | refine .cons (by first | exact .refl | exact .lit rfl | exact .nils) ?_)) .nil))) (.refl _)))
        · exact absurd w4 (by decide)
  · exact absurd w1 (by decide)
end Go.Ab
namespace Go.Ab
open Go.Proofs Sn
set_option maxRecDepth 100000
set_option linter.unnecessarySimpa false
set_option linter.unusedSimpArgs false
set_option maxHeartbeats 4000000
theorem w149R {F F' : List ByteArray} {X X' : List S47} {e : S62} {b : Bool} (h1 : e.f1 = 1) (H : ACall cx.P 149 [.bptr 32 0, .agg (enc62 e)] (mS F X) (.lit b) (mR F' X')) : ACall cx.P 104 [.bptr 32 0, .agg (enc62 e)] (mS F X) (.lit b) (mR F' X') := acallA [] Tryz.f104 (by kernel_rfl) (by kernel_rfl) rfl <| by
  conv => whnf
  refine ⟨fun w1 => ?_, fun w1 => ?_⟩
  · conv => whnf
    refine ⟨_, _, H, ?_⟩
    conv => whnf
    conv => whnf
    exact .of rfl
  · exact absurd h1 (of_decide_eq_false w1)
theorem w149X {F F' : List ByteArray} {X X' : List S47} {e : S62} {b : Bool} (h1 : e.f1 = 1) (H : ACall cx.P 149 [.bptr 32 0, .agg (enc62 e)] (mS F X) (.lit b) (mX F' X')) : ACall cx.P 104 [.bptr 32 0, .agg (enc62 e)] (mS F X) (.lit b) (mX F' X') := acallA [] Tryz.f104 (by kernel_rfl) (by kernel_rfl) rfl <| by
  conv => whnf
  refine ⟨fun w1 => ?_, fun w1 => ?_⟩
  · conv => whnf
    refine ⟨_, _, H, ?_⟩
    conv => whnf
    conv => whnf
    exact .of rfl
  · exact absurd h1 (of_decide_eq_false w1)
theorem w150R {F F' : List ByteArray} {X X' : List S47} {e : S62} {b : Bool} (h1 : e.f1 = 5) (H : ACall cx.P 150 [.bptr 32 0, .agg (enc62 e)] (mS F X) (.lit b) (mR F' X')) : ACall cx.P 104 [.bptr 32 0, .agg (enc62 e)] (mS F X) (.lit b) (mR F' X') := acallA [] Tryz.f104 (by kernel_rfl) (by kernel_rfl) rfl <| by
  conv => whnf
  refine ⟨fun w1 => ?_, fun w1 => ?_⟩
  · have := of_decide_eq_true w1
    omega
  · conv => whnf
    refine ⟨fun w2 => ?_, fun w2 => ?_⟩
    · conv => whnf
      refine ⟨_, _, H, ?_⟩
      conv => whnf
      conv => whnf
      exact .of rfl
    · exact absurd h1 (of_decide_eq_false w2)
theorem w150F {F F' : List ByteArray} {X X' : List S47} {e : S62} {b : Bool} (h1 : e.f1 = 5) (H : ACall cx.P 150 [.bptr 32 0, .agg (enc62 e)] (mS F X) (.lit b) (mF F' X')) : ACall cx.P 104 [.bptr 32 0, .agg (enc62 e)] (mS F X) (.lit b) (mF F' X') := acallA [] Tryz.f104 (by kernel_rfl) (by kernel_rfl) rfl <| by
  conv => whnf
  refine ⟨fun w1 => ?_, fun w1 => ?_⟩
  · have := of_decide_eq_true w1
    omega
  · conv => whnf
    refine ⟨fun w2 => ?_, fun w2 => ?_⟩
    · conv => whnf
      refine ⟨_, _, H, ?_⟩
      conv => whnf
      conv => whnf
      exact .of rfl
    · exact absurd h1 (of_decide_eq_false w2)
theorem c104n (F : List ByteArray) (X : List S47) (e : S62) (hX : X.length ≤ 1024) (h : hasI X e.f0 = false) (h1 : e.f1 ≠ 1) (h5 : e.f1 ≠ 5) : ACall cx.P 104 [.bptr 32 0, .agg (enc62 e)] (mS F X) (.lit false) (mR F X) := acallA [] Tryz.f104 (by kernel_rfl) (by kernel_rfl) rfl <| by
  have h151 := c151 F X e.f0 (by omega)
  rw [place_no h] at h151
  have hE : (X.map enc47).length = X.length := List.length_map _
  have hE' : (F.map encT).length = F.length := List.length_map _
  unfold encM at h151
  conv => whnf
  refine ⟨fun w1 => ?_, fun w1 => ?_⟩
  · exact absurd (of_decide_eq_true w1) h1
  · clear w1
    conv => whnf
    refine ⟨fun w2 => ?_, fun w2 => ?_⟩
    · exact absurd (of_decide_eq_true w2) h5
    · clear w2
      conv => whnf
      refine ⟨by omega, ?_⟩
      conv => whnf
      conv => whnf
      refine ⟨by omega, ?_⟩
      conv => whnf
      conv => whnf
      simp only [List.drop_zero]
      refine ⟨_, h151, ?_⟩
      conv => whnf
      conv => whnf
      refine ⟨by kernel_rfl, ?_⟩
      conv => whnf
      conv => whnf
      refine ⟨fun w3 => ?_, fun w3 => ?_⟩
      · conv => whnf
        exact .of rfl
      · exact absurd w3 (by decide)
theorem c104z (F : List ByteArray) (X : List S47) (e : S62) (hX : X.length ≤ 1024) (h : hasI X e.f0 = true) (h1 : ¬ (1 ≤ e.f1 ∧ e.f1 ≤ 5)) : ACall cx.P 104 [.bptr 32 0, .agg (enc62 e)] (mS F X) (.lit false) (mR F X) := acallA [] Tryz.f104 (by kernel_rfl) (by kernel_rfl) rfl <| by
  have h151 := c151 F X e.f0 (by omega)
  obtain ⟨i, hi, hx⟩ := place_has h
  have hil := (List.getElem?_eq_some_iff.1 hx).1
  rw [hi] at h151
  have hE : (X.map enc47).length = X.length := List.length_map _
  have hE' : (F.map encT).length = F.length := List.length_map _
  unfold encM at h151
  conv => whnf
  refine ⟨fun w1 => ?_, fun w1 => ?_⟩
  · have := of_decide_eq_true w1
    omega
  · clear w1
    conv => whnf
    refine ⟨fun w2 => ?_, fun w2 => ?_⟩
    · have := of_decide_eq_true w2
      omega
    · clear w2
      conv => whnf
      refine ⟨by omega, ?_⟩
      conv => whnf
      conv => whnf
      refine ⟨by omega, ?_⟩
      conv => whnf
      conv => whnf
      simp only [List.drop_zero]
      refine ⟨_, h151, ?_⟩
      conv => whnf
      conv => whnf
      refine ⟨by kernel_rfl, ?_⟩
      conv => whnf
      conv => whnf
      refine ⟨fun w3 => ?_, fun w3 => ?_⟩
      · have := of_decide_eq_true w3
        omega
      · conv => whnf
        refine ⟨⟨Int.natCast_nonneg _, by omega⟩, ?_⟩
        conv => whnf
        conv => whnf
        refine ⟨fun w4 => ?_, fun w4 => ?_⟩
        · have := of_decide_eq_true w4
          omega
        · conv => whnf
          refine ⟨fun w5 => ?_, fun w5 => ?_⟩
          · have := of_decide_eq_true w5
            omega
          · conv => whnf
            refine ⟨fun w6 => ?_, fun w6 => ?_⟩
            · have := of_decide_eq_true w6
              omega
            · conv => whnf
              exact .of rfl
theorem c104s (F : List ByteArray) (X : List S47) (e : S62) (hn : (X.map S47.f0).Nodup) (hX : X.length ≤ 1024) (h : hasI X e.f0 = true) (h1 : 2 ≤ e.f1 ∧ e.f1 ≤ 4) : ACall cx.P 104 [.bptr 32 0, .agg (enc62 e)] (mS F X) (.lit true) (mR F (updI X e)) := acallA [] Tryz.f104 (by kernel_rfl) (by kernel_rfl) rfl <| by
  have h151 := c151 F X e.f0 (by omega)
  obtain ⟨i, hi, hx⟩ := place_has h
  have hil := (List.getElem?_eq_some_iff.1 hx).1
  have hupd := updI_idx (e := e) hn hx (getI_mem h).2
  generalize getI X e.f0 = x at hx hupd
  rw [hi] at h151
  have hE : (X.map enc47).length = X.length := List.length_map _
  have hE' : (F.map encT).length = F.length := List.length_map _
  unfold encM at h151
  unfold mR
  conv => whnf
  refine ⟨fun w1 => ?_, fun w1 => ?_⟩
  · have := of_decide_eq_true w1
    omega
  · clear w1
    conv => whnf
    refine ⟨fun w2 => ?_, fun w2 => ?_⟩
    · have := of_decide_eq_true w2
      omega
    · clear w2
      conv => whnf
      refine ⟨by omega, ?_⟩
      conv => whnf
      conv => whnf
      refine ⟨by omega, ?_⟩
      conv => whnf
      conv => whnf
      simp only [List.drop_zero]
      refine ⟨_, h151, ?_⟩
      conv => whnf
      conv => whnf
      refine ⟨by kernel_rfl, ?_⟩
      conv => whnf
      conv => whnf
      refine ⟨fun w3 => ?_, fun w3 => ?_⟩
      · have := of_decide_eq_true w3
        omega
      · conv => whnf
        refine ⟨⟨Int.natCast_nonneg _, by omega⟩, ?_⟩
        conv => whnf
        conv => whnf
        refine ⟨fun w4 => ?_, fun w4 => ?_⟩
        · have w4 := of_decide_eq_true w4
          conv => whnf
          refine ⟨_, map_at0 hx, ?_⟩
          conv => whnf
          conv => whnf
          rw [← hupd, List.map_set, List.length_set]
          simp only [Nat.zero_add, Int.toNat_natCast]
          unfold setF
          rw [if_neg (by omega), if_pos w4]
          exact .of rfl
        · have w4 := of_decide_eq_false w4
          conv => whnf
          refine ⟨fun w5 => ?_, fun w5 => ?_⟩
          · have w5 := of_decide_eq_true w5
            conv => whnf
            refine ⟨_, map_at0 hx, ?_⟩
            conv => whnf
            conv => whnf
            rw [← hupd, List.map_set, List.length_set]
            simp only [Nat.zero_add, Int.toNat_natCast]
            unfold setF
            rw [if_neg (by omega), if_neg (by omega), if_pos w5]
            exact .of rfl
          · have w5 := of_decide_eq_false w5
            conv => whnf
            refine ⟨fun w6 => ?_, fun w6 => ?_⟩
            · have w6 := of_decide_eq_true w6
              conv => whnf
              refine ⟨_, map_at0 hx, ?_⟩
              conv => whnf
              conv => whnf
              rw [← hupd, List.map_set, List.length_set]
              simp only [Nat.zero_add, Int.toNat_natCast]
              unfold setF
              rw [if_neg (by omega), if_neg (by omega), if_neg (by omega), if_pos w6]
              exact .of rfl
            · have w6 := of_decide_eq_false w6
              omega
theorem c104 {s : St} (h : Nice s) (hF : s.1.length ≤ 1024) (hX : s.2.length ≤ 1024) (e : S62) : (oneS s e = none → ACall cx.P 104 [.bptr 32 0, .agg (enc62 e)] (mS s.1 s.2) (.lit false) (mR s.1 s.2)) ∧ ∀ t, oneS s e = some t → (ACall cx.P 104 [.bptr 32 0, .agg (enc62 e)] (mS s.1 s.2) (.lit true) (mR t.1 t.2) ∨ ACall cx.P 104 [.bptr 32 0, .agg (enc62 e)] (mS s.1 s.2) (.lit true) (mF t.1 t.2) ∨ ACall cx.P 104 [.bptr 32 0, .agg (enc62 e)] (mS s.1 s.2) (.lit true) (mX t.1 t.2)) := by
  unfold oneS
  by_cases h5 : e.f1 = 5
  · simp only [if_pos h5]
    by_cases hs : hasS s.1 e.f0 = e.f2
    · simp only [if_pos hs]
      exact ⟨fun _ => w150R h5 (c150n _ _ _ hF hs), fun t ht => by cases ht⟩
    · simp only [if_neg hs]
      by_cases h2 : e.f2 = true
      · simp only [if_pos h2]
        exact ⟨fun ht => by (cases ht), fun t ht => by cases ht; exact .inr (.inl (w150F h5 (c150a _ _ _ hF (by rw [h2] at hs; simpa using hs) h2)))⟩
      · simp only [if_neg h2]
        have h2 : e.f2 = false := by simpa using h2
        exact ⟨fun ht => by (cases ht), fun t ht => by cases ht; exact .inl (w150R h5 (c150d _ _ _ h.fn hF (by rw [h2] at hs; simpa using hs) h2))⟩
  · simp only [if_neg h5]
    by_cases h1 : e.f1 = 1
    · simp only [if_pos h1]
      by_cases hh : hasI s.2 e.f0 = true
      · simp only [if_pos hh]
        by_cases h2 : e.f2 = true
        · simp only [if_pos h2]
          exact ⟨fun ht => by (cases ht), fun t ht => by cases ht; exact .inl (w149R h1 (c149s _ _ _ h.xn hX hh h2 h1))⟩
        · simp only [if_neg h2]
          have h2 : e.f2 = false := by simpa using h2
          exact ⟨fun ht => by (cases ht), fun t ht => by cases ht; exact .inl (w149R h1 (c149d _ _ _ h.xn hX hh h2))⟩
      · simp only [if_neg hh]
        have hh : hasI s.2 e.f0 = false := by simpa using hh
        by_cases h2 : e.f2 = true
        · simp only [if_pos h2]
          exact ⟨fun ht => by (cases ht), fun t ht => by cases ht; exact .inr (.inr (w149X h1 (c149a _ _ _ hX hh h2 h1)))⟩
        · simp only [if_neg h2]
          have h2 : e.f2 = false := by simpa using h2
          exact ⟨fun _ => w149R h1 (c149n _ _ _ hX hh h2), fun t ht => by cases ht⟩
    · simp only [if_neg h1]
      by_cases h24 : 2 ≤ e.f1 ∧ e.f1 ≤ 4
      · simp only [if_pos h24]
        by_cases hh : hasI s.2 e.f0 = true
        · simp only [if_pos hh]
          exact ⟨fun ht => by (cases ht), fun t ht => by cases ht; exact .inl (c104s _ _ _ h.xn hX hh h24)⟩
        · simp only [if_neg hh]
          exact ⟨fun _ => c104n _ _ _ hX (by simpa using hh) h1 h5, fun t ht => by cases ht⟩
      · simp only [if_neg h24]
        refine ⟨fun _ => ?_, fun t ht => by cases ht⟩
        by_cases hh : hasI s.2 e.f0 = true
        · exact c104z _ _ _ hX hh (by omega)
        · exact c104n _ _ _ hX (by simpa using hh) h1 h5
end Go.Ab
namespace Go.Ab
open Go.Proofs Sn
set_option maxRecDepth 100000
set_option linter.unnecessarySimpa false
set_option linter.unusedSimpArgs false
set_option maxHeartbeats 4000000
theorem c89o (f : List ByteArray) (m : List S47) (h : SzM f m) : ACall cx.P 89 [encM f m] [] (.agg [.own 1 97 0 (f.map encT).length .opn, .own 7 98 0 (m.map enc47).length .opn]) [(98, .live (.arr 7 (m.map enc47))), (97, .live (.arr 1 (f.map encT)))] := acall3 Tryz.f89 (by kernel_rfl) (by kernel_rfl) rfl <| by
  unfold encM
  conv => whnf
  conv => whnf
  refine ⟨_, _, c78 _ h.hf, ?_⟩
  conv => whnf
  conv => whnf
  refine ⟨_, _, c135 _ h.hm, ?_⟩
  conv => whnf
  conv => whnf
  refine ⟨by kernel_rfl, ?_⟩
  conv => whnf
  conv => whnf
  have hE : (m.map enc47).length = m.length := List.length_map _
  have hm := h.hm
  refine .inr (.inl ⟨[1, 2, 14, 15, 16], Nat, fun j => ([(1, .bptr 80 0), (2, .bptr 144 0), (14, .own 7 82 0 (m.map enc47).length .opn), (15, .int .i64 m.length), (16, .int .i64 j)],
    [(144, .live (.box [.nils, .nils])), (82, .live (.arr 7 (m.map enc47))), (81, .live (.arr 1 (f.map encT))), (80, .live (.box [.own 1 81 0 (f.map encT).length .opn, .own 7 82 0 (m.map enc47).length .opn]))]), fun j => j ≤ m.length, fun j => m.length - j, ?_, fun j hj => ?_⟩)
  · conv => whnf
    exact ⟨0, by rw [← hE]; exact .of rfl, Nat.zero_le _⟩
  · have hj : j ≤ m.length := hj
    conv => whnf
    refine ⟨fun w1 => ?_, fun w1 => ?_⟩
    · replace w1 := lti w1
      obtain ⟨x, hx⟩ := at_ex w1
      have hzx := h.hx x (List.mem_of_getElem? hx)
      have h5 := c136 x.f5 hzx.1.1 hzx.1.2
      have h6 := c136 x.f6 hzx.2.1 hzx.2.2
      conv => whnf
      refine ⟨⟨Int.natCast_nonneg _, by omega⟩, ?_⟩
      conv => whnf
      conv => whnf
      refine ⟨_, map_at0 hx, ?_⟩
      conv => whnf
      conv => whnf
      refine ⟨_, h5, ?_⟩
      conv => whnf
      conv => whnf
      refine ⟨_, h6, ?_⟩
      conv => whnf
      conv => whnf
      conv => whnf
      refine ⟨⟨Int.natCast_nonneg _, by omega⟩, ?_⟩
      conv => whnf
      conv => whnf
      refine ⟨_, map_at0 hx, ?_⟩
      conv => whnf
      conv => whnf
      refine ⟨⟨Int.natCast_nonneg _, by omega⟩, ?_⟩
      conv => whnf
      conv => whnf
      have hset : (m.map enc47).set (0 + j) (enc47 x) = m.map enc47 := set_self (map_at0 hx)
      refine ⟨_, (show ((m.map enc47).set (0 + j) (enc47 x))[0 + j]? = some (enc47 x) by rw [hset]; exact map_at0 hx), ?_⟩
      conv => whnf
      conv => whnf
      conv => whnf
      refine ⟨by kernel_rfl, ?_⟩
      conv => whnf
      conv => whnf
      refine ⟨j + 1, ?_, w1, by show m.length - (j + 1) < m.length - j; omega⟩
      dsimp only
      rw [up1 w1 (by omega)]
      refine .of (Prod.ext rfl ?_)
      show [((144 : Nat), SV.live (.box [.nils, .nils])), (82, .live (.arr 7 (((m.map enc47).set (0 + j) (enc47 x)).set (0 + j) (enc47 x)))), (81, .live (.arr 1 (f.map encT))), (80, .live (.box [.own 1 81 0 (f.map encT).length .opn, .own 7 82 0 (m.map enc47).length .opn]))] = _
      rw [hset, hset]
    · replace w1 := nlti w1
      conv => whnf
      conv => whnf
      exact .of rfl
theorem ap_bad1 {s : St} {l : List S62} (h : IsN s.1 s.2) (ha : ¬ Adj l) : apS s l = (([], []), 1) := by unfold apS; rw [bP_iff.2 h, bP_no.2 ha]; rfl
theorem ap_bad2 {s : St} {l : List S62} (h : IsN s.1 s.2) (hr : runS l s = none) : apS s l = (([], []), 1) := by
  unfold apS
  rw [bP_iff.2 h, hr]
  cases bP (Adj l) <;> rfl
theorem ap_end {s t : St} {l : List S62} (h : IsN s.1 s.2) (ha : Adj l) (hr : runS l s = some t) : apS s l = match ordO t with | none => (([], []), 7) | some n => (n, 0) := by unfold apS; rw [bP_iff.2 h, bP_iff.2 ha, hr]; rfl
theorem run_take {l : List S62} {s t : St} {j : Nat} {e : S62} (h : l[j]? = some e) (hr : runS (l.take j) s = some t) : runS (l.take (j + 1)) s = oneS t e := by
  rw [snoc_take h, runS_append, hr]
  show (match oneS t e with | some t => some t | none => none) = _
  cases oneS t e <;> rfl
theorem run_stop {l : List S62} {s t : St} {j : Nat} {e : S62} (h : l[j]? = some e) (hr : runS (l.take j) s = some t) (ho : oneS t e = none) : runS l s = none := by
  rw [← List.take_append_drop j l, runS_append, hr, drop_at h]
  show (match oneS t e with | some u => runS _ u | none => none) = none
  rw [ho]
theorem one_len {s t : St} {e : S62} (h : oneS s e = some t) : t.1.length ≤ s.1.length + 1 ∧ t.2.length ≤ s.2.length + 1 := by
  have hu : (updI s.2 e).length = s.2.length := List.length_map _
  have hd : (delI s.2 e.f0).length ≤ s.2.length := List.length_filter_le _ _
  have hs : (delS s.1 e.f0).length ≤ s.1.length := List.length_filter_le _ _
  unfold oneS at h
  split at h
  · split at h
    · cases h
    · split at h <;> (cases h; refine ⟨?_, ?_⟩ <;> dsimp only <;> (try simp only [List.length_append, List.length_cons, List.length_nil]) <;> omega)
  · split at h
    · split at h
      · split at h <;> (cases h; refine ⟨?_, ?_⟩ <;> dsimp only <;> omega)
      · split at h
        · cases h; refine ⟨?_, ?_⟩ <;> dsimp only <;> (try simp only [List.length_append, List.length_cons, List.length_nil]) <;> omega
        · cases h
    · split at h
      · split at h
        · cases h; refine ⟨?_, ?_⟩ <;> dsimp only <;> omega
        · cases h
      · cases h
theorem c60 (s : St) (l : List S62) (hsz : SzM s.1 s.2) (hl : l.length ≤ 512) (hne : IsN s.1 s.2 → ∀ e ∈ l, NiceE e) : PCall cx.P 60 [encM s.1 s.2, .row 10 (l.map enc62)] (.tup [encM (apS s l).1.1 (apS s l).1.2, .int .i64 (apS s l).2]) := pcallA [89] Tryz.f60 (by kernel_rfl) (by kernel_rfl) <| by
  have h30 := c30 _ _ hsz
  have h89 := c89o _ _ hsz
  have hE : (l.map enc62).length = l.length := List.length_map _
  unfold encM at h30 h89 ⊢
  conv => whnf
  refine ⟨_, h30, ?_⟩
  conv => whnf
  conv => whnf
  refine ⟨fun w1 => ?_, fun w1 => ?_⟩
  · have hn : ¬ IsN s.1 s.2 := bP_no.1 (by simpa using w1)
    conv => whnf
    rw [ap_no l hn]
    exact .tup2 (.agg2 .nils .nils) .refl
  · have hn : IsN s.1 s.2 := bP_iff.1 (by simpa using w1)
    have hne := hne hn
    obtain ⟨r0, F0, e0, o0, _⟩ := id hn
    have hf6 := o0.files6
    have hx16 : s.2.length ≤ 16 := by rw [e0]; exact Nat.succ_le_succ o0.n16
    conv => whnf
    refine ⟨_, _, h89, ?_⟩
    conv => whnf
    conv => whnf
    refine .inr (.inl ⟨[1, 4, 6, 17, 18, 19], Nat × St, fun p => ([(1, .row 10 (l.map enc62)), (4, .bptr 272 0), (6, .bptr 400 0), (17, .row 10 (l.map enc62)), (18, .int .i64 l.length), (19, .int .i64 p.1)],
      [(402, .live (.arr 7 (p.2.2.map enc47))), (401, .live (.arr 1 (p.2.1.map encT))), (400, .live (.box [.own 1 401 0 (p.2.1.map encT).length .opn, .own 7 402 0 (p.2.2.map enc47).length .opn])), (272, .live (.box [.nils, .nils]))]), fun p => p.1 ≤ l.length ∧ runS (l.take p.1) s = some p.2 ∧ Nice p.2 ∧ (p.2.1.length ≤ 6 + p.1 ∧ p.2.2.length ≤ 16 + p.1) ∧ ∀ i x y, i + 1 < p.1 → l[i]? = some x → l[i + 1]? = some y → cmpE x y = -1, fun p => l.length - p.1, ?_, fun p hp => ?_⟩)
    · conv => whnf
      refine ⟨(0, s), ?_, Nat.zero_le _, rfl, hn.nice.1, ⟨by dsimp only; omega, by dsimp only; omega⟩, fun i x y h => by dsimp only at h; omega⟩
      dsimp only
      rw [← hE]
      exact .of rfl
    · obtain ⟨j, t⟩ := p
      obtain ⟨hj, hr, hN, ⟨hb1, hb2⟩, hadj⟩ := hp
      dsimp only at hj hr hN hb1 hb2 hadj ⊢
      conv => whnf
      refine ⟨fun w2 => ?_, fun w2 => ?_⟩
      · replace w2 := lti w2
        obtain ⟨e, he⟩ := at_ex w2
        have heN := hne e (List.mem_of_getElem? he)
        obtain ⟨q1, q2⟩ := c104 hN (by omega) (by omega) e
        conv => whnf
        refine ⟨⟨Int.natCast_nonneg _, by omega⟩, ?_⟩
        conv => whnf
        conv => whnf
        refine ⟨_, map_at he, ?_⟩
        conv => whnf
        conv => whnf
        rcases j with _ | i
        · refine ⟨fun w3 => ?_, fun w3 => ?_⟩
          · exact absurd w3 (by decide)
          · clear w3
            conv => whnf
            cases ho : oneS t e with
            | none =>
              refine ⟨_, _, q1 ho, ?_⟩
              conv => whnf
              conv => whnf
              refine ⟨by kernel_rfl, ?_⟩
              conv => whnf
              conv => whnf
              rw [ap_bad2 hn (run_stop he hr ho)]
              exact .tup2 (.agg2 .nils .nils) .refl
            | some u =>
              have hul := one_len ho
              rcases q2 u ho with H | H | H
              · refine ⟨_, _, H, ?_⟩
                conv => whnf
                conv => whnf
                refine ⟨by kernel_rfl, ?_⟩
                conv => whnf
                conv => whnf
                refine ⟨(0 + 1, u), ?_, ⟨w2, (run_take he hr).trans ho, hN.one heN ho, ⟨by dsimp only; omega, by dsimp only; omega⟩, fun i x y h => by dsimp only at h; omega⟩, by show l.length - (0 + 1) < l.length - 0; omega⟩
                dsimp only
                rw [up1 w2 (by omega)]
                exact .of rfl
              · refine ⟨_, _, H, ?_⟩
                conv => whnf
                conv => whnf
                refine ⟨by kernel_rfl, ?_⟩
                conv => whnf
                conv => whnf
                refine ⟨(0 + 1, u), ?_, ⟨w2, (run_take he hr).trans ho, hN.one heN ho, ⟨by dsimp only; omega, by dsimp only; omega⟩, fun i x y h => by dsimp only at h; omega⟩, by show l.length - (0 + 1) < l.length - 0; omega⟩
                dsimp only
                rw [up1 w2 (by omega)]
                exact .of rfl
              · refine ⟨_, _, H, ?_⟩
                conv => whnf
                conv => whnf
                refine ⟨by kernel_rfl, ?_⟩
                conv => whnf
                conv => whnf
                refine ⟨(0 + 1, u), ?_, ⟨w2, (run_take he hr).trans ho, hN.one heN ho, ⟨by dsimp only; omega, by dsimp only; omega⟩, fun i x y h => by dsimp only at h; omega⟩, by show l.length - (0 + 1) < l.length - 0; omega⟩
                dsimp only
                rw [up1 w2 (by omega)]
                exact .of rfl
        · obtain ⟨x, hx⟩ := at_ex (show i < l.length by omega)
          have hpv : IntKind.i64.wrap (((i + 1 : Nat) : Int) - 1) = (i : Int) := by rw [IntWalk.i64_in _ (by omega)]; omega
          refine ⟨fun w3 => ?_, fun w3 => ?_⟩
          · clear w3
            conv => whnf
            rw [hpv]
            refine ⟨⟨Int.natCast_nonneg _, by omega⟩, ?_⟩
            conv => whnf
            conv => whnf
            refine ⟨_, map_at hx, ?_⟩
            conv => whnf
            conv => whnf
            refine ⟨_, c94 x e, ?_⟩
            conv => whnf
            conv => whnf
            refine ⟨fun w4 => ?_, fun w4 => ?_⟩
            · have w4 := of_decide_eq_true w4
              conv => whnf
              refine ⟨by kernel_rfl, ?_⟩
              conv => whnf
              conv => whnf
              rw [ap_bad1 hn fun hA => by have := hA i x e hx he; omega]
              exact .tup2 (.agg2 .nils .nils) .refl
            · have w4 := of_decide_eq_false w4
              have hxe : cmpE x e = -1 := by
                rcases (isCmp_pc isCmp_s isCmp_int).rng (keyE x) (keyE e) with h | h | h
                · exact h
                · exact absurd (show cmpE x e ≥ 0 by rw [show cmpE x e = 0 from h]; decide) w4
                · exact absurd (show cmpE x e ≥ 0 by rw [show cmpE x e = 1 from h]; decide) w4
              have hadj' : ∀ k x' y', k + 1 < i + 1 + 1 → l[k]? = some x' → l[k + 1]? = some y' → cmpE x' y' = -1 := fun k x' y' h h1 h2 => by
                by_cases hk : k = i
                · subst hk
                  rw [hx] at h1
                  rw [he] at h2
                  cases h1
                  cases h2
                  exact hxe
                · exact hadj k x' y' (by omega) h1 h2
              conv => whnf
              cases ho : oneS t e with
              | none =>
                refine ⟨_, _, q1 ho, ?_⟩
                conv => whnf
                conv => whnf
                refine ⟨by kernel_rfl, ?_⟩
                conv => whnf
                conv => whnf
                rw [ap_bad2 hn (run_stop he hr ho)]
                exact .tup2 (.agg2 .nils .nils) .refl
              | some u =>
                have hul := one_len ho
                rcases q2 u ho with H | H | H
                · refine ⟨_, _, H, ?_⟩
                  conv => whnf
                  conv => whnf
                  refine ⟨by kernel_rfl, ?_⟩
                  conv => whnf
                  conv => whnf
                  refine ⟨((i + 1) + 1, u), ?_, ⟨w2, (run_take he hr).trans ho, hN.one heN ho, ⟨by dsimp only; omega, by dsimp only; omega⟩, hadj'⟩, by show l.length - ((i + 1) + 1) < l.length - (i + 1); omega⟩
                  dsimp only
                  rw [up1 w2 (by omega)]
                  exact .of rfl
                · refine ⟨_, _, H, ?_⟩
                  conv => whnf
                  conv => whnf
                  refine ⟨by kernel_rfl, ?_⟩
                  conv => whnf
                  conv => whnf
                  refine ⟨((i + 1) + 1, u), ?_, ⟨w2, (run_take he hr).trans ho, hN.one heN ho, ⟨by dsimp only; omega, by dsimp only; omega⟩, hadj'⟩, by show l.length - ((i + 1) + 1) < l.length - (i + 1); omega⟩
                  dsimp only
                  rw [up1 w2 (by omega)]
                  exact .of rfl
                · refine ⟨_, _, H, ?_⟩
                  conv => whnf
                  conv => whnf
                  refine ⟨by kernel_rfl, ?_⟩
                  conv => whnf
                  conv => whnf
                  refine ⟨((i + 1) + 1, u), ?_, ⟨w2, (run_take he hr).trans ho, hN.one heN ho, ⟨by dsimp only; omega, by dsimp only; omega⟩, hadj'⟩, by show l.length - ((i + 1) + 1) < l.length - (i + 1); omega⟩
                  dsimp only
                  rw [up1 w2 (by omega)]
                  exact .of rfl
          · have := of_decide_eq_false w3
            omega
      · replace w2 := nlti w2
        have hjl : j = l.length := by omega
        subst hjl
        rw [List.take_length] at hr
        have hA : Adj l := fun i x y hx hy => hadj i x y (by have := (List.getElem?_eq_some_iff.1 hy).1; omega) hx hy
        obtain ⟨p, hp, hp2⟩ := c105 hN (by omega) (by omega)
        unfold encM at hp
        conv => whnf
        refine ⟨by omega, ?_⟩
        conv => whnf
        conv => whnf
        refine ⟨by omega, ?_⟩
        conv => whnf
        conv => whnf
        simp only [List.drop_zero]
        refine ⟨_, hp, ?_⟩
        conv => whnf
        conv => whnf
        refine ⟨fun w3 => ?_, fun w3 => ?_⟩
        · conv => whnf
          rw [ap_end hn hA hr]
          cases ho : ordO t with
          | some n => rw [ho] at w3; cases w3
          | none => exact .tup2 (.agg2 .nils .nils) .refl
        · conv => whnf
          have ho : ordO t = some p := by
            cases ho : ordO t with
            | some n => rw [hp2 n ho]
            | none => rw [ho] at w3; cases w3
          have hpN := (ordO_some.1 ho).1
          have h89' := c89o _ _ hpN.sz
          have hpl : (p.1.map encT).length = p.1.length := List.length_map _
          have hpl' : (p.2.map enc47).length = p.2.length := List.length_map _
          unfold encM at h89'
          refine ⟨_, _, h89', ?_⟩
          conv => whnf
          conv => whnf
          refine ⟨by omega, ?_⟩
          conv => whnf
          conv => whnf
          refine ⟨by omega, ?_⟩
          conv => whnf
          conv => whnf
          exact .of (by rw [ap_end hn hA hr, ho]; simp only [List.drop_zero])
end Go.Ab
namespace Go.Ab
open Go.Proofs Sn
set_option maxRecDepth 100000
set_option linter.unnecessarySimpa false
set_option linter.unusedSimpArgs false
set_option maxHeartbeats 4000000
def nmS (f : List ByteArray) (r : S47) (F : List S47) : St := (sortL cmpS f, r :: turnT ordID nIt r F)
theorem nmS_N {f : List ByteArray} {r : S47} {F : List S47} (h : Ok f r F) : IsN (nmS f r F).1 (nmS f r F).2 := ⟨r, turnT ordID nIt r F, rfl, h.turn isOrd_ID turns_n (sortL_perm (c := cmpS) f), sortL_of_rises isCmp_s (sortL_rises isCmp_s _), h.norm_norm⟩
theorem n37 {f : List ByteArray} {r : S47} {F : List S47} (h : Ok f r F) : PCall cx.P 37 [encM f (r :: F)] (encM (nmS f r F).1 (nmS f r F).2) := c37 h
theorem specD_len {s t : St} (hs : IsN s.1 s.2) (ht : IsN t.1 t.2) : (specD s.1 s.2 t.1 t.2).length ≤ 320 := by
  obtain ⟨ra, Fa, ea, oa, _⟩ := hs
  obtain ⟨rb, Fb, eb, ob, _⟩ := ht
  have hN : (namesOf [(s.1, s.2), (t.1, t.2)]).length ≤ 64 := by
    refine Nat.le_trans (sortD_length _) ?_
    have h1 : s.2.length ≤ 16 := by rw [ea]; exact Nat.succ_le_succ oa.n16
    have h2 : t.2.length ≤ 16 := by rw [eb]; exact Nat.succ_le_succ ob.n16
    have := oa.files6
    have := ob.files6
    simp only [List.flatMap_cons, List.flatMap_nil, List.append_nil, List.length_append, List.length_map]
    omega
  have key : ∀ L : List ByteArray, (L.flatMap fun id => edI s.2 t.2 id ++ edF s.1 t.1 id).length ≤ 5 * L.length := fun L => by
    induction L with
    | nil => exact Nat.le_refl _
    | cons i L ih =>
      rw [List.flatMap_cons, List.length_append, List.length_append, List.length_cons]
      have := edI_len s.2 t.2 i
      have := edF_len s.1 t.1 i
      omega
  have := key (namesOf [(s.1, s.2), (t.1, t.2)])
  unfold specD
  omega
theorem n47 {s t : St} (hs : IsN s.1 s.2) (ht : IsN t.1 t.2) : PCall cx.P 47 [encM s.1 s.2, encM t.1 t.2] (.tup [.row 10 ((specD s.1 s.2 t.1 t.2).map enc62), .int .i64 0]) := by
  have h := c47 _ _ _ _ hs.sz ht.sz
  rw [dfR_y hs ht] at h
  exact h
theorem n60 {s t : St} (hs : IsN s.1 s.2) (ht : IsN t.1 t.2) : PCall cx.P 60 [encM s.1 s.2, .row 10 ((specD s.1 s.2 t.1 t.2).map enc62)] (.tup [encM t.1 t.2, .int .i64 0]) := by
  have h := c60 s (specD s.1 s.2 t.1 t.2) hs.sz (Nat.le_trans (specD_len hs ht) (by decide)) fun _ => spec_nice (NiceF.of hs) (NiceF.of ht)
  rw [ap_spec hs ht] at h
  exact h
theorem n35 {s : St} (hs : IsN s.1 s.2) : PCall cx.P 35 [encM s.1 s.2, encM s.1 s.2] (.lit true) := (c35 _ _ _ _ hs.sz hs.sz).to (.blit (eqq_y rfl))
theorem c23 (f g : List ByteArray) (m n : List S47) (h : BgM f m) (h' : BgM g n) : PCall cx.P 23 [encM f m, encM g n] (.lit true) := pcall3 Tryz.f23 (by kernel_rfl) (by kernel_rfl) <| by
  have h46 := c46 f m h
  have h46' := c46 g n h'
  unfold encM at h46 h46' ⊢
  conv => whnf
  refine ⟨_, h46, ?_⟩
  conv => whnf
  conv => whnf
  refine ⟨fun w1 => ?_, fun w1 => ?_⟩
  · conv => whnf
    exact .of rfl
  · replace w1 := of_decide_eq_false w1
    have hz := SzM.of (f := f) (m := m) (by omega)
    have h34 := c34 f m hz
    unfold encM at h34
    conv => whnf
    refine ⟨_, h46', ?_⟩
    conv => whnf
    conv => whnf
    refine ⟨fun w2 => ?_, fun w2 => ?_⟩
    · conv => whnf
      exact .of rfl
    · replace w2 := of_decide_eq_false w2
      have hz' := SzM.of (f := g) (m := n) (by omega)
      have h34' := c34 g n hz'
      unfold encM at h34'
      conv => whnf
      refine ⟨_, h34, ?_⟩
      conv => whnf
      conv => whnf
      refine ⟨fun w3 => ?_, fun w3 => ?_⟩
      · conv => whnf
        exact .of rfl
      · conv => whnf
        refine ⟨_, h34', ?_⟩
        conv => whnf
        conv => whnf
        refine ⟨fun w4 => ?_, fun w4 => ?_⟩
        · conv => whnf
          exact .of rfl
        · obtain ⟨r, F, rfl, ho⟩ := isB_iff.1 (show isB f m = true by simpa using w3)
          obtain ⟨r', F', rfl, ho'⟩ := isB_iff.1 (show isB g n = true by simpa using w4)
          have hN := nmS_N ho
          have hN' := nmS_N ho'
          have h37 := n37 ho
          have h37' := n37 ho'
          have h47 := n47 hN hN'
          have h47' := n47 hN' hN
          have h60 := n60 hN hN'
          have h60' := n60 hN' hN
          have h35 := n35 hN
          have h35' := n35 hN'
          unfold encM at h37 h37' h47 h47' h60 h60' h35 h35'
          conv => whnf
          refine ⟨_, h37, ?_⟩
          conv => whnf
          conv => whnf
          refine ⟨_, h37', ?_⟩
          conv => whnf
          conv => whnf
          refine ⟨by kernel_rfl, ?_⟩
          conv => whnf
          conv => whnf
          refine ⟨_, h47, ?_⟩
          conv => whnf
          conv => whnf
          refine ⟨_, h47', ?_⟩
          conv => whnf
          conv => whnf
          refine ⟨fun w5 => ?_, fun w5 => ?_⟩
          · exact absurd w5 (by decide)
          conv => whnf
          refine ⟨fun w6 => ?_, fun w6 => ?_⟩
          · exact absurd w6 (by decide)
          conv => whnf
          refine ⟨_, h60, ?_⟩
          conv => whnf
          conv => whnf
          refine ⟨_, h60', ?_⟩
          conv => whnf
          conv => whnf
          refine ⟨fun w7 => ?_, fun w7 => ?_⟩
          rotate_left
          · exact absurd w7 (by decide)
          conv => whnf
          refine ⟨fun w8 => ?_, fun w8 => ?_⟩
          rotate_left
          · exact absurd w8 (by decide)
          conv => whnf
          refine ⟨_, h35', ?_⟩
          conv => whnf
          conv => whnf
          refine ⟨_, h35, ?_⟩
          conv => whnf
          conv => whnf
          refine ⟨_, c50, ?_⟩
          conv => whnf
          conv => whnf
          exact .of rfl
end Go.Ab
