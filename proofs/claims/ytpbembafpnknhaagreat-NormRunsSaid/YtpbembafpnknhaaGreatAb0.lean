/- Proof texts of one seat, in one file: an evaluator of the program's form, shown sound, and the functions told by it. There are no conditions but those that each theorem names. -/
import Derived.Below
import Derived.Calls
import Derived.Deep.AppendSrc
import Derived.Deep.Upon
import Derived.Great.BuildSlice
import Derived.KernelRfl
import Derived.Laws.Cells
import Derived.Laws.CopyRow
import Derived.Laws.StructEq
import Derived.Tactics
set_option linter.unusedVariables false
set_option linter.unusedSimpArgs false
set_option linter.unusedSectionVars false
set_option linter.unnecessarySimpa false
namespace Go.Ab
inductive Q where | full | opn | room (r : Nat)
inductive AV where
  | un
  | int (k : IntKind) (n : Int)
  | bool (b : Bool)
  | lit (b : Bool)
  | str (s : ByteArray)
  | nilp
  | bptr (k o : Nat)
  | ptr (k i o : Nat)
  | rptr (s : Nat) (es : List (List AV)) (i o : Nat)
  | nils
  | emp
  | row (s : Nat) (es : List (List AV))
  | own (s k i n : Nat) (q : Q)
  | agg (cs : List AV)
  | tup (vs : List AV)
  | fn (f : Nat) (a b : List AV)
  | nilf
inductive Blk where
  | box (cs : List AV)
  | arr (s : Nat) (es : List (List AV))
inductive SV where
  | free
  | dead
  | live (b : Blk)
inductive TK where
  | slice (e : Nat)
  | string
  | struct (fs : List (Nat × Nat × Nat)) (eq : List Bool)
  | int (k : IntKind)
  | bool
  | ptr
  | array (n e : Nat)
  | func
structure TI where
  kind : TK
  size : Nat
  bytes : Nat
  zero : List AV
def TI.agg (t : TI) : Bool := match t.kind with
  | .struct .. => true
  | .array .. => true
  | _ => false
def look {α : Type} : List (Nat × α) → Nat → Option α
  | [], _ => none
  | (k, v) :: r, t => bif Nat.beq k t then some v else look r t
abbrev Env := List (Nat × AV)
abbrev Sto := List (Nat × SV)
abbrev Upd := List (Nat × SV)
def get : Env → Nat → AV
  | [], _ => .un
  | (k, v) :: r, t => bif Nat.beq k t then v else get r t
def sget : Sto → Nat → SV
  | [], _ => .free
  | (k, v) :: r, t => bif Nat.beq k t then v else sget r t
def cv0 : Value → AV
  | .int k n => .int k n
  | .bool b => .lit b
  | .string s => .str s
  | .slice none 0 0 => .nils
  | .pointer none => .nilp
  | .nilFunc => .nilf
  | _ => .un
def cv : Value → AV
  | .agg cs => .agg (cs.toList.map cv0)
  | v => cv0 v
def ev (E : Nat → AV) : Operand → AV
  | .tmp t => E t
  | .const v => cv v
  | .global _ => .un
  | .func f => .fn f [] []
def fo (v : AV) (K : AV → Prop) : Prop := match v with
  | .un => K .un
  | .int k n => K (.int k n)
  | .bool b => K (.bool b)
  | .lit b => K (.lit b)
  | .str s => K (.str s)
  | .nilp => K .nilp
  | .bptr k o => K (.bptr k o)
  | .ptr k i o => K (.ptr k i o)
  | .rptr s es i o => K (.rptr s es i o)
  | .nils => K .nils
  | .emp => K .emp
  | .row s es => K (.row s es)
  | .own s k i n q => K (.own s k i n q)
  | .agg cs => K (.agg cs)
  | .tup vs => K (.tup vs)
  | .fn f a b => K (.fn f a b)
  | .nilf => K .nilf
theorem fo_iff (v : AV) (K : AV → Prop) : fo v K ↔ K v := by cases v <;> exact Iff.rfl
def opK {α : Type} (o : Option α) (k : α → Prop) : Prop := match o with | some a => k a | none => False
theorem opK_iff {α : Type} (o : Option α) (k : α → Prop) : opK o k ↔ ∃ a, o = some a ∧ k a := by cases o <;> simp [opK]
def u1 (vs : List AV) (k : AV → Prop) : Prop := match vs with | [v] => k v | _ => False
theorem u1_iff (vs : List AV) (k : AV → Prop) : u1 vs k ↔ ∃ a, vs = [a] ∧ k a := by
  match vs with
  | [] => simp [u1]
  | [a] => simp [u1]
  | a :: b :: r => simp [u1]
def u2 (vs : List AV) (k : AV → AV → Prop) : Prop := match vs with | [a, b] => k a b | _ => False
theorem u2_iff (vs : List AV) (k : AV → AV → Prop) : u2 vs k ↔ ∃ a b, vs = [a, b] ∧ k a b := by
  match vs with
  | [] => simp [u2]
  | [a] => simp [u2]
  | [a, b] => exact ⟨fun h => ⟨a, b, rfl, h⟩, fun ⟨_, _, e, h⟩ => by cases e; exact h⟩
  | a :: b :: c :: r => simp [u2]
def u3 (vs : List AV) (k : AV → AV → AV → Prop) : Prop := match vs with | [a, b, c] => k a b c | _ => False
def boxK (σ : Nat → SV) (k : Nat) (K : List AV → Prop) : Prop := match σ k with | .live (.box cs) => K cs | _ => False
theorem boxK_iff (σ : Nat → SV) (k : Nat) (K : List AV → Prop) : boxK σ k K ↔ ∃ cs, σ k = .live (.box cs) ∧ K cs := by
  unfold boxK; split <;> simp_all
def arrK (σ : Nat → SV) (k : Nat) (K : Nat → List (List AV) → Prop) : Prop := match σ k with | .live (.arr s es) => K s es | _ => False
theorem arrK_iff (σ : Nat → SV) (k : Nat) (K : Nat → List (List AV) → Prop) : arrK σ k K ↔ ∃ s es, σ k = .live (.arr s es) ∧ K s es := by
  unfold arrK; split
  · rename_i s es h; exact ⟨fun q => ⟨s, es, h, q⟩, fun ⟨_, _, e, q⟩ => by rw [h] at e; cases e; exact q⟩
  · rename_i h; exact ⟨False.elim, fun ⟨s, es, e, _⟩ => h s es e⟩
def freeK (σ : Nat → SV) (k : Nat) (K : Prop) : Prop := match σ k with | .free => K | _ => False
theorem freeK_iff (σ : Nat → SV) (k : Nat) (K : Prop) : freeK σ k K ↔ σ k = .free ∧ K := by
  unfold freeK; split <;> simp_all
def bK (b : Bool) (K : Prop) : Prop := bif b then K else False
theorem bK_iff (b : Bool) (K : Prop) : bK b K ↔ b = true ∧ K := by cases b <;> simp [bK]
def okc : AV → Bool
  | .un | .agg _ | .tup _ => false
  | _ => true
def okp : AV → Bool
  | .int .. | .bool _ | .lit _ | .str _ | .nilp | .nils | .emp | .row .. | .nilf => true
  | .fn _ [] [] => true
  | _ => false
def cellsOf : AV → Option (List AV)
  | .agg cs => bif cs.all okc then some cs else none
  | .tup _ => none
  | .un => none
  | v => some [v]
def sub (cs : List AV) (o n : Nat) : Option (List AV) := match n with
  | 0 => some []
  | n + 1 => match cs[o]? with
    | some c => match sub cs (o + 1) n with | some r => some (c :: r) | none => none
    | none => none
def fset : List AV → Nat → AV → Option (List AV)
  | [], _, _ => none
  | _ :: r, 0, v => some (v :: r)
  | a :: r, n + 1, v => match fset r n v with | some r' => some (a :: r') | none => none
def setc (cs : List AV) (o : Nat) : List AV → Option (List AV)
  | [] => some cs
  | v :: vs => match fset cs o v with | some cs' => setc cs' (o + 1) vs | none => none
def fieldOf (t : Option TI) (f : Nat) : Option (Nat × Nat × Nat) := match t with
  | some ⟨.struct fs _, _, _, _⟩ => fs[f]?
  | _ => none
def sEq (a b : ByteArray) : Bool := a.toList == b.toList
def sLt (a b : ByteArray) : Bool := Op.bytesLess a.toList b.toList
def kEq : IntKind → IntKind → Bool
  | .i64, .i64 | .u8, .u8 | .u64, .u64 | .i32, .i32 => true
  | _, _ => false
def scEq (b : Bool) : AV → AV → Option Bool
  | .int k a, .int k' c => bif b && kEq k k' then some (a == c) else none
  | .str a, .str c => bif b then none else some (sEq a c)
  | _, _ => none
def csEq : List Bool → List AV → List AV → Option Bool
  | [], [], [] => some true
  | b :: bs, x :: xs, y :: ys => match scEq b x y, csEq bs xs ys with | some p, some q => some (p && q) | _, _ => none
  | _, _, _ => none
def tB : AV → Option Bool | .bool b => some b | .lit b => some b | _ => none
def isNil : AV → Option Bool
  | .nilp => some true
  | .bptr .. | .ptr .. | .rptr .. => some false
  | _ => none
def eqKs (t : Option TI) : List Bool := match t with
  | some ⟨.struct _ e, _, _, _⟩ => e
  | _ => []
def isPt (t : Option TI) : Bool := match t with
  | some ⟨.ptr, _, _, _⟩ => true
  | _ => false
def isBo (t : Option TI) : Bool := match t with
  | some ⟨.bool, _, _, _⟩ => true
  | _ => false
def nilW (T : Option TI) (op : BinOp) (p q : Bool) (K : AV → Prop) : Prop := bK (isPt T && (p || q)) <| match op with
  | .eql => K (.lit (p && q))
  | .neq => K (.lit (!(p && q)))
  | _ => False
def boolW (T : Option TI) (op : BinOp) (a b : AV) (K : AV → Prop) : Prop := bK (isBo T) <| opK (tB a) fun p => opK (tB b) fun q => match op with
  | .eql => K (.bool (p == q))
  | .neq => K (.bool (p != q))
  | _ => False
def binW (T : Option TI) (op : BinOp) (x y : AV) (K : AV → Prop) : Prop :=
  match x, y with
  | .int k a, .int k' b => bK (kEq k k') <| match op with
    | .add => K (.int k (k.wrap (a + b)))
    | .sub => K (.int k (k.wrap (a - b)))
    | .mul => K (.int k (k.wrap (a * b)))
    | .quo => b ≠ 0 ∧ K (.int k (k.wrap (a.tdiv b)))
    | .rem => b ≠ 0 ∧ K (.int k (a.tmod b))
    | .and => K (.int k (k.wrap (BitVec.ofInt k.bits a &&& BitVec.ofInt k.bits b).toNat))
    | .eql => K (.bool (a == b))
    | .neq => K (.bool (a != b))
    | .lss => K (.bool (a < b))
    | .leq => K (.bool (a ≤ b))
    | .gtr => K (.bool (a > b))
    | .geq => K (.bool (a ≥ b))
    | _ => False
  | .str a, .str b => match op with
    | .eql => K (.bool (sEq a b))
    | .neq => K (.bool (!sEq a b))
    | .lss => K (.bool (sLt a b))
    | .leq => K (.bool (sLt a b || sEq a b))
    | .gtr => K (.bool (!(sLt a b || sEq a b)))
    | .geq => K (.bool (!sLt a b))
    | _ => False
  | .agg a, .agg b => bK (!(eqKs T).isEmpty) <| opK (csEq (eqKs T) a b) fun p => match op with
    | .eql => K (.bool p)
    | .neq => K (.bool (!p))
    | _ => False
  | a, b => match isNil a, isNil b with
    | some p, some q => nilW T op p q K
    | _, _ => boolW T op a b K
def lenW (x : AV) (K : AV → Prop) : Prop :=
  match x with
  | .row _ es => K (.int .i64 es.length)
  | .own _ _ _ n _ => K (.int .i64 n)
  | .nils | .emp => K (.int .i64 (0 : Nat))
  | _ => False
def lenS (x : AV) (K : AV → Prop) : Prop :=
  match x with
  | .str s => K (.int .i64 s.size)
  | _ => False
def vw (σ : Nat → SV) (v : AV) (K : AV → List Nat → Prop) : Prop := match v with
  | .own s k i n q => arrK σ k fun s' es => bK (Nat.beq s s') <| match q with
    | .room _ => i + n ≤ es.length ∧ K (.row s ((es.drop i).take n)) [k]
    | _ => i + n = es.length ∧ K (.row s (es.drop i)) [k]
  | v => bK (okp v) <| fo v fun v => K v []
def vws (σ : Nat → SV) (l : List AV) : (List AV → List Nat → Prop) → Prop :=
  List.rec (motive := fun _ => (List AV → List Nat → Prop) → Prop) (fun K => K [] []) (fun v _ ih K => vw σ v fun v' ks => ih fun r' ks' => K (v' :: r') (ks ++ ks')) l
theorem vws_cons (σ : Nat → SV) (v : AV) (r : List AV) (K : List AV → List Nat → Prop) : vws σ (v :: r) K = vw σ v fun v' ks => vws σ r fun r' ks' => K (v' :: r') (ks ++ ks') := rfl
def vwA (σ : Nat → SV) (v : AV) (K : AV → List Nat → Prop) : Prop := match v with
  | .agg cs => vws σ cs fun cs' ks => K (.agg cs') ks
  | .bptr k o => boxK σ k fun cs => vws σ cs fun cs' ks => K (.rptr cs.length [cs'] 0 o) (k :: ks)
  | .rptr s es i o => K (.rptr s es i o) []
  | v => vw σ v K
def vwAs (σ : Nat → SV) (l : List AV) : (List AV → List Nat → Prop) → Prop :=
  List.rec (motive := fun _ => (List AV → List Nat → Prop) → Prop) (fun K => K [] []) (fun v _ ih K => vwA σ v fun v' ks => ih fun r' ks' => K (v' :: r') (ks ++ ks')) l
theorem vwAs_cons (σ : Nat → SV) (v : AV) (r : List AV) (K : List AV → List Nat → Prop) : vwAs σ (v :: r) K = vwA σ v fun v' ks => vwAs σ r fun r' ks' => K (v' :: r') (ks ++ ks') := rfl
def kills (ks : List Nat) : Upd := ks.map fun k => (k, .dead)
def fillp (fs : List (Nat × Nat × Nat)) (cs : List AV) : List Nat → List AV → Option (List AV)
  | [], [] => some cs
  | i :: r, v :: vs => match fs[i]?, cellsOf v with
    | some (o, _, s), some x => bif Nat.beq x.length s then (match setc cs o x with | some cs' => fillp fs cs' r vs | none => none) else none
    | _, _ => none
  | _, _ => none
def eset : List (List AV) → Nat → List AV → Option (List (List AV))
  | [], _, _ => none
  | _ :: r, 0, v => some (v :: r)
  | a :: r, n + 1, v => match eset r n v with | some r' => some (a :: r') | none => none
def fills (σ : Nat → SV) (s : Nat) (es : List (List AV)) (is : List Nat) (vs : List AV) : (List (List AV) → List Nat → Prop) → Prop :=
  List.rec (motive := fun _ => List (List AV) → List Nat → (List (List AV) → List Nat → Prop) → Prop) (fun es is K => match is with | [] => K es [] | _ => False)
    (fun v _ ih es is K => match is with
      | [] => False
      | i :: r => opK (cellsOf v) fun x => vws σ x fun x' ks => bK (Nat.beq x'.length s) <| opK (eset es i x') fun es' => ih es' r fun es'' ks' => K es'' (ks ++ ks')) vs es is
def elemsK (σ : Nat → SV) (v : AV) (K : List (List AV) → List Nat → Prop) : Prop := match v with
  | .row _ es => K es []
  | .nils | .emp => K [] []
  | .own s k i n q => arrK σ k fun s' es => bK (Nat.beq s s') <| match q with
    | .room _ => i + n ≤ es.length ∧ K ((es.drop i).take n) [k]
    | _ => i + n = es.length ∧ K (es.drop i) [k]
  | _ => False
def rowSz (s : Nat) : AV → Bool
  | .row s' _ => Nat.beq s s'
  | .own s' _ _ _ _ => Nat.beq s s'
  | .nils | .emp => true
  | _ => false
def appW (s bytes al : Nat) (σ : Nat → SV) (a x : AV) (K : AV → Upd → List Nat → Prop) : Prop :=
  bK (rowSz s x) <| bK (rowSz s a) <| elemsK σ x fun xs ks => match a with
  | .nils | .emp => freeK σ al <| xs.length * bytes ≤ 2 ^ 47 ∧ K (.own s al 0 xs.length .opn) [(al, .live (.arr s xs))] ks
  | .own _ k i n q => arrK σ k fun s' es => bK (Nat.beq s s') <| match q with
    | .room r => (xs.length ≤ r ∧ i + n + xs.length ≤ es.length) ∧ K (.own s k i (n + xs.length) (.room (r - xs.length))) [(k, .live (.arr s (es.take (i + n) ++ (xs ++ es.drop (i + n + xs.length)))))] (k :: ks)
    | .full => freeK σ al <| (i + n ≤ es.length ∧ (n + xs.length) * bytes ≤ 2 ^ 47) ∧ K (.own s al 0 (n + xs.length) .opn) [(k, .dead), (al, .live (.arr s ((es.take (i + n)).drop i ++ xs)))] (k :: ks)
    | .opn => freeK σ al <| (i + n = es.length ∧ (n + xs.length) * bytes ≤ 2 ^ 47) ∧ K (.own s al 0 (n + xs.length) .opn) [(k, .dead), (al, .live (.arr s (es.drop i ++ xs)))] (k :: ks)
  | _ => False
structure Cx where
  P : Program
  T : Nat → Option TI
  br : Nat → Bool
def finW (t : Option TI) (cs : List AV) (o : Nat) (K : AV → Prop) : Prop := match t with
  | none => False
  | some ti => bif ti.agg then opK (sub cs o ti.size) fun vs => K (.agg vs) else opK cs[o]? fun v => fo v K
end Go.Ab
namespace Go.Ab
open Go.RowKit
inductive LS where
  | free
  | gone
  | at (b o s : Nat)
inductive PR (w : World) (X : Nat → Prop) : Value → AV → Prop where
  | int (k : IntKind) (n : Int) : PR w X (.int k n) (.int k n)
  | bool (b : Bool) : PR w X (.bool b) (.bool b)
  | lit (b : Bool) : PR w X (.bool b) (.lit b)
  | str (s : ByteArray) : PR w X (.string s) (.str s)
  | nilp : PR w X (.pointer none) .nilp
  | nils : PR w X (.slice none 0 0) .nils
  | emp (a : Option Addr) : PR w X (.slice a 0 0) .emp
  | nilf : PR w X .nilFunc .nilf
  | fn (f : Nat) : PR w X (.func (.func f) #[] #[]) (.fn f [] [])
  | row0 (a : Option Addr) (c s : Nat) : PR w X (.slice a 0 c) (.row s [])
  | row (b o c s : Nat) (es : List (List AV)) (f : Nat → Nat → Value) (hX : ¬ X b) (hb : b < w.heap.size) (hc : es.length ≤ c) (hs : ∀ (i : Nat) (e : List AV), es[i]? = some e → e.length = s)
      (h1 : ∀ (i j : Nat) (e : List AV) (x : AV), es[i]? = some e → e[j]? = some x → w.cell? ⟨b, o + (i * s + j), none⟩ = some (f i j) ∧ (f i j).oneCell' = true)
      (h2 : ∀ (i j : Nat) (e : List AV) (x : AV), es[i]? = some e → e[j]? = some x → PR w X (f i j) x) : PR w X (.slice (some ⟨b, o, none⟩) es.length c) (.row s es)
def Q.fits (n c : Nat) : Q → Prop
  | .full => c = n
  | .opn => n ≤ c
  | .room r => n + r ≤ c
inductive VR (w : World) (X : Nat → Prop) (ι : Nat → LS) : Value → AV → Prop where
  | pure (v : Value) (x : AV) (h : PR w X v x) : VR w X ι v x
  | un (v : Value) : VR w X ι v .un
  | bptr (k o b c s : Nat) (h : ι k = .at b c s) : VR w X ι (.pointer (some ⟨b, c + o, none⟩)) (.bptr k o)
  | ptr (k i o b c s : Nat) (h : ι k = .at b c s) : VR w X ι (.pointer (some ⟨b, c + (i * s + o), none⟩)) (.ptr k i o)
  | rptr (b a s i o : Nat) (es : List (List AV)) (f : Nat → Nat → Value) (hX : ¬ X b) (hb : b < w.heap.size) (hs : ∀ (i : Nat) (e : List AV), es[i]? = some e → e.length = s)
      (h1 : ∀ (i j : Nat) (e : List AV) (x : AV), es[i]? = some e → e[j]? = some x → w.cell? ⟨b, a + (i * s + j), none⟩ = some (f i j) ∧ (f i j).oneCell' = true)
      (h2 : ∀ (i j : Nat) (e : List AV) (x : AV), es[i]? = some e → e[j]? = some x → PR w X (f i j) x) : VR w X ι (.pointer (some ⟨b, a + (i * s + o), none⟩)) (.rptr s es i o)
  | own (s k i n c b o : Nat) (q : Q) (vs : Array Value) (ty : TypeId) (h : ι k = .at b o s) (hq : q.fits n c) (hb : w.heap[b]? = some (.cells vs ty (0, 0))) (hc : o + (i + c) * s ≤ vs.size) :
      VR w X ι (.slice (some ⟨b, o + i * s, none⟩) n c) (.own s k i n q)
  | own0 (s k i : Nat) (a : Option Addr) (q : Q) (h : ι k ≠ .free) (hq : q.fits 0 0) : VR w X ι (.slice a 0 0) (.own s k i 0 q)
  | agg (vs : Array Value) (xs : List AV) (hl : vs.size = xs.length) (h : ∀ (j : Nat) (v : Value) (x : AV), vs[j]? = some v → xs[j]? = some x → VR w X ι v x) : VR w X ι (.agg vs) (.agg xs)
  | tup (vs : Array Value) (xs : List AV) (hl : vs.size = xs.length) (h : ∀ (j : Nat) (v : Value) (x : AV), vs[j]? = some v → xs[j]? = some x → VR w X ι v x) : VR w X ι (.tuple vs) (.tup xs)
  | fn (f : Nat) (as bs : Array Value) (xs ys : List AV) (ha : as.size = xs.length) (hb : bs.size = ys.length) (h : ∀ (j : Nat) (v : Value) (x : AV), as[j]? = some v → xs[j]? = some x → VR w X ι v x)
      (h' : ∀ (j : Nat) (v : Value) (x : AV), bs[j]? = some v → ys[j]? = some x → VR w X ι v x) : VR w X ι (.func (.func f) as bs) (.fn f xs ys)
def VRs (w : World) (X : Nat → Prop) (ι : Nat → LS) (vs : List Value) (xs : List AV) : Prop := vs.length = xs.length ∧ ∀ (j : Nat) (v : Value) (x : AV), vs[j]? = some v → xs[j]? = some x → VR w X ι v x
def Lv (σ : Nat → SV) (ι : Nat → LS) (b : Nat) : Prop := ∃ k blk o s, σ k = .live blk ∧ ι k = .at b o s
def XL (X : Nat → Prop) (σ : Nat → SV) (ι : Nat → LS) (b : Nat) : Prop := X b ∨ Lv σ ι b
def BR (w : World) (X : Nat → Prop) (ι : Nat → LS) : LS → Blk → Prop
  | .at b o _, .box cs => o = 0 ∧ ∃ (vs : Array Value) (ty : TypeId), w.heap[b]? = some (.cells vs ty (0, 0)) ∧ vs.size = cs.length ∧ ∀ (j : Nat) (v : Value) (x : AV), vs[j]? = some v → cs[j]? = some x → v.oneCell' = true ∧ VR w X ι v x
  | .at b o s, .arr s' es => s = s' ∧ ∃ (vs : Array Value) (ty : TypeId), w.heap[b]? = some (.cells vs ty (0, 0)) ∧ (∀ (i : Nat) (e : List AV), es[i]? = some e → e.length = s) ∧
      ∀ (i j : Nat) (e : List AV) (x : AV), es[i]? = some e → e[j]? = some x → ∃ v, vs[o + (i * s + j)]? = some v ∧ v.oneCell' = true ∧ PR w X v x
  | .gone, .arr _ es => es = []
  | _, _ => False
structure SR (w : World) (X : Nat → Prop) (ι : Nat → LS) (σ : Nat → SV) : Prop where
  blk : ∀ k b, σ k = .live b → BR w (XL X σ ι) ι (ι k) b
  inj : ∀ k k' b b' c o s o' s', σ k = .live b → σ k' = .live b' → ι k = .at c o s → ι k' = .at c o' s' → k = k'
  out : ∀ b, X b → b < w.heap.size ∧ ¬ Lv σ ι b
  free : ∀ k, σ k = .free ↔ ι k = .free
structure Adv (L : Nat → Prop) (w : World) (L' : Nat → Prop) (w' : World) : Prop where
  os : w'.os = w.os
  tape : w'.tape = w.tape
  output : w'.output = w.output
  size : w.heap.size ≤ w'.heap.size
  block : ∀ (b : Nat), b < w.heap.size → ¬ L b → w'.heap[b]? = w.heap[b]? ∧ ¬ L' b
  kind : ∀ (b : Nat) (vs : Array Value) (ty : TypeId) (fr : Nat × Nat), w.heap[b]? = some (Obj.cells vs ty fr) → ∃ vs' : Array Value, w'.heap[b]? = some (Obj.cells vs' ty fr) ∧ vs'.size = vs.size
  drawn : w.drawn ≤ w'.drawn
def Ext (ι ι' : Nat → LS) : Prop := ∀ k, ι k ≠ .free → ι' k = ι k
def ι0 : Nat → LS := fun _ => .free
def no : Nat → Prop := fun _ => False
def LeP (x y : AV) : Prop := ∀ w X v, PR w X v x → PR w X v y
structure Le (x y : AV) : Prop where
  to : ∀ w X ι v, VR w X ι v x → VR w X ι v y
structure StLe (pins : List Nat) (p q : Env × Sto) : Prop where
  to : ∀ (w : World) (X : Nat → Prop) (ι : Nat → LS) (vs : Nat → Value), SR w X ι (sget p.2) → (∀ t, VR w (XL X (sget p.2) ι) ι (vs t) (get p.1 t)) →
    ∃ ι', SR w X ι' (sget q.2) ∧ (∀ t, VR w (XL X (sget q.2) ι') ι' (vs t) (get q.1 t)) ∧ (∀ b, Lv (sget q.2) ι' b → Lv (sget p.2) ι b) ∧ ∀ k ∈ pins, ι' k = ι k
def Ent (P : Program) (f : Nat) : Prop := ∀ (args : Array Value) (w : World), (callFunc f args).run P w = .ok (.enter f args) w
def PCall (P : Program) (f : Nat) (args : List AV) (r : AV) : Prop := Ent P f ∧ ∀ (w : World) (X : Nat → Prop) (vs : Array Value), (∀ b, X b → b < w.heap.size) → VRs w X ι0 vs.toList args →
  Calls P f vs w fun e w' => ∃ v, e = .returned v ∧ VR w' X ι0 v r ∧ Adv no w no w'
def ACall (P : Program) (f : Nat) (args : List AV) (σ : Sto) (r : AV) (σ' : Sto) : Prop := Ent P f ∧ ∀ (w : World) (X : Nat → Prop) (ι : Nat → LS) (vs : Array Value), SR w X ι (sget σ) → VRs w (XL X (sget σ) ι) ι vs.toList args →
  Calls P f vs w fun e w' => ∃ v ι', e = .returned v ∧ Ext ι ι' ∧ SR w' X ι' (sget σ') ∧ VR w' (XL X (sget σ') ι') ι' v r ∧ Adv (Lv (sget σ) ι) w (Lv (sget σ') ι') w'
end Go.Ab
namespace Go.Ab
def rn0 (m : List (Nat × Nat)) : AV → AV
  | .own s k i n q => match look m k with | some k' => .own s k' i n q | none => .un
  | .bptr k o => match look m k with | some k' => .bptr k' o | none => .un
  | .ptr k i o => match look m k with | some k' => .ptr k' i o | none => .un
  | .agg _ | .tup _ | .un => .un
  | .fn f [] [] => .fn f [] []
  | .fn _ _ _ => .un
  | v => v
def rn1 (m : List (Nat × Nat)) : AV → AV
  | .agg cs => .agg (cs.map (rn0 m))
  | .fn f a b => .fn f (a.map (rn0 m)) (b.map (rn0 m))
  | v => rn0 m v
def rn2 (m : List (Nat × Nat)) : AV → AV
  | .tup vs => .tup (vs.map (rn1 m))
  | v => rn1 m v
def rn0K (m : List (Nat × Nat)) (v : AV) (K : AV → Prop) : Prop := match v with
  | .own s k i n q => match look m k with | some k' => K (.own s k' i n q) | none => K .un
  | .bptr k o => match look m k with | some k' => K (.bptr k' o) | none => K .un
  | .ptr k i o => match look m k with | some k' => K (.ptr k' i o) | none => K .un
  | .agg _ | .tup _ | .un => K .un
  | .fn f [] [] => K (.fn f [] [])
  | .fn _ _ _ => K .un
  | v => fo v K
theorem rn0K_iff (m : List (Nat × Nat)) (v : AV) (K : AV → Prop) : rn0K m v K ↔ K (rn0 m v) := by
  unfold rn0K rn0
  split <;> first | exact fo_iff _ _ | (split <;> exact Iff.rfl) | exact Iff.rfl
def mapK (f : AV → (AV → Prop) → Prop) (l : List AV) : (List AV → Prop) → Prop :=
  List.rec (motive := fun _ => (List AV → Prop) → Prop) (fun K => K []) (fun v _ ih K => f v fun v' => ih fun r' => K (v' :: r')) l
theorem mapK_iff {f : AV → (AV → Prop) → Prop} {g : AV → AV} (h : ∀ v K, f v K ↔ K (g v)) : ∀ (l : List AV) (K : List AV → Prop), mapK f l K ↔ K (l.map g)
  | [], _ => Iff.rfl
  | v :: r, K => by
    show f v (fun v' => mapK f r fun r' => K (v' :: r')) ↔ _
    simp only [h, mapK_iff h r, List.map_cons]
def rn1K (m : List (Nat × Nat)) (v : AV) (K : AV → Prop) : Prop := match v with
  | .agg cs => mapK (rn0K m) cs fun cs' => K (.agg cs')
  | .fn f a b => mapK (rn0K m) a fun a' => mapK (rn0K m) b fun b' => K (.fn f a' b')
  | v => rn0K m v K
theorem rn1K_iff (m : List (Nat × Nat)) (v : AV) (K : AV → Prop) : rn1K m v K ↔ K (rn1 m v) := by
  unfold rn1K rn1
  split <;> simp only [mapK_iff (rn0K_iff m), rn0K_iff]
def rn2K (m : List (Nat × Nat)) (v : AV) (K : AV → Prop) : Prop := match v with
  | .tup vs => mapK (rn1K m) vs fun vs' => K (.tup vs')
  | v => rn1K m v K
theorem rn2K_iff (m : List (Nat × Nat)) (v : AV) (K : AV → Prop) : rn2K m v K ↔ K (rn2 m v) := by
  unfold rn2K rn2
  split <;> simp only [mapK_iff (rn1K_iff m), rn1K_iff]
def rnB (m : List (Nat × Nat)) : Blk → Blk
  | .box cs => .box (cs.map (rn0 m))
  | .arr s es => .arr s es
def rnS (m : List (Nat × Nat)) : SV → SV
  | .live b => .live (rnB m b)
  | v => v
def rnSK (m : List (Nat × Nat)) (v : SV) (K : SV → Prop) : Prop := match v with
  | .free => K .free
  | .dead => K .dead
  | .live (.box cs) => mapK (rn0K m) cs fun cs' => K (.live (.box cs'))
  | .live (.arr s es) => K (.live (.arr s es))
theorem rnSK_iff (m : List (Nat × Nat)) (v : SV) (K : SV → Prop) : rnSK m v K ↔ K (rnS m v) := by
  cases v with
  | live b => cases b <;> simp only [rnSK, rnS, rnB, mapK_iff (rn0K_iff m)]
  | _ => exact Iff.rfl
def rnSto (m : List (Nat × Nat)) (σ : Nat → SV) : List (Nat × Nat) → Sto
  | [] => []
  | (k, k') :: r => (k', rnS m (σ k)) :: rnSto m σ r
def rnStoK (m : List (Nat × Nat)) (σ : Nat → SV) (l : List (Nat × Nat)) : (Sto → Prop) → Prop :=
  List.rec (motive := fun _ => (Sto → Prop) → Prop) (fun K => K []) (fun p _ ih K => match p with | (k, k') => rnSK m (σ k) fun v => ih fun r' => K ((k', v) :: r')) l
theorem rnStoK_iff (m : List (Nat × Nat)) (σ : Nat → SV) : ∀ (l : List (Nat × Nat)) (K : Sto → Prop), rnStoK m σ l K ↔ K (rnSto m σ l)
  | [], _ => Iff.rfl
  | (k, k') :: r, K => by
    show rnSK m (σ k) (fun v => rnStoK m σ r fun r' => K ((k', v) :: r')) ↔ _
    simp only [rnSto, rnSK_iff, rnStoK_iff m σ r]
def memN (k : Nat) : List Nat → Bool
  | [] => false
  | a :: r => bif Nat.beq k a then true else memN k r
def nodupN : List Nat → Bool
  | [] => true
  | a :: r => bif memN a r then false else nodupN r
def nodupM (m : List (Nat × Nat)) : Bool := nodupN (m.map (·.1)) && nodupN (m.map (·.2))
def addCs (f : List (Nat × Nat) → Nat → AV → (List (Nat × Nat) → Prop) → Prop) (l : List AV) : List (Nat × Nat) → Nat → (List (Nat × Nat) → Prop) → Prop :=
  List.rec (motive := fun _ => List (Nat × Nat) → Nat → (List (Nat × Nat) → Prop) → Prop) (fun m _ K => K m) (fun v _ ih m κ K => f m κ v fun m' => ih m' (κ + 1) K) l
def addV (st : Bool) (σ : Nat → SV) (n : Nat) : List (Nat × Nat) → Nat → AV → (List (Nat × Nat) → Prop) → Prop :=
  Nat.rec (motive := fun _ => List (Nat × Nat) → Nat → AV → (List (Nat × Nat) → Prop) → Prop) (fun _ _ _ _ => False) (fun _ ih m κ v K => match v with
    | .own _ k _ _ _ | .ptr k _ _ | .bptr k _ => match look m k with
      | some _ => K m
      | none => match σ k with
        | .live (.box cs) => addCs ih cs ((k, κ) :: m) (κ + 1) K
        | .live (.arr _ _) => K ((k, κ) :: m)
        | _ => bif st then False else K m
    | .agg cs => addCs ih cs m (κ + 1) K
    | .tup cs => addCs ih cs m (κ + 1) K
    | .fn _ a b => addCs ih a m (κ + 1) fun m => addCs ih b m (κ + 4) K
    | _ => K m) n
def addE (st : Bool) (σ : Nat → SV) (E : Nat → AV) (base : Nat) (l : List Nat) : List (Nat × Nat) → (List (Nat × Nat) → Prop) → Prop :=
  List.rec (motive := fun _ => List (Nat × Nat) → (List (Nat × Nat) → Prop) → Prop) (fun m K => K m) (fun t _ ih m K => addV st σ 4 m (64 * t + base) (E t) fun m' => ih m' K) l
def rnEnvK (m : List (Nat × Nat)) (E : Nat → AV) (l : List Nat) : (Env → Prop) → Prop :=
  List.rec (motive := fun _ => (Env → Prop) → Prop) (fun K => K []) (fun t _ ih K => rn2K m (E t) fun v => ih fun r' => K ((t, v) :: r')) l
def rnEnv (m : List (Nat × Nat)) (E : Nat → AV) (l : List Nat) : Env := l.map fun t => (t, rn2 m (E t))
theorem rnEnvK_iff (m : List (Nat × Nat)) (E : Nat → AV) : ∀ (l : List Nat) (K : Env → Prop), rnEnvK m E l K ↔ K (rnEnv m E l)
  | [], _ => Iff.rfl
  | t :: r, K => by
    show rn2K m (E t) (fun v => rnEnvK m E r fun r' => K ((t, v) :: r')) ↔ _
    simp only [rn2K_iff, rnEnvK_iff m E r, rnEnv, List.map_cons]
def addP (σ : Nat → SV) (l : List Nat) : List (Nat × Nat) → (List (Nat × Nat) → Prop) → Prop :=
  List.rec (motive := fun _ => List (Nat × Nat) → (List (Nat × Nat) → Prop) → Prop) (fun m K => K m) (fun k _ ih m K => match look m k with
    | some _ => ih m K
    | none => match σ k with
      | .live (.box cs) => ih ((k, k) :: m) fun m => addCs (addV false σ 3) cs m (k + 16) K
      | _ => ih ((k, k) :: m) K) l
def isFree : SV → Bool
  | .free => true
  | _ => false
def mOk (σ : Nat → SV) (pins : List Nat) (m : List (Nat × Nat)) : Bool := nodupM m && m.all (fun p => !isFree (σ p.1)) && pins.all (fun k => match look m k with | some k' => Nat.beq k k' | none => false)
def canon (pins : List Nat) (S : List Nat) (E : Env) (σ : Sto) (K : Env → Sto → Prop) : Prop :=
  addP (sget σ) pins [] fun m => addE false (sget σ) (get E) 16 S m fun m => bK (mOk (sget σ) pins m) <| rnEnvK m (get E) S fun E' => rnStoK m (sget σ) m fun σ' => K E' σ'
def outK (pins : List Nat) (n : Nat) (r : AV) (σ : Sto) (K : AV → Sto → Prop) : Prop :=
  addP (sget σ) pins [] fun m => addV false (sget σ) 4 m (64 * n + 32) r fun m => bK (mOk (sget σ) pins m) <| rn2K m r fun r' => rnStoK m (sget σ) m fun σ' => K r' σ'
def scal : AV → Bool
  | .int .. | .bool _ | .lit _ | .str _ | .nilp | .nils | .nilf => true
  | .tup vs => vs.all fun v => match v with | .int .. | .bool _ | .lit _ | .str _ | .nilp | .nils | .nilf => true | _ => false
  | _ => false
def lookR : List (Nat × Nat) → Nat → Option Nat
  | [], _ => none
  | (k, k') :: r, t => bif Nat.beq k' t then some k else lookR r t
def backM (m : List (Nat × Nat)) (al : Nat) : Sto → List (Nat × Nat)
  | [] => []
  | (κ, _) :: r => (κ, match lookR m κ with | some k => k | none => al + κ % 16) :: backM m al r
def backK (m : List (Nat × Nat)) (al : Nat) (σ : Sto) : (List (Nat × Nat) → Prop) → Prop :=
  List.rec (motive := fun _ => (List (Nat × Nat) → Prop) → Prop) (fun K => K []) (fun p _ ih K => match p with
    | (κ, _) => match lookR m κ with
      | some k => ih fun r' => K ((κ, k) :: r')
      | none => ih fun r' => K ((κ, al + κ % 16) :: r')) σ
theorem backK_iff (m : List (Nat × Nat)) (al : Nat) : ∀ (σ : Sto) (K : List (Nat × Nat) → Prop), backK m al σ K ↔ K (backM m al σ)
  | [], _ => Iff.rfl
  | (κ, v) :: r, K => by
    show (match lookR m κ with
      | some k => backK m al r fun r' => K ((κ, k) :: r')
      | none => backK m al r fun r' => K ((κ, al + κ % 16) :: r')) ↔ _
    unfold backM
    split <;> simp only [backK_iff m al r, *]
def newOk (m : List (Nat × Nat)) (al : Nat) (σ : Nat → SV) : Sto → Bool
  | [] => true
  | (κ, _) :: r => match lookR m κ with
    | some _ => newOk m al σ r
    | none => match σ (al + κ % 16) with | .free => newOk m al σ r | _ => false
def callR (cx : Cx) (al : Nat) (g : Nat) (args : List AV) (σ : Nat → SV) (K : AV → Upd → List Nat → Prop) : Prop :=
  addE true σ (fun t => args.getD t .un) 32 (List.range args.length) [] fun m => bK (mOk σ [] m) <| mapK (rn1K m) args fun args' => rnStoK m σ m fun σc =>
    ∃ r σ', ACall cx.P g args' σc r σ' ∧ (backK m al σ' fun mb => bK (nodupM mb && newOk m al σ σ') <| rn2K mb r fun r' => rnStoK mb (sget σ') mb fun u =>
      K r' (kills (m.map (·.1)) ++ u) (m.map (·.1)))
def callP (cx : Cx) (g : Nat) (args : List AV) (σ : Nat → SV) (K : AV → Upd → List Nat → Prop) : Prop :=
  vwAs σ args fun args' ks => ∃ r, PCall cx.P g args' r ∧ fo r fun r' => match ks with
    | [] => K r' [] []
    | _ => bif scal r' then K r' [] ks else K r' (kills ks) ks
def callW (cx : Cx) (al : Nat) (f : AV) (args : List AV) (σ : Nat → SV) (K : AV → Upd → List Nat → Prop) : Prop := match f with
  | .fn g a b => bif cx.br g then callR cx al g (a ++ args ++ b) σ K else callP cx g (a ++ args ++ b) σ K
  | _ => False
def intK (v : AV) (K : Int → Prop) : Prop := match v with | .int _ n => K n | _ => False
theorem intK_iff (v : AV) (K : Int → Prop) : intK v K ↔ ∃ k n, v = .int k n ∧ K n := by
  cases v with
  | int k n => exact ⟨fun h => ⟨k, n, rfl, h⟩, fun ⟨_, _, e, h⟩ => by cases e; exact h⟩
  | _ => exact ⟨False.elim, fun ⟨_, _, e, _⟩ => by cases e⟩
def sliceW (x : AV) (lo hi mx : Option AV) (K : AV → Prop) : Prop := match x with
  | .row s es => match lo, hi, mx with
    | none, some h, none => intK h fun h => (0 ≤ h ∧ h ≤ es.length) ∧ K (.row s (es.take h.toNat))
    | some l, none, none => intK l fun l => (0 ≤ l ∧ l ≤ es.length) ∧ K (.row s (es.drop l.toNat))
    | some l, some h, none => intK l fun l => intK h fun h => (0 ≤ l ∧ l ≤ h ∧ h ≤ es.length) ∧ K (.row s ((es.take h.toNat).drop l.toNat))
    | none, some h, some m => intK h fun h => intK m fun m => (h = 0 ∧ m = 0) ∧ K .emp
    | _, _, _ => False
  | .own s k i n q => match lo, hi, mx with
    | none, none, none => K (.own s k i n q)
    | none, some h, none => intK h fun h => (0 ≤ h ∧ h ≤ n) ∧ K (.own s k i h.toNat (.room (n - h.toNat)))
    | some l, none, none => intK l fun l => (0 ≤ l ∧ l ≤ n) ∧ K (.own s k (i + l.toNat) (n - l.toNat) q)
    | some l, some h, none => intK l fun l => intK h fun h => (0 ≤ l ∧ l ≤ h ∧ h ≤ n) ∧ K (.own s k (i + l.toNat) (h.toNat - l.toNat) (.room (n - h.toNat)))
    | none, some h, some m => intK h fun h => intK m fun m => (0 ≤ h ∧ h = m ∧ m ≤ n) ∧ K (.own s k i h.toNat .full)
    | _, _, _ => False
  | .nils => match lo, hi, mx with
    | none, none, none => K .nils
    | none, some h, none => intK h fun h => h = 0 ∧ K .nils
    | some l, none, none => intK l fun l => l = 0 ∧ K .nils
    | none, some h, some m => intK h fun h => intK m fun m => (h = 0 ∧ m = 0) ∧ K .nils
    | _, _, _ => False
  | .emp => match lo, hi, mx with
    | none, none, none => K .emp
    | none, some h, none => intK h fun h => h = 0 ∧ K .emp
    | some l, none, none => intK l fun l => l = 0 ∧ K .emp
    | none, some h, some m => intK h fun h => intK m fun m => (h = 0 ∧ m = 0) ∧ K .emp
    | _, _, _ => False
  | _ => False
def elemT (T : Nat → Option TI) (t : Nat) (K : Nat → TI → Prop) : Prop := match T t with
  | some ⟨.slice e, _, _, _⟩ => opK (T e) fun ti => K e ti
  | _ => False
def elemA (T : Nat → Option TI) (t : Nat) (K : TI → Prop) (A : Nat → TI → Prop) : Prop := match T t with
  | some ⟨.slice e, _, _, _⟩ => opK (T e) fun ti => K ti
  | some ⟨.array n e, _, _, _⟩ => opK (T e) fun ti => A n ti
  | _ => False
def builtinW (cx : Cx) (al : Nat) (b : Builtin) (ts : List Nat) (vs : List AV) (σ : Nat → SV) (K : AV → Upd → List Nat → Prop) : Prop := match b with
  | .len => match ts with
    | t :: _ => opK (cx.T t) fun ti => u1 vs fun x => match ti.kind with
      | .slice _ => lenW x fun v => K v [] []
      | .string => lenS x fun v => K v [] []
      | _ => False
    | _ => False
  | .append => match ts with
    | [t, t'] => bK (Nat.beq t t') <| elemT cx.T t fun _ ti => u2 vs fun a x => appW ti.size ti.bytes al σ a x K
    | _ => False
  | .clear => match ts with
    | t :: _ => elemT cx.T t fun _ ti => u1 vs fun x => match x with
      | .own s k i n _ => arrK σ k fun s' es => bK (Nat.beq s s' && Nat.beq s ti.size) <| i + n ≤ es.length ∧ K .un [(k, .live (.arr s (es.take i ++ (List.replicate n ti.zero ++ es.drop (i + n)))))] [k]
      | .nils | .emp => K .un [] []
      | _ => False
    | _ => False
  | _ => False
def opV (cx : Cx) (al : Nat) (o : Op) (vs : List AV) (σ : Nat → SV) (K : AV → Upd → List Nat → Prop) : Prop := match o with
  | .move _ | .assign _ => u1 vs fun v => fo v fun v => K v [] []
  | .pick _ _ _ => u3 vs fun c a b => match c with
    | .lit c => bif c then fo a fun v => K v [] [] else fo b fun v => K v [] []
    | .bool c => (c = true → fo a fun v => K v [] []) ∧ (c = false → fo b fun v => K v [] [])
    | _ => False
  | .alloc e => opK (cx.T e) fun ti => freeK σ al <| K (.bptr al 0) [(al, .live (.box ti.zero))] []
  | .box _ _ => u1 vs fun v => opK (cellsOf v) fun cs => freeK σ al <| K (.bptr al 0) [(al, .live (.box cs))] []
  | .build t ps => match cx.T t with
    | some ⟨.struct fs _, _, _, z⟩ => opK (fillp fs z (ps.toList.map (·.1)) vs) fun cs => K (.agg cs) [] []
    | _ => False
  | .buildSlice t n ps => elemT cx.T t fun _ ti => match n with
    | 0 => bK (ps.toList.isEmpty) (K .emp [] [])
    | n + 1 => bK (Nat.ble ((n + 1) * ti.size) 16777216) <| fills σ ti.size (List.replicate (n + 1) ti.zero) (ps.toList.map (·.1)) vs fun es ks =>
      freeK σ al <| K (.own ti.size al 0 (n + 1) .full) ((al, .live (.arr ti.size es)) :: kills ks) ks
  | .load t _ => u1 vs fun a => match a with
    | .bptr k o => boxK σ k fun cs => finW (cx.T t) cs o fun v => K v [] [k]
    | .ptr k i o => arrK σ k fun _ es => ∃ e, es[i]? = some e ∧ finW (cx.T t) e o fun v => K v [] [k]
    | .rptr _ es i o => ∃ e, es[i]? = some e ∧ finW (cx.T t) e o fun v => K v [] []
    | _ => False
  | .store t _ _ => opK (cx.T t) fun ti => u2 vs fun a v => opK (cellsOf v) fun x => bK (Nat.beq x.length ti.size) <| match a with
    | .bptr k o => boxK σ k fun cs => opK (setc cs o x) fun cs' => K .un [(k, .live (.box cs'))] [k]
    | .ptr k i o => arrK σ k fun s es => vws σ x fun x' ks => bK (!memN k ks) <| ∃ e, es[i]? = some e ∧ opK (setc e o x') fun e' => K .un ((k, .live (.arr s (es.set i e'))) :: kills ks) (k :: ks)
    | _ => False
  | .nilCheck _ => u1 vs fun v => match v with
    | .bptr .. | .ptr .. | .rptr .. => fo v fun v => K v [] []
    | _ => False
  | .binOp op t _ _ _ => u2 vs fun a b => binW (cx.T t) op a b fun v => K v [] []
  | .unOp op _ _ => u1 vs fun v => match op, v with
    | .not, .lit b => K (.lit (!b)) [] []
    | .not, .bool b => K (.bool (!b)) [] []
    | .neg, .int k n => K (.int k (k.wrap (0 - n))) [] []
    | _, _ => False
  | .convert s t _ => u1 vs fun v => match v, cx.T s, cx.T t with
    | .int _ n, some ⟨.int _, _, _, _⟩, some ⟨.int k, _, _, _⟩ => K (.int k (k.wrap n)) [] []
    | _, _, _ => False
  | .extract _ i => u1 vs fun v => match v with
    | .tup ws => opK ws[i]? fun v => fo v fun v => K v [] []
    | _ => False
  | .fieldAddr t _ f => u1 vs fun v => opK (fieldOf (cx.T t) f) fun (d, _, _) => match v with
    | .bptr k o => K (.bptr k (o + d)) [] []
    | .ptr k i o => K (.ptr k i (o + d)) [] []
    | .rptr s es i o => K (.rptr s es i (o + d)) [] []
    | _ => False
  | .field t _ f => u1 vs fun v => opK (fieldOf (cx.T t) f) fun (d, u, _) => match v with
    | .agg cs => finW (cx.T u) cs d fun v => K v [] []
    | _ => False
  | .indexAddr t _ _ => u2 vs fun x i => elemA cx.T t (fun ti => intK i fun i => match x with
    | .row s es => bK (Nat.beq s ti.size) <| (0 ≤ i ∧ i < es.length) ∧ K (.rptr s es i.toNat 0) [] []
    | .own s k j n _ => bK (Nat.beq s ti.size) <| (0 ≤ i ∧ i < n) ∧ K (.ptr k (j + i.toNat) 0) [] []
    | _ => False) fun n ti => intK i fun i => match x with
    | .bptr k o => (0 ≤ i ∧ i < n) ∧ K (.bptr k (o + i.toNat * ti.size)) [] []
    | .ptr k j o => (0 ≤ i ∧ i < n) ∧ K (.ptr k j (o + i.toNat * ti.size)) [] []
    | .rptr s es j o => (0 ≤ i ∧ i < n) ∧ K (.rptr s es j (o + i.toNat * ti.size)) [] []
    | _ => False
  | .makeSlice t _ _ => u2 vs fun l c => elemT cx.T t fun _ ti => intK l fun l => intK c fun c => freeK σ al (((0 ≤ l ∧ l = c) ∧ l.toNat * ti.bytes ≤ 2 ^ 47) ∧ K (.own ti.size al 0 l.toNat .full) [(al, .live (.arr ti.size (List.replicate l.toNat ti.zero)))] [])
  | .index t _ _ => u2 vs fun x i => intK i fun i => match x, cx.T t with
    | .str s, some ⟨.string, _, _, _⟩ => 0 ≤ i ∧ ∃ b, s[i.toNat]? = some b ∧ K (.int .u8 b.toNat) [] []
    | _, _ => False
  | .slice t _ lo hi mx => elemT cx.T t fun _ ti => match lo, hi, mx with
    | none, none, none => u1 vs fun x => bK (rowSz ti.size x) <| sliceW x none none none fun v => K v [] []
    | some _, none, none => u2 vs fun x l => bK (rowSz ti.size x) <| sliceW x (some l) none none fun v => K v [] []
    | none, some _, none => u2 vs fun x h => bK (rowSz ti.size x) <| sliceW x none (some h) none fun v => K v [] []
    | some _, some _, none => u3 vs fun x l h => bK (rowSz ti.size x) <| sliceW x (some l) (some h) none fun v => K v [] []
    | none, some _, some _ => u3 vs fun x h m => bK (rowSz ti.size x) <| sliceW x none (some h) (some m) fun v => K v [] []
    | _, _, _ => False
  | .makeFunc (.func f) a _ => K (.fn f (vs.take a.size) (vs.drop a.size)) [] []
  | .call c => match c.callee with
    | .builtin b => builtinW cx al b c.argTypes.toList vs σ K
    | .value _ => match vs with
      | f :: r => callW cx al f r σ K
      | _ => False
    | _ => False
  | _ => False
structure Foot where
  i : Nat
  dst : Option Nat
  us : List Nat
  rd : List Nat
  wr : List Nat
  anc : List Nat
def gset (ops : List Oper) : List Nat := ops.filterMap fun o => o.guard.map (·.1)
def dstOf (o : Option Oper) : Option Nat := match o with | some ⟨d, _, _, _, _, _⟩ => d | none => none
def tmpsOf (o : Op) : List Nat := o.operands.toList.filterMap fun | .tmp t => some t | _ => none
def ddA (k : Nat) (t : List Nat) : List Nat := bif memN k t then t else k :: t
def dd : List Nat → List Nat
  | [] => []
  | k :: l => ddA k (dd l)
def ancOf (log : List Foot) (o : Oper) : List Nat := dd (o.after.toList.flatMap fun e => bif Region.binds .any e then e.on :: (match log.find? (fun f => Nat.beq f.i e.on) with | some f => f.anc | none => []) else [])
def upE (d : Option Nat) (v : AV) (E : Env) : Env := match d with | some d => (d, v) :: E | none => E
def upS : Upd → Sto → Sto
  | [], σ => σ
  | u :: us, σ => upS us (u :: σ)
def put (ops : List Oper) (i : Nat) (d : Option Nat) (E : Env) (v : AV) (K : Env → Prop) : Prop :=
  bif memN i (gset ops) then (match v with
    | .bool b => (b = true → K (upE d (.lit true) E)) ∧ (b = false → K (upE d (.lit false) E))
    | v => K (upE d v E))
  else K (upE d v E)
def guardK (ops : List Oper) (g : Option (Nat × Bool)) (E : Env) (go skip : Prop) : Prop := match g with
  | none => go
  | some (j, want) => match dstOf ops[j]? with
    | some d => match get E d with
      | .lit b => bif Bool.xor b want then skip else go
      | .tup [] => skip
      | _ => False
    | none => False
def nilS (cx : Cx) (o : Op) (vs : List AV) (K : AV → Upd → List Nat → Prop) (D : Prop) : Prop := match o with
  | .binOp .eql t _ (.const (.slice none 0 0)) _ => match cx.T t with
    | some ⟨.slice _, _, _, _⟩ => match vs with
      | [.row _ es, _] => (es = [] → K (.lit true) [] []) ∧ (True → K (.lit false) [] [])
      | [.own _ _ _ n _, _] => (n = 0 → K (.lit true) [] []) ∧ (True → K (.lit false) [] [])
      | [.nils, _] => K (.lit true) [] []
      | _ => D
    | _ => D
  | _ => D
def convS (cx : Cx) (o : Op) (vs : List AV) (K : AV → Upd → List Nat → Prop) (D : Prop) : Prop := match o with
  | .convert s t _ => match vs with
    | [.str b] => match cx.T s, cx.T t with
      | some ⟨.string, _, _, _⟩, some ⟨.slice e, _, _, _⟩ => match cx.T e with
        | some ⟨.int .u8, _, _, _⟩ => K (.row 1 (b.data.toList.map fun c => [.int .u8 c.toNat])) [] []
        | _ => D
      | _, _ => D
    | _ => D
  | _ => D
def mkS (cx : Cx) (al : Nat) (o : Op) (vs : List AV) (σ : Nat → SV) (K : AV → Upd → List Nat → Prop) (D : Prop) : Prop := match o with
  | .makeSlice t _ _ => match vs with
    | [.int _ l, .int _ c] => elemT cx.T t fun _ ti => freeK σ al (((0 ≤ l ∧ l = c) ∧ l.toNat * ti.bytes ≤ 2 ^ 47) ∧ K (.own ti.size al 0 l.toNat .full) [(al, .live (.arr ti.size (List.replicate l.toNat ti.zero)))] [])
    | _ => D
  | .call c => match c.callee with
    | .builtin .append => match c.argTypes.toList, vs with
      | [t, t'], [.nils, .int _ n] => match cx.T t' with
        | some ⟨.int _, _, _, _⟩ => elemT cx.T t fun _ ti => freeK σ al ((0 < n ∧ n.toNat * ti.bytes ≤ 2 ^ 47) ∧ K (.own ti.size al 0 n.toNat .opn) [(al, .live (.arr ti.size (List.replicate n.toNat ti.zero)))] [])
        | _ => D
      | _, _ => D
    | .builtin .cap => match c.argTypes.toList, vs with
      | [t], [.nils] => elemT cx.T t fun _ _ => K (.int .i64 0) [] []
      | _, _ => D
    | _ => D
  | .slice t _ none (some _) none => match vs with
    | [.nils, .int _ h] => elemT cx.T t fun _ _ => h = 0 ∧ K .nils [] []
    | _ => D
  | .slice t _ (some _) (some _) none => match vs with
    | [.own s k i n (.room r), .int _ l, .int _ h] => elemT cx.T t fun _ ti => bK (Nat.beq s ti.size) <| (0 ≤ l ∧ l ≤ h ∧ h ≤ ((n + r : Nat) : Int)) ∧ K (.own s k (i + l.toNat) (h.toNat - l.toNat) (.room (n + r - h.toNat))) [] []
    | _ => D
  | .slice t _ (some _) (some _) (some _) => match vs with
    | [.own s _ _ n _, .int _ l, .int _ h, .int _ m] => elemT cx.T t fun _ ti => bK (Nat.beq s ti.size) <| (0 ≤ l ∧ l ≤ h ∧ h ≤ m ∧ m ≤ (n : Int)) ∧ K .un [] []
    | _ => D
  | _ => D
def opN (cx : Cx) (al : Nat) (o : Op) (vs : List AV) (σ : Nat → SV) (K : AV → Upd → List Nat → Prop) : Prop := nilS cx o vs K (convS cx o vs K (mkS cx al o vs σ K (opV cx al o vs σ K)))
def opsW (cx : Cx) (ops : List Oper) (K : Env → Sto → Prop) (l : List Oper) : Nat → Env → Sto → Prop :=
  List.rec (motive := fun _ => Nat → Env → Sto → Prop) (fun _ E σ => K E σ) (fun o _ ih i E σ =>
    guardK ops o.guard E (opN cx (64 * o.dst.getD 0) o.op (o.op.operands.toList.map (ev (get E))) (sget σ) fun v u _ => put ops i o.dst E v fun E' => ih (i + 1) E' (upS u σ))
      (ih (i + 1) (upE o.dst (.tup []) E) σ)) l
def footOf (ops : List Oper) (i : Nat) (o : Oper) (rd : List Nat) (u : Upd) (l : List Foot) : Foot :=
  ⟨i, o.dst, (match o.guard with | some (j, _) => (match dstOf ops[j]? with | some d => d :: tmpsOf o.op | none => tmpsOf o.op) | none => tmpsOf o.op), rd, u.map (·.1), ancOf l o⟩
def opsD (cx : Cx) (ops : List Oper) (K : Env → Sto → List Foot → Prop) (l : List Oper) : Nat → Env → Sto → List Foot → Prop :=
  List.rec (motive := fun _ => Nat → Env → Sto → List Foot → Prop) (fun _ E σ f => K E σ f) (fun o _ ih i E σ f =>
    guardK ops o.guard E (opV cx (64 * o.dst.getD 0) o.op (o.op.operands.toList.map (ev (get E))) (sget σ) fun v u rd => put ops i o.dst E v fun E' => ih (i + 1) E' (upS u σ) (footOf ops i o rd u f :: f))
      (ih (i + 1) (upE o.dst (.tup []) E) σ (footOf ops i o [] [] f :: f))) l
def disj (a b : List Nat) : Bool := a.all fun x => !memN x b
def apart (f g : Foot) : Bool :=
  (match f.dst with | some d => !memN d g.us && (match g.dst with | some d' => !Nat.beq d d' | none => true) | none => true) &&
  (match g.dst with | some d => !memN d f.us | none => true) &&
  disj f.wr g.wr && disj f.wr g.rd && disj f.rd g.wr
def chk : List Foot → Bool
  | [] => true
  | f :: r => f.anc.all (fun j => Nat.blt j f.i) && r.all (fun g => memN g.i f.anc || apart f g) && chk r
inductive Ex where | norm | exit (id : Nat) | ret
def Ex.on (e : Ex) (E : Env) (σ : Sto) (K : Env → Sto → Prop) (Q : Ex → Env → Sto → Prop) : Prop := match e with
  | .norm => K E σ
  | .exit i => Q (.exit i) E σ
  | .ret => Q .ret E σ
def Ex.blk (e : Ex) (id : Nat) (E : Env) (σ : Sto) (Q : Ex → Env → Sto → Prop) : Prop := match e with
  | .exit i => bif Nat.beq i id then Q .norm E σ else Q (.exit i) E σ
  | .norm => Q .norm E σ
  | .ret => Q .ret E σ
def condK (v : AV) (A B : Prop) : Prop := match v with
  | .lit t => bif t then A else B
  | .bool t => (t = true → A) ∧ (t = false → B)
  | _ => False
def iter (pins : List Nat) (W : Env → Sto → (Ex → Env → Sto → Prop) → Prop) (S : List Nat) (n : Nat) : Env → Sto → (Ex → Env → Sto → Prop) → Prop :=
  Nat.rec (motive := fun _ => Env → Sto → (Ex → Env → Sto → Prop) → Prop) (fun _ _ _ => False) (fun _ ih E σ Q => W E σ fun e E' σ' => e.on E' σ' (fun E' σ' => canon pins S E' σ' fun E' σ' => ih E' σ' Q) Q) n
def loopW (pins : List Nat) (W : Env → Sto → (Ex → Env → Sto → Prop) → Prop) (E : Env) (σ : Sto) (Q : Ex → Env → Sto → Prop) : Prop :=
  ∃ (S : List Nat) (α : Type) (f : α → Env × Sto) (inv : α → Prop) (meas : α → Nat), (canon pins S E σ fun E σ => ∃ a, StLe pins (E, σ) (f a) ∧ inv a) ∧
    ∀ a, inv a → W (f a).1 (f a).2 fun e E' σ' => e.on E' σ' (fun E' σ' => canon pins S E' σ' fun E' σ' => ∃ a', StLe pins (E', σ') (f a') ∧ inv a' ∧ meas a' < meas a) Q
def Ex.jo (e : Ex) (pins S S' : List Nat) (E : Env) (σ : Sto) (K : Env → Sto → Prop) (J : Nat → Env → Sto → Prop) (Q : Ex → Env → Sto → Prop) : Prop := match e with
  | .norm => canon pins S E σ K
  | .exit i => canon pins S' E σ (J i)
  | .ret => Q .ret E σ
def loopJ (pins : List Nat) (W : Env → Sto → (Ex → Env → Sto → Prop) → Prop) (E : Env) (σ : Sto) (Q : Ex → Env → Sto → Prop) : Prop :=
  ∃ (S : List Nat) (α : Type) (f : α → Env × Sto) (inv : α → Prop) (meas : α → Nat) (S' : List Nat) (β : Type) (g : β → Env × Sto) (jnv : Nat → β → Prop), (canon pins S E σ fun E σ => ∃ a, StLe pins (E, σ) (f a) ∧ inv a) ∧
    (∀ a, inv a → W (f a).1 (f a).2 fun e E' σ' => e.jo pins S S' E' σ' (fun E' σ' => ∃ a', StLe pins (E', σ') (f a') ∧ inv a' ∧ meas a' < meas a) (fun i E' σ' => ∃ b, StLe pins (E', σ') (g b) ∧ jnv i b) Q) ∧ ∀ i b, jnv i b → Q (.exit i) (g b).1 (g b).2
def preW (cx : Cx) (pins : List Nat) (r : Nat) (E : Env) (σ : Sto) (K : Env → Sto → Prop) : Prop :=
  bif cx.br (1000 + r) then ∃ (S : List Nat) (p : Env × Sto), canon pins S E σ fun E σ => StLe pins (E, σ) p ∧ K p.1 p.2 else K E σ
def codeW (cx : Cx) (pins : List Nat) (c : Code) : Env → Sto → (Ex → Env → Sto → Prop) → Prop :=
  Code.rec (motive := fun _ => Env → Sto → (Ex → Env → Sto → Prop) → Prop)
    (fun E σ Q => Q .norm E σ)
    (fun id ops d E σ Q => preW cx pins id E σ fun E σ => bif d then opsD cx ops.toList (fun E σ l => chk l = true ∧ Q .norm E σ) ops.toList 0 E σ [] else opsW cx ops.toList (Q .norm) ops.toList 0 E σ)
    (fun _ _ a b E σ Q => a E σ fun e E' σ' => e.on E' σ' (fun E' σ' => b E' σ' Q) Q)
    (fun c _ _ a b E σ Q => condK (ev (get E) c) (a E σ Q) (b E σ Q))
    (fun id _ b E σ Q => b E σ fun e E' σ' => e.blk id E' σ' Q)
    (fun _ b E σ Q => (∃ S n, canon pins S E σ fun E σ => iter pins b S n E σ Q) ∨ loopW pins b E σ Q ∨ loopJ pins b E σ Q)
    (fun _ _ _ _ _ _ _ _ _ => False)
    (fun id E σ Q => Q (.exit id) E σ)
    (fun _ _ _ _ _ => False)
    (fun _ _ _ _ => False)
    (fun _ _ _ _ => False)
    (fun E σ Q => Q .ret E σ)
    (fun _ _ _ _ => False)
    c
def resW (cx : Cx) (r : ResultVar) (E : Env) (σ : Nat → SV) (K : AV → Prop) : Prop := match r with
  | .tmp t => fo (get E t) K
  | .cell a t => match get E a with
    | .bptr k o => boxK σ k fun cs => finW (cx.T t) cs o K
    | _ => False
def ressW (cx : Cx) (E : Env) (σ : Nat → SV) (l : List ResultVar) : (List AV → Prop) → Prop :=
  List.rec (motive := fun _ => (List AV → Prop) → Prop) (fun K => K []) (fun r _ ih K => resW cx r E σ fun v => ih fun vs => K (v :: vs)) l
def oneOf (vs : List AV) : AV := match vs with | [v] => v | _ => .tup vs
def envOf (args : List AV) : Nat → Env
  | i => match args with
    | [] => []
    | a :: r => (i, a) :: envOf r (i + 1)
def funcW (cx : Cx) (fn : Func) (args : List AV) (σ : Sto) (Q : AV → Sto → Prop) : Prop := match fn.body with
  | some c => codeW cx (σ.map (·.1)) c (envOf args 0) σ fun e E σ => match e with
    | .exit _ => False
    | _ => ressW cx E (sget σ) fn.results.toList fun vs => match vs with
      | [v] => Q v σ
      | _ => Q (.tup vs) σ
  | none => False
def vwR (σ : Nat → SV) (r : AV) (K : AV → Prop) : Prop := match r with
  | .tup vs => vwAs σ vs fun vs' _ => K (.tup vs')
  | r => vwA σ r fun r' _ => K r'
def funcP (cx : Cx) (fn : Func) (args : List AV) (r : AV) : Prop := funcW cx fn args [] fun v σ => vwR (sget σ) v fun v' => Le v' r
def funcA (cx : Cx) (fn : Func) (args : List AV) (σ : Sto) (r : AV) (σ' : Sto) : Prop := funcW cx fn args σ fun v σ1 => outK (σ.map (·.1)) args.length v σ1 fun v' σ1' => StLe (σ.map (·.1)) ([(0, v')], σ1') ([(0, r)], σ')
end Go.Ab
namespace Go.Ab
open Go.RowKit
theorem PR.anti {w : World} {X Y : Nat → Prop} (hXY : ∀ b, Y b → X b) {v : Value} {x : AV} (h : PR w X v x) : PR w Y v x := by
  induction h with
  | int k n => exact .int k n
  | bool b => exact .bool b
  | lit b => exact .lit b
  | str s => exact .str s
  | nilp => exact .nilp
  | nils => exact .nils
  | emp a => exact .emp a
  | nilf => exact .nilf
  | fn f => exact .fn f
  | row0 a c s => exact .row0 a c s
  | row b o c s es f hX hb hc hs h1 h2 ih => exact .row b o c s es f (fun h => hX (hXY _ h)) hb hc hs h1 ih
theorem VR.anti {w : World} {X Y : Nat → Prop} {ι : Nat → LS} (hXY : ∀ b, Y b → X b) {v : Value} {x : AV} (h : VR w X ι v x) : VR w Y ι v x := by
  induction h with
  | pure v x h => exact .pure v x (h.anti hXY)
  | un v => exact .un v
  | bptr k o b c s h => exact .bptr k o b c s h
  | ptr k i o b c s h => exact .ptr k i o b c s h
  | rptr b a s i o es f hX hb hs h1 h2 => exact .rptr b a s i o es f (fun h => hX (hXY _ h)) hb hs h1 (fun i j e x a b => (h2 i j e x a b).anti hXY)
  | own s k i n c b o q vs ty h hq hb hc => exact .own s k i n c b o q vs ty h hq hb hc
  | own0 s k i a q h hq => exact .own0 s k i a q h hq
  | agg vs xs hl h ih => exact .agg vs xs hl ih
  | tup vs xs hl h ih => exact .tup vs xs hl ih
  | fn f as bs xs ys ha hb h h' ih ih' => exact .fn f as bs xs ys ha hb ih ih'
theorem cell_block {w w' : World} {b o : Nat} (h : w'.heap[b]? = w.heap[b]?) : w'.cell? ⟨b, o, none⟩ = w.cell? ⟨b, o, none⟩ := by
  unfold World.cell?; simp only [h]
theorem PR.step {w w' : World} {X L L' : Nat → Prop} (ha : Adv L w L' w') {v : Value} {x : AV} (h : PR w (fun b => X b ∨ L b) v x) : PR w' (fun b => X b ∨ L' b) v x := by
  induction h with
  | int k n => exact .int k n
  | bool b => exact .bool b
  | lit b => exact .lit b
  | str s => exact .str s
  | nilp => exact .nilp
  | nils => exact .nils
  | emp a => exact .emp a
  | nilf => exact .nilf
  | fn f => exact .fn f
  | row0 a c s => exact .row0 a c s
  | row b o c s es f hX hb hc hs h1 h2 ih =>
    obtain ⟨e1, e2⟩ := ha.block b hb (fun h => hX (.inr h))
    refine .row b o c s es f (fun h => h.elim (fun h => hX (.inl h)) e2) (Nat.lt_of_lt_of_le hb ha.size) hc hs (fun i j e x hi hj => ?_) ih
    rw [cell_block e1]
    exact h1 i j e x hi hj
theorem VR.step {w w' : World} {X L L' : Nat → Prop} {ι ι' : Nat → LS} (ha : Adv L w L' w') (he : Ext ι ι') {v : Value} {x : AV} (h : VR w (fun b => X b ∨ L b) ι v x) : VR w' (fun b => X b ∨ L' b) ι' v x := by
  have key : ∀ k l, ι k = l → l ≠ .free → ι' k = l := fun k l h hn => by rw [he k (by rw [h]; exact hn)]; exact h
  induction h with
  | pure v x h => exact .pure v x (h.step ha)
  | un v => exact .un v
  | bptr k o b c s h => exact .bptr k o b c s (key _ _ h (by simp))
  | ptr k i o b c s h => exact .ptr k i o b c s (key _ _ h (by simp))
  | rptr b a s i o es f hX hb hs h1 h2 =>
    obtain ⟨e1, e2⟩ := ha.block b hb (fun h => hX (.inr h))
    refine .rptr b a s i o es f (fun h => h.elim (fun h => hX (.inl h)) e2) (Nat.lt_of_lt_of_le hb ha.size) hs (fun i j e x hi hj => ?_) (fun i j e x a b => (h2 i j e x a b).step ha)
    rw [cell_block e1]
    exact h1 i j e x hi hj
  | own s k i n c b o q vs ty h hq hb hc =>
    obtain ⟨vs', e1, e2⟩ := ha.kind b vs ty _ hb
    exact .own s k i n c b o q vs' ty (key _ _ h (by simp)) hq e1 (by rw [e2]; exact hc)
  | own0 s k i a q h hq => exact .own0 s k i a q (by rw [he k h]; exact h) hq
  | agg vs xs hl h ih => exact .agg vs xs hl ih
  | tup vs xs hl h ih => exact .tup vs xs hl ih
  | fn f as bs xs ys ha hb h h' ih ih' => exact .fn f as bs xs ys ha hb ih ih'
theorem Adv.refl (L : Nat → Prop) (w : World) : Adv L w L w := ⟨rfl, rfl, rfl, Nat.le_refl _, fun _ _ h => ⟨rfl, h⟩, fun _ vs _ _ h => ⟨vs, h, rfl⟩, Nat.le_refl _⟩
theorem Adv.less {L L' : Nat → Prop} (h : ∀ b, L' b → L b) (w : World) : Adv L w L' w := ⟨rfl, rfl, rfl, Nat.le_refl _, fun b _ hb => ⟨rfl, fun hb' => hb (h b hb')⟩, fun _ vs _ _ h => ⟨vs, h, rfl⟩, Nat.le_refl _⟩
theorem Adv.trans {L L' L'' : Nat → Prop} {a b c : World} (h : Adv L a L' b) (k : Adv L' b L'' c) : Adv L a L'' c where
  os := k.os.trans h.os
  tape := k.tape.trans h.tape
  output := k.output.trans h.output
  size := Nat.le_trans h.size k.size
  block := fun x hx hL => by
    obtain ⟨e1, e2⟩ := h.block x hx hL
    obtain ⟨e3, e4⟩ := k.block x (Nat.lt_of_lt_of_le hx h.size) e2
    exact ⟨e3.trans e1, e4⟩
  kind := fun x vs ty fr hx => by
    obtain ⟨vs', e1, e2⟩ := h.kind x vs ty fr hx
    obtain ⟨vs'', e3, e4⟩ := k.kind x vs' ty fr e1
    exact ⟨vs'', e3, e4.trans e2⟩
  drawn := Nat.le_trans h.drawn k.drawn
theorem Ext.refl (ι : Nat → LS) : Ext ι ι := fun _ _ => rfl
theorem Ext.trans {a b c : Nat → LS} (h : Ext a b) (k : Ext b c) : Ext a c := fun x hx => by
  have e := h x hx
  rw [k x (by rw [e]; exact hx), e]
theorem BR.step {w w' : World} {X : Nat → Prop} {L L' : Nat → Prop} {ι ι' : Nat → LS} (ha : Adv L w L' w') (he : Ext ι ι') {l : LS} {b : Blk} (h : BR w (fun b => X b ∨ L b) ι l b)
    (hb : ∀ c o s, l = .at c o s → w'.heap[c]? = w.heap[c]?) : BR w' (fun b => X b ∨ L' b) ι' l b := by
  cases l with
  | free => cases b <;> exact h.elim
  | gone => cases b with
    | box cs => exact h.elim
    | arr s es => exact h
  | «at» c o s =>
    have hc := hb c o s rfl
    cases b with
    | box cs =>
      obtain ⟨h0, vs, ty, h1, h2, h3⟩ := h
      exact ⟨h0, vs, ty, by rw [hc]; exact h1, h2, fun j v x a b => ⟨(h3 j v x a b).1, (h3 j v x a b).2.step ha he⟩⟩
    | arr s' es =>
      obtain ⟨h0, vs, ty, h1, h2, h3⟩ := h
      refine ⟨h0, vs, ty, by rw [hc]; exact h1, h2, fun i j e x a b => ?_⟩
      obtain ⟨v, k1, k2, k3⟩ := h3 i j e x a b
      exact ⟨v, k1, k2, k3.step ha⟩
def updF (σ : Nat → SV) : Upd → Nat → SV
  | [] => σ
  | u :: us => updF (fun k => if k = u.1 then u.2 else σ k) us
theorem sget_cons (u : Nat × SV) (σ : Sto) : sget (u :: σ) = fun k => if k = u.1 then u.2 else sget σ k := by
  funext k
  obtain ⟨a, b⟩ := u
  show (bif Nat.beq a k then b else sget σ k) = _
  by_cases h : k = a
  · subst h; simp
  · have : Nat.beq a k = false := by rw [Bool.eq_false_iff]; intro e; exact h (Nat.eq_of_beq_eq_true e).symm
    simp [this, h]
theorem sget_upS : ∀ (u : Upd) (σ : Sto), sget (upS u σ) = updF (sget σ) u
  | [], _ => rfl
  | u :: us, σ => by
    show sget (upS us (u :: σ)) = updF _ us
    rw [sget_upS us, sget_cons]
end Go.Ab
namespace Go.Ab
open Go.RowKit
def zOf (v : Value) : Option (List AV) := bif (v.cells.toList.map cv0).all okp then some (v.cells.toList.map cv0) else none
def fsOf (P : Program) : List Field → Option (List (Nat × Nat × Nat))
  | [] => some []
  | f :: r => match P.info? f.type, fsOf P r with
    | some i, some l => bif Nat.beq i.size 0 then none else some ((f.offset, f.type, i.size) :: l)
    | _, _ => none
def eqFs (P : Program) : Nat → List Field → List Bool → Bool
  | _, [], [] => true
  | n, f :: r, b :: bs => Nat.beq f.offset n && (f.name != "_") && (match P.underlying f.type with | some (.int _) => b | some .string => !b | _ => false) && eqFs P (n + 1) r bs
  | _, _, _ => false
def eqB (P : Program) (t : Nat) (fs : List Field) (e : List Bool) : Bool := !P.eqGuardType P.depth t && !P.stoodInHeld t && eqFs P 0 fs e
def kindOf (P : Program) (e : List Bool) (t : Nat) : TypeDesc → Option TK
  | .slice el => some (.slice el)
  | .string => some .string
  | .int k => some (.int k)
  | .bool => some .bool
  | .pointer _ => some .ptr
  | .func .. => some .func
  | .array n el => some (.array n el)
  | .struct fs => match fsOf P fs.toList with
    | some l => bif e.isEmpty then some (.struct l []) else (bif eqB P t fs.toList e then some (.struct l e) else none)
    | none => none
  | _ => none
def tiOf (P : Program) (e : List Bool) (t : Nat) : Option TI := match P.info? t, P.underlying t with
  | some i, some d => match i.zero with
    | some z => match zOf z, kindOf P e t d with
      | some zs, some k => bif Nat.beq zs.length i.size && !Nat.beq (i.size * i.bytes) 0 then some ⟨k, i.size, i.bytes, zs⟩ else none
      | _, _ => none
    | none => none
  | _, _ => none
def TOk (cx : Cx) : Prop := ∀ t ti, cx.T t = some ti → ∃ e, tiOf cx.P e t = some ti
structure TFact (P : Program) (t : Nat) (ti : TI) (i : TypeInfo) (d : TypeDesc) (z : Value) : Prop where
  info : P.info? t = some i
  und : P.underlying t = some d
  zero : i.zero = some z
  zs : ti.zero = z.cells.toList.map cv0
  zok : (z.cells.toList.map cv0).all okp = true
  size : i.size = ti.size
  bytes : i.bytes = ti.bytes
  len : z.cells.size = ti.size
  pos : ti.size ≠ 0
  bpos : ti.bytes ≠ 0
  kind : ∃ e, kindOf P e t d = some ti.kind
theorem TOk.fact {cx : Cx} (hT : TOk cx) {t : Nat} {ti : TI} (h : cx.T t = some ti) : ∃ i d z, TFact cx.P t ti i d z := by
  obtain ⟨e, h⟩ := hT t ti h
  unfold tiOf at h
  split at h
  · rename_i i d hi hd
    split at h
    · rename_i z hz
      split at h
      · rename_i zs k hzs hk
        unfold zOf at hzs
        cases ha : (z.cells.toList.map cv0).all okp with
        | false => rw [ha] at hzs; cases hzs
        | true =>
          rw [ha] at hzs
          cases hzs
          cases hn : Nat.beq (z.cells.toList.map cv0).length i.size with
          | false => rw [hn] at h; cases h
          | true =>
            cases hn0 : Nat.beq (i.size * i.bytes) 0 with
            | true => rw [hn, hn0] at h; cases h
            | false =>
              rw [hn, hn0] at h
              cases h
              have hl := Nat.eq_of_beq_eq_true hn
              exact ⟨i, d, z, hi, hd, hz, rfl, ha, rfl, rfl, by simpa using hl, (fun (e : i.size = 0) => by rw [e, Nat.zero_mul] at hn0; cases hn0), (fun (e : i.bytes = 0) => by rw [e, Nat.mul_zero] at hn0; cases hn0), e, hk⟩
      · cases h
    · cases h
  · cases h
theorem cv0_PR (w : World) (X : Nat → Prop) (v : Value) (h : okp (cv0 v) = true) : PR w X v (cv0 v) ∧ v.oneCell' = true := by
  unfold cv0 at h ⊢
  split at h
  · exact ⟨.int _ _, rfl⟩
  · exact ⟨.lit _, rfl⟩
  · exact ⟨.str _, rfl⟩
  · exact ⟨.nils, rfl⟩
  · exact ⟨.nilp, rfl⟩
  · exact ⟨.nilf, rfl⟩
  · cases h
theorem cv0_VR (w : World) (X : Nat → Prop) (ι : Nat → LS) (v : Value) : VR w X ι v (cv0 v) := by
  cases h : okp (cv0 v) with
  | true => exact .pure _ _ (cv0_PR w X v h).1
  | false =>
    have : cv0 v = .un := by
      unfold cv0 at h ⊢
      split at h <;> first | rfl | cases h
    rw [this]
    exact .un _
theorem cv_VR (w : World) (X : Nat → Prop) (ι : Nat → LS) (v : Value) : VR w X ι v (cv v) := by
  unfold cv
  split
  · rename_i cs
    refine .agg _ _ (by simp) fun j v x hv hx => ?_
    rw [List.getElem?_map] at hx
    have : cs.toList[j]? = some v := by simpa using hv
    rw [this] at hx
    cases hx
    exact cv0_VR w X ι v
  · exact cv0_VR w X ι v
def Runs (P : Program) (o : Oper) (a : Act) (w : World) (X : Nat → Prop) (ι : Nat → LS) (σ : Nat → SV) (v : AV) (u : Upd) : Prop :=
  ∀ (next : Act → World → Prop) (Q : Exit → Act → World → Prop), (∀ cv w' ι', Ext ι ι' → SR w' X ι' (updF σ u) → VR w' (XL X (updF σ u) ι') ι' cv v → Adv (Lv σ ι) w (Lv (updF σ u) ι') w' → next (a.put o.dst cv) w') → o.wp P a w next Q
section
variable {P : Program} {o : Oper} {a : Act} {w : World} {X : Nat → Prop} {ι : Nat → LS} {σ : Nat → SV} {v : AV} {u : Upd}
theorem Runs.val {cv : Value} {w' : World} {ι' : Nat → LS} (h : (execOp a.eval o).run P w = .ok (.value cv) w') (he : Ext ι ι') (hs : SR w' X ι' (updF σ u)) (hv : VR w' (XL X (updF σ u) ι') ι' cv v)
    (ha : Adv (Lv σ ι) w (Lv (updF σ u) ι') w') : Runs P o a w X ι σ v u := fun next Q hk => by
  unfold Oper.wp
  rw [h]
  exact hk cv w' ι' he hs hv ha
theorem Runs.skip {w' : World} {ι' : Nat → LS} (h : (execOp a.eval o).run P w = .ok .skip w') (he : Ext ι ι') (hs : SR w' X ι' (updF σ u)) (ha : Adv (Lv σ ι) w (Lv (updF σ u) ι') w') : Runs P o a w X ι σ .un u := fun next Q hk => by
  unfold Oper.wp
  rw [h]
  exact hk undef w' ι' he hs (.un _) ha
theorem Runs.same {cv : Value} (h : (execOp a.eval o).run P w = .ok (.value cv) w) (hs : SR w X ι σ) (hv : VR w (XL X σ ι) ι cv v) : Runs P o a w X ι σ v [] :=
  Runs.val h (Ext.refl _) hs hv (Adv.refl _ _)
end
end Go.Ab
namespace Go.Ab
open Go.RowKit
theorem SR.next {w w' : World} {X : Nat → Prop} {ι ι' : Nat → LS} {σ σ' : Nat → SV} (hs : SR w X ι σ) (he : Ext ι ι') (ha : Adv (Lv σ ι) w (Lv σ' ι') w')
    (hold : ∀ k b, σ' k = .live b → (σ k = .live b ∧ ∀ c o s, ι k = .at c o s → w'.heap[c]? = w.heap[c]?) ∨ BR w' (XL X σ' ι') ι' (ι' k) b)
    (hinj : ∀ k k' b b' c o s o' s', σ' k = .live b → σ' k' = .live b' → ι' k = .at c o s → ι' k' = .at c o' s' → k = k')
    (hfree : ∀ k, σ' k = .free ↔ ι' k = .free) : SR w' X ι' σ' := by
  refine ⟨fun k b hk => ?_, hinj, fun b hb => ?_, hfree⟩
  · rcases hold k b hk with ⟨h1, h2⟩ | h
    · have hn : ι k ≠ .free := fun h => by rw [(hs.free k).2 h] at h1; cases h1
      rw [he k hn]
      exact (hs.blk k b h1).step ha he h2
    · exact h
  · obtain ⟨h1, h2⟩ := hs.out b hb
    exact ⟨Nat.lt_of_lt_of_le h1 ha.size, (ha.block b h1 h2).2⟩
theorem updF_kills (ks : List Nat) : ∀ (σ : Nat → SV) (k : Nat), updF σ (kills ks) k = if k ∈ ks then .dead else σ k := by
  induction ks with
  | nil => intro σ k; simp [kills, updF]
  | cons a r ih =>
    intro σ k
    show updF _ (kills r) k = _
    rw [ih]
    by_cases h1 : k ∈ r
    · simp [h1]
    · by_cases h2 : k = a <;> simp [h1, h2]
theorem SR.lt {w : World} {X : Nat → Prop} {ι : Nat → LS} {σ : Nat → SV} (hs : SR w X ι σ) {k b c o s} (h : σ k = .live b) (h' : ι k = .at c o s) : c < w.heap.size := by
  have := hs.blk k b h
  rw [h'] at this
  cases b with
  | box cs => obtain ⟨_, vs, ty, h1, _⟩ := this; exact (Array.getElem?_eq_some_iff.1 h1).1
  | arr s' es => obtain ⟨_, vs, ty, h1, _⟩ := this; exact (Array.getElem?_eq_some_iff.1 h1).1
theorem SR.Lv_lt {w : World} {X : Nat → Prop} {ι : Nat → LS} {σ : Nat → SV} (hs : SR w X ι σ) {b : Nat} (h : Lv σ ι b) : b < w.heap.size := by
  obtain ⟨k, blk, o, s, h1, h2⟩ := h
  exact hs.lt h1 h2
theorem SR.kill {w : World} {X : Nat → Prop} {ι : Nat → LS} {σ σ' : Nat → SV} (hs : SR w X ι σ) (ks : List Nat) (hks : ∀ k ∈ ks, σ k ≠ .free) (hσ : σ' = fun k => if k ∈ ks then .dead else σ k) :
    SR w X ι σ' ∧ Adv (Lv σ ι) w (Lv σ' ι) w := by
  subst hσ
  have hl : ∀ k b, (if k ∈ ks then SV.dead else σ k) = .live b → σ k = .live b := fun k b h => by
    split at h
    · cases h
    · exact h
  have ha : Adv (Lv σ ι) w (Lv (fun k => if k ∈ ks then .dead else σ k) ι) w := Adv.less (fun b ⟨k, blk, o, s, h1, h2⟩ => ⟨k, blk, o, s, hl _ _ h1, h2⟩) w
  refine ⟨hs.next (Ext.refl _) ha (fun k b h => .inl ⟨hl k b h, fun _ _ _ _ => rfl⟩) (fun k k' b b' c o s o' s' h1 h2 h3 h4 => hs.inj k k' b b' c o s o' s' (hl _ _ h1) (hl _ _ h2) h3 h4) (fun k => ?_), ha⟩
  rw [← hs.free k]
  by_cases h : k ∈ ks
  · simp [h, hks k h]
  · simp [h]
theorem push_old {w w' : World} {o : Obj} (h : w'.heap = w.heap.push o) {b : Nat} (hb : b < w.heap.size) : w'.heap[b]? = w.heap[b]? := by
  rw [h, Array.getElem?_push, if_neg (by omega)]
theorem push_new {w w' : World} {o : Obj} (h : w'.heap = w.heap.push o) : w'.heap[w.heap.size]? = some o := by
  rw [h, Array.getElem?_push, if_pos rfl]
def upI (ι : Nat → LS) (k : Nat) (l : LS) : Nat → LS := fun k' => if k' = k then l else ι k'
theorem SR.alloc {w w' : World} {X : Nat → Prop} {ι : Nat → LS} {σ : Nat → SV} (hs : SR w X ι σ) {k : Nat} (hk : σ k = .free) {cells : Array Value} {ty : TypeId} (hh : w'.heap = w.heap.push (.cells cells ty (0, 0)))
    (h1 : w'.os = w.os) (h2 : w'.tape = w.tape) (h3 : w'.output = w.output) (h4 : w.drawn ≤ w'.drawn) (blk : Blk) (s : Nat)
    (hb : ∀ (Y : Nat → Prop) (ι' : Nat → LS), (∀ v x, VR w (XL X σ ι) ι v x → VR w' Y ι' v x) → (∀ v x, PR w (XL X σ ι) v x → PR w' Y v x) → BR w' Y ι' (.at w.heap.size 0 s) blk) :
    Ext ι (upI ι k (.at w.heap.size 0 s)) ∧ SR w' X (upI ι k (.at w.heap.size 0 s)) (updF σ [(k, .live blk)]) ∧ Adv (Lv σ ι) w (Lv (updF σ [(k, .live blk)]) (upI ι k (.at w.heap.size 0 s))) w' := by
  have hik : ι k = .free := (hs.free k).1 hk
  have he : Ext ι (upI ι k (.at w.heap.size 0 s)) := fun k' hk' => by
    unfold upI; rw [if_neg (fun (e : k' = k) => hk' (by rw [e]; exact hik))]
  have hL : ∀ b, b < w.heap.size → Lv (updF σ [(k, .live blk)]) (upI ι k (.at w.heap.size 0 s)) b → Lv σ ι b := by
    rintro b hb ⟨k', blk', o', s', e1, e2⟩
    by_cases h : k' = k
    · subst h
      simp only [upI, if_true] at e2
      injection e2 with e2; omega
    · simp only [updF, h, if_false] at e1
      simp only [upI, h, if_false] at e2
      exact ⟨k', blk', o', s', e1, e2⟩
  have ha : Adv (Lv σ ι) w (Lv (updF σ [(k, .live blk)]) (upI ι k (.at w.heap.size 0 s))) w' := by
    refine ⟨h1, h2, h3, by rw [hh]; simp, fun b hb hn => ⟨push_old hh hb, fun h => hn (hL b hb h)⟩, fun b vs ty fr h => ⟨vs, ?_, rfl⟩, h4⟩
    rw [push_old hh (Array.getElem?_eq_some_iff.1 h).1]; exact h
  refine ⟨he, hs.next he ha (fun k' b h => ?_) (fun k1 k2 b b' c o s1 o' s2 e1 e2 e3 e4 => ?_) (fun k' => ?_), ha⟩
  · by_cases hkk : k' = k
    · subst hkk
      simp only [updF, if_true] at h
      cases h
      refine .inr ?_
      simp only [upI, if_true]
      exact hb _ _ (fun v x hv => hv.step ha he) (fun v x hv => hv.step ha)
    · simp only [updF, hkk, if_false] at h
      exact .inl ⟨h, fun c o s' hc => push_old hh (hs.lt h hc)⟩
  · by_cases a1 : k1 = k <;> by_cases a2 : k2 = k
    · rw [a1, a2]
    · subst a1
      simp only [upI, if_true] at e3
      simp only [upI, a2, if_false] at e4
      simp only [updF, a2, if_false] at e2
      injection e3 with e3
      have := hs.lt e2 e4
      omega
    · subst a2
      simp only [upI, if_true] at e4
      simp only [upI, a1, if_false] at e3
      simp only [updF, a1, if_false] at e1
      injection e4 with e4
      have := hs.lt e1 e3
      omega
    · simp only [upI, a1, if_false] at e3
      simp only [upI, a2, if_false] at e4
      simp only [updF, a1, if_false] at e1
      simp only [updF, a2, if_false] at e2
      exact hs.inj k1 k2 b b' c o s1 o' s2 e1 e2 e3 e4
  · by_cases h : k' = k
    · subst h; simp [updF, upI]
    · simp only [updF, upI, h, if_false]; exact hs.free k'
theorem SR.set {w w' : World} {X : Nat → Prop} {ι : Nat → LS} {σ : Nat → SV} (hs : SR w X ι σ) {k c o s : Nat} {blk0 : Blk} (hk : σ k = .live blk0) (hi : ι k = .at c o s)
    (h1 : w'.os = w.os) (h2 : w'.tape = w.tape) (h3 : w'.output = w.output) (h4 : w.drawn ≤ w'.drawn) (hz : w'.heap.size = w.heap.size) (hh : ∀ b, b ≠ c → w'.heap[b]? = w.heap[b]?)
    {vs vs' : Array Value} {ty : TypeId} (hv : w.heap[c]? = some (.cells vs ty (0, 0))) (hv' : w'.heap[c]? = some (.cells vs' ty (0, 0))) (hl : vs'.size = vs.size) (blk : Blk)
    (hb : ∀ (Y : Nat → Prop), (∀ v x, VR w (XL X σ ι) ι v x → VR w' Y ι v x) → (∀ v x, PR w (XL X σ ι) v x → PR w' Y v x) → BR w' Y ι (.at c o s) blk) :
    SR w' X ι (updF σ [(k, .live blk)]) ∧ Adv (Lv σ ι) w (Lv (updF σ [(k, .live blk)]) ι) w' := by
  have hL : ∀ b, Lv (updF σ [(k, .live blk)]) ι b → Lv σ ι b := by
    rintro b ⟨k', blk', o', s', e1, e2⟩
    by_cases h : k' = k
    · subst h
      exact ⟨k', blk0, o', s', hk, e2⟩
    · simp only [updF, h, if_false] at e1
      exact ⟨k', blk', o', s', e1, e2⟩
  have hLc : Lv σ ι c := ⟨k, blk0, o, s, hk, hi⟩
  have ha : Adv (Lv σ ι) w (Lv (updF σ [(k, .live blk)]) ι) w' := by
    refine ⟨h1, h2, h3, by omega, fun b hb hn => ⟨hh b (fun e => hn (e ▸ hLc)), fun h => hn (hL b h)⟩, fun b us ty' fr h => ?_, h4⟩
    by_cases e : b = c
    · subst e
      rw [hv] at h
      cases h
      exact ⟨vs', hv', hl⟩
    · exact ⟨us, by rw [hh b e]; exact h, rfl⟩
  refine ⟨hs.next (Ext.refl _) ha (fun k' b h => ?_) (fun k1 k2 b b' c' o1 s1 o2 s2 e1 e2 e3 e4 => ?_) (fun k' => ?_), ha⟩
  · by_cases hkk : k' = k
    · subst hkk
      simp only [updF, if_true] at h
      cases h
      refine .inr ?_
      rw [hi]
      exact hb _ (fun v x hv => hv.step ha (Ext.refl _)) (fun v x hv => hv.step ha)
    · simp only [updF, hkk, if_false] at h
      exact .inl ⟨h, fun c' o' s' hc => hh c' (fun e => hkk (hs.inj k' k b blk0 c' o' s' o s h hk hc (e ▸ hi)))⟩
  · have q : ∀ k' b, (updF σ [(k, .live blk)]) k' = .live b → ∃ b', σ k' = .live b' := fun k' b h => by
      by_cases hkk : k' = k
      · exact ⟨blk0, hkk ▸ hk⟩
      · simp only [updF, hkk, if_false] at h; exact ⟨b, h⟩
    obtain ⟨b1, f1⟩ := q _ _ e1
    obtain ⟨b2, f2⟩ := q _ _ e2
    exact hs.inj k1 k2 b1 b2 c' o1 s1 o2 s2 f1 f2 e3 e4
  · by_cases h : k' = k
    · subst h
      simp only [updF, if_true]
      rw [hi]; simp
    · simp only [updF, h, if_false]; exact hs.free k'
end Go.Ab
namespace Go.Ab
open Go.RowKit
section
variable {P : Program} {w : World} {t : Nat} {ti : TI} {i : TypeInfo} {d : TypeDesc} {z : Value}
theorem TFact.run_und (f : TFact P t ti i d z) : (underlying t).run P w = .ok d w := run_underlying f.und w
theorem TFact.run_info (f : TFact P t ti i d z) : (typeInfo t).run P w = .ok i w := by simp [typeInfo, f.info]
theorem TFact.run_size (f : TFact P t ti i d z) : (sizeOf t).run P w = .ok ti.size w := by simp [sizeOf, f.run_info, f.size]
theorem TFact.run_zero (f : TFact P t ti i d z) : (zeroValue t).run P w = .ok z w := by simp [zeroValue, f.run_info, f.zero]
theorem kind_struct {e : List Bool} {fs : Array Field} {k : TK} (h : kindOf P e t (.struct fs) = some k) : ∃ l b, k = .struct l b ∧ fsOf P fs.toList = some l ∧ (b ≠ [] → eqB P t fs.toList b = true) := by
  simp only [kindOf] at h
  cases hl : fsOf P fs.toList with
  | none => rw [hl] at h; cases h
  | some l =>
    rw [hl] at h
    cases e with
    | nil => cases h; exact ⟨l, [], rfl, rfl, fun h => (h rfl).elim⟩
    | cons b bs =>
      cases hb : eqB P t fs.toList (b :: bs) with
      | false => simp [hb] at h
      | true => simp [hb] at h; exact ⟨l, b :: bs, h.symm, rfl, fun _ => hb⟩
theorem TFact.slice (f : TFact P t ti i d z) {e : Nat} (h : ti.kind = .slice e) : d = .slice e := by
  obtain ⟨b, hk⟩ := f.kind
  rw [h] at hk
  cases d with
  | struct fs => obtain ⟨l, b, h, _⟩ := kind_struct hk; cases h
  | slice e' => simp [kindOf] at hk; exact congrArg _ hk
  | _ => simp [kindOf] at hk
theorem TFact.array (f : TFact P t ti i d z) {n e : Nat} (h : ti.kind = .array n e) : d = .array n e := by
  obtain ⟨b, hk⟩ := f.kind
  rw [h] at hk
  cases d with
  | struct fs => obtain ⟨l, b, h, _⟩ := kind_struct hk; cases h
  | array n' e' => simp only [kindOf, Option.some.injEq, TK.array.injEq] at hk; rw [hk.1, hk.2]
  | _ => simp [kindOf] at hk
theorem TFact.string (f : TFact P t ti i d z) (h : ti.kind = .string) : d = .string := by
  obtain ⟨b, hk⟩ := f.kind
  rw [h] at hk
  cases d with
  | struct fs => obtain ⟨l, b, h, _⟩ := kind_struct hk; cases h
  | string => rfl
  | _ => simp [kindOf] at hk
theorem TFact.int (f : TFact P t ti i d z) {k : IntKind} (h : ti.kind = .int k) : d = .int k := by
  obtain ⟨b, hk⟩ := f.kind
  rw [h] at hk
  cases d with
  | struct fs => obtain ⟨l, b, h, _⟩ := kind_struct hk; cases h
  | int k' => simp [kindOf] at hk; exact congrArg _ hk
  | _ => simp [kindOf] at hk
theorem TFact.bool (f : TFact P t ti i d z) (h : ti.kind = .bool) : d = .bool := by
  obtain ⟨b, hk⟩ := f.kind
  rw [h] at hk
  cases d with
  | struct fs => obtain ⟨l, b, h, _⟩ := kind_struct hk; cases h
  | bool => rfl
  | _ => simp [kindOf] at hk
theorem TFact.ptr (f : TFact P t ti i d z) (h : ti.kind = .ptr) : ∃ e, d = .pointer e := by
  obtain ⟨b, hk⟩ := f.kind
  rw [h] at hk
  cases d with
  | struct fs => obtain ⟨l, b, h, _⟩ := kind_struct hk; cases h
  | pointer e => exact ⟨e, rfl⟩
  | _ => simp [kindOf] at hk
theorem TFact.struct (f : TFact P t ti i d z) {fs : List (Nat × Nat × Nat)} {e : List Bool} (h : ti.kind = .struct fs e) : ∃ flds, d = .struct flds ∧ fsOf P flds.toList = some fs ∧ (e ≠ [] → eqB P t flds.toList e = true) := by
  obtain ⟨b, hk⟩ := f.kind
  rw [h] at hk
  cases d with
  | struct flds => obtain ⟨l, b, h, h1, h2⟩ := kind_struct hk; cases h; exact ⟨flds, rfl, h1, h2⟩
  | _ => simp [kindOf] at hk
def dAgg : TypeDesc → Bool
  | .struct _ | .array _ _ => true
  | _ => false
def kAgg : TK → Bool
  | .struct .. => true
  | .array .. => true
  | _ => false
theorem kind_agg {e : List Bool} {k : TK} (h : kindOf P e t d = some k) : kAgg k = dAgg d := by
  cases d with
  | struct fs => obtain ⟨l, b, h, _⟩ := kind_struct h; subst h; rfl
  | _ => simp [kindOf] at h <;> subst h <;> rfl
theorem run_isAgg_d (h : P.underlying t = some d) : (Go.isAgg t).run P w = .ok (dAgg d) w := by
  simp only [Go.isAgg, Sem.run_bind, run_underlying h, Result.andThen_ok]
  cases d <;> rfl
theorem TFact.isAgg (f : TFact P t ti i d z) : (Go.isAgg t).run P w = .ok ti.agg w := by
  obtain ⟨b, hk⟩ := f.kind
  rw [run_isAgg_d f.und, ← kind_agg hk]
  unfold TI.agg kAgg
  cases ti.kind <;> rfl
end
theorem fsOf_get {P : Program} : ∀ {l : List Field} {fs : List (Nat × Nat × Nat)}, fsOf P l = some fs → fs.length = l.length ∧ ∀ (j : Nat) (f : Field), l[j]? = some f → ∃ i, P.info? f.type = some i ∧ i.size ≠ 0 ∧ fs[j]? = some (f.offset, f.type, i.size)
  | [], fs, h => by cases h; exact ⟨rfl, fun j f h => by simp at h⟩
  | f :: r, fs, h => by
    unfold fsOf at h
    split at h
    · rename_i i l hi hl
      cases hz : Nat.beq i.size 0 with
      | true => rw [hz] at h; cases h
      | false =>
        rw [hz] at h
        cases h
        have hz' : i.size ≠ 0 := fun e => by rw [e] at hz; cases hz
        obtain ⟨h1, h2⟩ := fsOf_get hl
        refine ⟨by simp [h1], fun j g hg => ?_⟩
        cases j with
        | zero => simp at hg; subst hg; exact ⟨i, hi, hz', rfl⟩
        | succ j => simp at hg; simpa using h2 j g hg
    · cases h
section
variable {w : World} {X : Nat → Prop} {ι : Nat → LS} {v : Value}
theorem VR.int_inv {k : IntKind} {n : Int} (h : VR w X ι v (.int k n)) : v = .int k n := by cases h with | pure _ _ h => cases h; rfl
theorem VR.bool_inv {b : Bool} (h : VR w X ι v (.bool b)) : v = .bool b := by cases h with | pure _ _ h => cases h; rfl
theorem VR.lit_inv {b : Bool} (h : VR w X ι v (.lit b)) : v = .bool b := by cases h with | pure _ _ h => cases h; rfl
theorem VR.str_inv {s : ByteArray} (h : VR w X ι v (.str s)) : v = .string s := by cases h with | pure _ _ h => cases h; rfl
theorem VR.nils_inv (h : VR w X ι v .nils) : v = .slice none 0 0 := by cases h with | pure _ _ h => cases h; rfl
theorem VR.nilp_inv (h : VR w X ι v .nilp) : v = .pointer none := by cases h with | pure _ _ h => cases h; rfl
theorem VR.emp_inv (h : VR w X ι v .emp) : ∃ a, v = .slice a 0 0 := by cases h with | pure _ _ h => cases h; exact ⟨_, rfl⟩
theorem VR.bptr_inv {k o : Nat} (h : VR w X ι v (.bptr k o)) : ∃ b c s, ι k = .at b c s ∧ v = .pointer (some ⟨b, c + o, none⟩) := by
  cases h with
  | pure _ _ h => cases h
  | bptr _ _ b c s h => exact ⟨b, c, s, h, rfl⟩
theorem VR.ptr_inv {k i o : Nat} (h : VR w X ι v (.ptr k i o)) : ∃ b c s, ι k = .at b c s ∧ v = .pointer (some ⟨b, c + (i * s + o), none⟩) := by
  cases h with
  | pure _ _ h => cases h
  | ptr _ _ _ b c s h => exact ⟨b, c, s, h, rfl⟩
theorem VR.agg_inv {xs : List AV} (h : VR w X ι v (.agg xs)) : ∃ vs : Array Value, v = .agg vs ∧ vs.size = xs.length ∧ ∀ (j : Nat) (u : Value) (x : AV), vs[j]? = some u → xs[j]? = some x → VR w X ι u x := by
  cases h with
  | pure _ _ h => cases h
  | agg vs _ hl h => exact ⟨vs, rfl, hl, h⟩
theorem VR.tup_inv {xs : List AV} (h : VR w X ι v (.tup xs)) : ∃ vs : Array Value, v = .tuple vs ∧ vs.size = xs.length ∧ ∀ (j : Nat) (u : Value) (x : AV), vs[j]? = some u → xs[j]? = some x → VR w X ι u x := by
  cases h with
  | pure _ _ h => cases h
  | tup vs _ hl h => exact ⟨vs, rfl, hl, h⟩
theorem VR.one {x : AV} (h : VR w X ι v x) (hx : okc x = true) : v.oneCell' = true := by
  cases h with
  | pure _ _ h => cases h <;> rfl
  | un => cases hx
  | agg => cases hx
  | tup => cases hx
  | _ => rfl
theorem VR.pr {x : AV} (h : VR w X ι v x) (hx : okp x = true) : PR w X v x := by
  cases h with
  | pure _ _ h => exact h
  | un => cases hx
  | bptr => cases hx
  | ptr => cases hx
  | rptr => cases hx
  | own => cases hx
  | own0 => cases hx
  | agg => cases hx
  | tup => cases hx
  | fn f as bs xs ys ha hb h h' =>
    cases xs with
    | cons => cases hx
    | nil => cases ys with
      | cons => cases hx
      | nil =>
        have e1 : as = #[] := by simpa using ha
        have e2 : bs = #[] := by simpa using hb
        subst e1 e2
        exact .fn f
theorem cellsOf_rel {x : AV} {cs : List AV} (h : VR w X ι v x) (hc : cellsOf x = some cs) : v.cells.size = cs.length ∧ (∀ (j : Nat) (u : Value) (y : AV), v.cells[j]? = some u → cs[j]? = some y → u.oneCell' = true ∧ VR w X ι u y) ∧ cs.all okc = true := by
  have key : okc x = true → cs = [x] → v.cells.size = cs.length ∧ (∀ (j : Nat) (u : Value) (y : AV), v.cells[j]? = some u → cs[j]? = some y → u.oneCell' = true ∧ VR w X ι u y) ∧ cs.all okc = true := by
    intro h1 h2
    subst h2
    have h3 := h.one h1
    have h4 : v.cells = #[v] := by cases v <;> first | rfl | cases h3
    rw [h4]
    refine ⟨rfl, fun j u y hu hy => ?_, by simp [h1]⟩
    cases j with
    | zero => simp at hu hy; subst hu hy; exact ⟨h3, h⟩
    | succ j => simp at hy
  cases x with
  | agg xs =>
    simp only [cellsOf] at hc
    cases ha : xs.all okc with
    | false => rw [ha] at hc; cases hc
    | true =>
      rw [ha] at hc
      cases hc
      obtain ⟨vs, rfl, hl, hh⟩ := h.agg_inv
      refine ⟨hl, fun j u y hu hy => ?_, ha⟩
      have := hh j u y hu hy
      exact ⟨this.one (List.all_eq_true.1 ha y (List.mem_of_getElem? hy)), this⟩
  | tup xs => cases hc
  | un => cases hc
  | _ => cases hc; exact key rfl rfl
end
end Go.Ab
namespace Go.Ab
open Go.RowKit
section
variable {cx : Cx} {o : Oper} {a : Act} {w : World} {X : Nat → Prop} {ι : Nat → LS} {σ : Nat → SV} {E : Nat → AV} {al : Nat} {K : AV → Upd → List Nat → Prop}
theorem VR.rptr_inv {v : Value} {s i o : Nat} {es : List (List AV)} (h : VR w X ι v (.rptr s es i o)) : ∃ (b c : Nat) (f : Nat → Nat → Value), v = .pointer (some ⟨b, c + (i * s + o), none⟩) ∧ ¬ X b ∧ b < w.heap.size ∧
    (∀ (i : Nat) (e : List AV), es[i]? = some e → e.length = s) ∧
    (∀ (i j : Nat) (e : List AV) (x : AV), es[i]? = some e → e[j]? = some x → w.cell? ⟨b, c + (i * s + j), none⟩ = some (f i j) ∧ (f i j).oneCell' = true) ∧
    (∀ (i j : Nat) (e : List AV) (x : AV), es[i]? = some e → e[j]? = some x → PR w X (f i j) x) := by
  cases h with
  | pure _ _ h => cases h
  | rptr b c _ _ _ _ f hX hb hs h1 h2 => exact ⟨b, c, f, rfl, hX, hb, hs, h1, h2⟩
theorem VR.row_inv {v : Value} {s : Nat} {es : List (List AV)} (h : VR w X ι v (.row s es)) : (es = [] ∧ ∃ a c, v = .slice a 0 c) ∨ ∃ (b p c : Nat) (f : Nat → Nat → Value), v = .slice (some ⟨b, p, none⟩) es.length c ∧ ¬ X b ∧ b < w.heap.size ∧ es.length ≤ c ∧
    (∀ (i : Nat) (e : List AV), es[i]? = some e → e.length = s) ∧
    (∀ (i j : Nat) (e : List AV) (x : AV), es[i]? = some e → e[j]? = some x → w.cell? ⟨b, p + (i * s + j), none⟩ = some (f i j) ∧ (f i j).oneCell' = true) ∧
    (∀ (i j : Nat) (e : List AV) (x : AV), es[i]? = some e → e[j]? = some x → PR w X (f i j) x) := by
  cases h with
  | pure _ _ h => cases h with
    | row0 a c _ => exact .inl ⟨rfl, a, c, rfl⟩
    | row b p c _ _ f hX hb hc hs h1 h2 => exact .inr ⟨b, p, c, f, rfl, hX, hb, hc, hs, h1, h2⟩
theorem VR.own_inv {v : Value} {s k i n : Nat} {q : Q} (h : VR w X ι v (.own s k i n q)) :
    (∃ c b p vs ty, v = .slice (some ⟨b, p + i * s, none⟩) n c ∧ ι k = .at b p s ∧ q.fits n c ∧ w.heap[b]? = some (.cells vs ty (0, 0)) ∧ p + (i + c) * s ≤ vs.size) ∨ (∃ a, v = .slice a 0 0 ∧ n = 0 ∧ ι k ≠ .free ∧ q.fits 0 0) := by
  cases h with
  | pure _ _ h => cases h
  | own _ _ _ _ c b p _ vs ty h hq hb hc => exact .inl ⟨c, b, p, vs, ty, rfl, h, hq, hb, hc⟩
  | own0 _ _ _ a _ h hq => exact .inr ⟨a, rfl, rfl, h, hq⟩
theorem VR.fn_inv {v : Value} {f : Nat} {xs ys : List AV} (h : VR w X ι v (.fn f xs ys)) : ∃ as bs : Array Value, v = .func (.func f) as bs ∧ VRs w X ι as.toList xs ∧ VRs w X ι bs.toList ys := by
  cases h with
  | pure _ _ h => cases h with
    | fn _ => exact ⟨#[], #[], rfl, ⟨rfl, fun j v x h _ => by simp at h⟩, ⟨rfl, fun j v x h _ => by simp at h⟩⟩
  | fn _ as bs _ _ ha hb h h' => exact ⟨as, bs, rfl, ⟨by simpa using ha, fun j v x h1 h2 => h j v x (by simpa using h1) h2⟩, ⟨by simpa using hb, fun j v x h1 h2 => h' j v x (by simpa using h1) h2⟩⟩
def Good (cx : Cx) (o : Oper) (a : Act) (w : World) (X : Nat → Prop) (ι : Nat → LS) (σ : Nat → SV) (K : AV → Upd → List Nat → Prop) : Prop := ∃ v u rd, K v u rd ∧ Runs cx.P o a w X ι σ v u
theorem Good.same {v : AV} {cv : Value} {rd : List Nat} (hK : K v [] rd) (hs : SR w X ι σ) (h : (execOp a.eval o).run cx.P w = .ok (.value cv) w) (hv : VR w (XL X σ ι) ι cv v) : Good cx o a w X ι σ K := ⟨v, [], rd, hK, Runs.same h hs hv⟩
theorem s_move {x : Operand} (ho : o.op = .move x ∨ o.op = .assign x) (hs : SR w X ι σ) (hE : ∀ x, VR w (XL X σ ι) ι (a.eval x) (ev E x)) (h : u1 [ev E x] fun v => fo v fun v => K v [] []) : Good cx o a w X ι σ K := by
  simp only [u1, fo_iff] at h
  refine Good.same h hs (cv := a.eval x) ?_ (hE x)
  rcases ho with ho | ho <;> simp [execOp, ho]
theorem s_pick {c x y : Operand} (ho : o.op = .pick c x y) (hs : SR w X ι σ) (hE : ∀ x, VR w (XL X σ ι) ι (a.eval x) (ev E x))
    (h : opV cx al (.pick c x y) [ev E c, ev E x, ev E y] σ K) : Good cx o a w X ι σ K := by
  have hc := hE c
  simp only [opV, u3] at h
  cases hcc : ev E c with
  | lit b =>
    rw [hcc] at h hc
    have e := hc.lit_inv
    cases b with
    | true => simp only [cond_true, fo_iff] at h; exact Good.same h hs (cv := a.eval x) (by simp [execOp, ho, e, asBool]) (hE x)
    | false => simp only [cond_false, fo_iff] at h; exact Good.same h hs (cv := a.eval y) (by simp [execOp, ho, e, asBool]) (hE y)
  | bool b =>
    rw [hcc] at h hc
    have e := hc.bool_inv
    simp only [fo_iff] at h
    cases b with
    | true => exact Good.same (h.1 rfl) hs (cv := a.eval x) (by simp [execOp, ho, e, asBool]) (hE x)
    | false => exact Good.same (h.2 rfl) hs (cv := a.eval y) (by simp [execOp, ho, e, asBool]) (hE y)
  | _ => rw [hcc] at h; exact h.elim
theorem box_BR {w' : World} {cs : List AV} {cells : Array Value} {ty : TypeId} (hh : w'.heap = w.heap.push (.cells cells ty (0, 0))) (hl : cells.size = cs.length)
    (h : ∀ (j : Nat) (u : Value) (x : AV), cells[j]? = some u → cs[j]? = some x → u.oneCell' = true ∧ VR w (XL X σ ι) ι u x) (Y : Nat → Prop) (ι' : Nat → LS) (h1 : ∀ v x, VR w (XL X σ ι) ι v x → VR w' Y ι' v x) :
    BR w' Y ι' (.at w.heap.size 0 0) (.box cs) := ⟨rfl, cells, ty, push_new hh, hl, fun j v x hv hx => ⟨(h j v x hv hx).1, h1 _ _ (h j v x hv hx).2⟩⟩
theorem s_alloc {e : Nat} (hT : TOk cx) (ho : o.op = .alloc e) (hs : SR w X ι σ) (h : opV cx al (.alloc e) [] σ K) : Good cx o a w X ι σ K := by
  simp only [opV, opK_iff, freeK_iff] at h
  obtain ⟨ti, ht, hf, hK⟩ := h
  obtain ⟨i, d, z, f⟩ := hT.fact ht
  have hr : (execOp a.eval o).run cx.P w = .ok (.value (.pointer (some ⟨w.heap.size, 0, none⟩))) { w with heap := w.heap.push (.cells z.cells e) } := by
    simp [execOp, ho, Instr.alloc, newVar, newRow, f.run_zero]
  have hl : z.cells.size = ti.zero.length := by rw [f.zs]; simp
  have hb : ∀ (j : Nat) (u : Value) (x : AV), z.cells[j]? = some u → ti.zero[j]? = some x → u.oneCell' = true ∧ VR w (XL X σ ι) ι u x := fun j u x hu hx => by
    rw [f.zs, List.getElem?_map] at hx
    have hu' : z.cells.toList[j]? = some u := by simpa using hu
    rw [hu'] at hx
    cases hx
    have hok : okp (cv0 u) = true := List.all_eq_true.1 f.zok _ (List.mem_map.2 ⟨u, List.mem_of_getElem? hu', rfl⟩)
    exact ⟨(cv0_PR w (XL X σ ι) u hok).2, .pure _ _ (cv0_PR w (XL X σ ι) u hok).1⟩
  obtain ⟨he, hs', ha⟩ := hs.alloc (w' := { w with heap := w.heap.push (.cells z.cells e) }) hf rfl rfl rfl rfl (Nat.le_refl _) (.box ti.zero) 0 (fun Y ι' h1 _ => box_BR rfl hl hb Y ι' h1)
  exact ⟨_, _, _, hK, Runs.val hr he hs' (.bptr al 0 w.heap.size 0 0 (by simp [upI])) ha⟩
theorem s_box {e : Nat} {x : Operand} (ho : o.op = .box e x) (hs : SR w X ι σ) (hE : ∀ x, VR w (XL X σ ι) ι (a.eval x) (ev E x)) (h : opV cx al (.box e x) [ev E x] σ K) : Good cx o a w X ι σ K := by
  simp only [opV, opK_iff, freeK_iff, u1] at h
  obtain ⟨cs, hc, hf, hK⟩ := h
  obtain ⟨hl, hb, _⟩ := cellsOf_rel (hE x) hc
  have hr : (execOp a.eval o).run cx.P w = .ok (.value (.pointer (some ⟨w.heap.size, 0, none⟩))) { w with heap := w.heap.push (.cells (a.eval x).cells e) } := by
    simp [execOp, ho, Instr.box, newVar, newRow]
  obtain ⟨he, hs', ha⟩ := hs.alloc (w' := { w with heap := w.heap.push (.cells (a.eval x).cells e) }) hf rfl rfl rfl rfl (Nat.le_refl _) (.box cs) 0 (fun Y ι' h1 _ => box_BR rfl hl hb Y ι' h1)
  exact ⟨_, _, _, hK, Runs.val hr he hs' (.bptr al 0 w.heap.size 0 0 (by simp [upI])) ha⟩
theorem s_nilCheck {x : Operand} (ho : o.op = .nilCheck x) (hs : SR w X ι σ) (hE : ∀ x, VR w (XL X σ ι) ι (a.eval x) (ev E x)) (h : opV cx al (.nilCheck x) [ev E x] σ K) : Good cx o a w X ι σ K := by
  have hx := hE x
  simp only [opV, u1] at h
  have key : ∀ ad, a.eval x = .pointer (some ad) → (execOp a.eval o).run cx.P w = .ok (.value (a.eval x)) w := fun ad e => by simp [execOp, ho, e]
  cases hc : ev E x with
  | bptr k p => rw [hc] at h hx; simp only [fo_iff] at h; obtain ⟨b, c, s, h1, h2⟩ := hx.bptr_inv; exact Good.same h hs (key _ h2) hx
  | ptr k i p => rw [hc] at h hx; simp only [fo_iff] at h; obtain ⟨b, c, s, h1, h2⟩ := hx.ptr_inv; exact Good.same h hs (key _ h2) hx
  | rptr s es i p =>
    rw [hc] at h hx
    simp only [fo_iff] at h
    obtain ⟨b, c, f, h2, _⟩ := hx.rptr_inv
    exact Good.same h hs (key _ h2) hx
  | _ => rw [hc] at h; exact h.elim
theorem s_unOp {op : UnOp} {t : Nat} {x : Operand} (ho : o.op = .unOp op t x) (hs : SR w X ι σ) (hE : ∀ x, VR w (XL X σ ι) ι (a.eval x) (ev E x)) (h : opV cx al (.unOp op t x) [ev E x] σ K) : Good cx o a w X ι σ K := by
  have hx := hE x
  simp only [opV, u1] at h
  cases hc : ev E x with
  | lit b =>
    rw [hc] at h hx
    cases op <;> first | exact h.elim | skip
    exact Good.same h hs (cv := .bool (!b)) (by simp [execOp, ho, hx.lit_inv, Op.unary]) (.pure _ _ (.lit _))
  | bool b =>
    rw [hc] at h hx
    cases op <;> first | exact h.elim | skip
    exact Good.same h hs (cv := .bool (!b)) (by simp [execOp, ho, hx.bool_inv, Op.unary]) (.pure _ _ (.bool _))
  | int k n =>
    rw [hc] at h hx
    cases op <;> first | exact h.elim | skip
    exact Good.same h hs (cv := .int k (k.wrap (0 - n))) (by simp [execOp, ho, hx.int_inv, Op.unary, Op.intArith]) (.pure _ _ (.int _ _))
  | _ => rw [hc] at h; cases op <;> exact h.elim
theorem s_convert {s t : Nat} {x : Operand} (hT : TOk cx) (ho : o.op = .convert s t x) (hs : SR w X ι σ) (hE : ∀ x, VR w (XL X σ ι) ι (a.eval x) (ev E x)) (h : opV cx al (.convert s t x) [ev E x] σ K) : Good cx o a w X ι σ K := by
  have hx := hE x
  simp only [opV, u1] at h
  split at h
  · rename_i k n _ _ _ _ k' _ _ _ hc h1 h2
    rw [hc] at hx
    obtain ⟨i1, d1, z1, f1⟩ := hT.fact h1
    obtain ⟨i2, d2, z2, f2⟩ := hT.fact h2
    have e1 := f1.int rfl
    have e2 := f2.int rfl
    exact Good.same h hs (cv := .int k' (k'.wrap n)) (by simp [execOp, ho, hx.int_inv, convert, f1.run_und, f2.run_und, e1, e2, Conv.intToInt]) (.pure _ _ (.int _ _))
  · exact h.elim
theorem s_extract {n : Nat} {x : Operand} (ho : o.op = .extract x n) (hs : SR w X ι σ) (hE : ∀ x, VR w (XL X σ ι) ι (a.eval x) (ev E x)) (h : opV cx al (.extract x n) [ev E x] σ K) : Good cx o a w X ι σ K := by
  have hx := hE x
  simp only [opV, u1] at h
  cases hc : ev E x with
  | tup xs =>
    rw [hc] at h hx
    simp only [opK_iff, fo_iff] at h
    obtain ⟨y, hy, hK⟩ := h
    obtain ⟨vs, e, hl, hh⟩ := hx.tup_inv
    have hn : n < vs.size := by rw [hl]; exact (List.getElem?_eq_some_iff.1 hy).1
    exact Good.same hK hs (cv := vs[n]) (by simp [execOp, ho, e, Instr.extract, hn]) (hh n _ _ (by simp [hn]) hy)
  | _ => rw [hc] at h; exact h.elim
theorem fieldOf_fact (hT : TOk cx) {t f d u s : Nat} (h : fieldOf (cx.T t) f = some (d, u, s)) : ∃ flds fld i, cx.P.underlying t = some (.struct flds) ∧ flds[f]? = some fld ∧ fld.offset = d ∧ fld.type = u ∧ cx.P.info? u = some i ∧ i.size = s ∧ s ≠ 0 := by
  unfold fieldOf at h
  split at h
  · rename_i fs e _ _ _ ht
    obtain ⟨i, d', z, tf⟩ := hT.fact ht
    obtain ⟨flds, e1, e2, _⟩ := tf.struct rfl
    obtain ⟨hl, hg⟩ := fsOf_get e2
    have hf : f < flds.toList.length := by rw [← hl]; exact (List.getElem?_eq_some_iff.1 h).1
    obtain ⟨i', h1, h3, h2⟩ := hg f flds.toList[f] (by simp)
    rw [h] at h2
    cases h2
    exact ⟨flds, flds.toList[f], i', by rw [tf.und, e1], by simp, rfl, rfl, h1, rfl, h3⟩
  · cases h
theorem addr_add (b o n : Nat) : (⟨b, o, none⟩ : Addr).add n = ⟨b, o + n, none⟩ := by
  unfold Addr.add; split <;> simp_all
theorem s_fieldAddr {t f : Nat} {x : Operand} (hT : TOk cx) (ho : o.op = .fieldAddr t x f) (hs : SR w X ι σ) (hE : ∀ x, VR w (XL X σ ι) ι (a.eval x) (ev E x)) (h : opV cx al (.fieldAddr t x f) [ev E x] σ K) : Good cx o a w X ι σ K := by
  have hx := hE x
  simp only [opV, u1, opK_iff] at h
  obtain ⟨⟨d, u, s⟩, hf, h⟩ := h
  obtain ⟨flds, fld, i', e1, e2, e3, e4, e5, e6, e7⟩ := fieldOf_fact hT hf
  subst e3 e4 e6
  have key : ∀ ad, a.eval x = .pointer (some ad) → (execOp a.eval o).run cx.P w = .ok (.value (.pointer (some (ad.add fld.offset)))) w := fun ad e => by
    simp [execOp, ho, e, Instr.fieldAt, run_underlying e1, e2, Instr.sureAddr, fieldPlace, sizeOf, typeInfo, e5, e7]
  cases hc : ev E x with
  | bptr k p =>
    rw [hc] at h hx
    obtain ⟨b, c, s', h1, h2⟩ := hx.bptr_inv
    refine Good.same h hs (key _ h2) ?_
    rw [addr_add, Nat.add_assoc]
    exact .bptr _ _ _ _ _ h1
  | ptr k i p =>
    rw [hc] at h hx
    obtain ⟨b, c, s', h1, h2⟩ := hx.ptr_inv
    refine Good.same h hs (key _ h2) ?_
    rw [addr_add, Nat.add_assoc, Nat.add_assoc]
    exact .ptr _ _ _ _ _ _ h1
  | rptr s' es i p =>
    rw [hc] at h hx
    obtain ⟨b, c, g, h2, h3, h4, h5, h6, h7⟩ := hx.rptr_inv
    refine Good.same h hs (key _ h2) ?_
    rw [addr_add, Nat.add_assoc, Nat.add_assoc]
    exact .rptr _ _ _ _ _ _ g h3 h4 h5 h6 h7
  | _ => rw [hc] at h; exact h.elim
end
end Go.Ab
namespace Go.Ab
open Go.RowKit
theorem sub_spec (cs : List AV) : ∀ (n o : Nat) (vs : List AV), sub cs o n = some vs → vs.length = n ∧ ∀ j, j < n → ∃ y, vs[j]? = some y ∧ cs[o + j]? = some y
  | 0, o, vs, h => by
    simp only [sub] at h
    cases h
    exact ⟨rfl, fun j hj => by omega⟩
  | n + 1, o, vs, h => by
    unfold sub at h
    split at h
    · rename_i c hc
      split at h
      · rename_i r hr
        cases h
        obtain ⟨h1, h2⟩ := sub_spec cs n (o + 1) r hr
        refine ⟨by simp [h1], fun j hj => ?_⟩
        cases j with
        | zero => exact ⟨c, rfl, hc⟩
        | succ j =>
          obtain ⟨y, a, b⟩ := h2 j (by omega)
          exact ⟨y, by simpa using a, by rw [show o + (j + 1) = o + 1 + j by omega]; exact b⟩
      · cases h
    · cases h
section
variable {cx : Cx} {o : Oper} {a : Act} {w : World} {X : Nat → Prop} {ι : Nat → LS} {σ : Nat → SV} {E : Nat → AV} {al : Nat} {K : AV → Upd → List Nat → Prop}
theorem finW_load (hT : TOk cx) {t : Nat} {cs : List AV} {p : Nat} {K : AV → Prop} (h : finW (cx.T t) cs p K) {b q : Nat}
    (hc : ∀ (j : Nat) (y : AV), cs[j]? = some y → ∃ u, w.cell? ⟨b, q + j, none⟩ = some u ∧ VR w (XL X σ ι) ι u y) : ∃ v cv, K v ∧ (loadVar t ⟨b, q + p, none⟩).run cx.P w = .ok cv w ∧ VR w (XL X σ ι) ι cv v := by
  unfold finW at h
  split at h
  · exact h.elim
  · rename_i ti ht
    obtain ⟨i, d, z, f⟩ := hT.fact ht
    cases ha : ti.agg with
    | true =>
      rw [ha] at h
      simp only [cond_true, opK_iff] at h
      obtain ⟨vs, hv, hK⟩ := h
      obtain ⟨hl, hg⟩ := sub_spec cs _ _ _ hv
      have hcell : ∀ j, j < ti.size → ∃ u y, w.cell? ⟨b, q + p + j, none⟩ = some u ∧ vs[j]? = some y ∧ VR w (XL X σ ι) ι u y := fun j hj => by
        obtain ⟨y, h1, h2⟩ := hg j hj
        obtain ⟨u, h3, h4⟩ := hc _ _ h2
        exact ⟨u, y, by rw [show q + p + j = q + (p + j) by omega]; exact h3, h1, h4⟩
      let g : Nat → Value := fun j => (w.cell? ⟨b, q + p + j, none⟩).getD undef
      have hrun := run_loadCells (P := cx.P) w ⟨b, q + p, none⟩ ti.size g (fun j hj => by
        obtain ⟨u, y, h1, _⟩ := hcell j hj
        rw [addr_add]
        show _ = some ((w.cell? ⟨b, q + p + j, none⟩).getD undef)
        rw [h1]; rfl)
      refine ⟨_, .agg ((List.range ti.size).map g).toArray, hK, ?_, .agg _ _ (by simp [hl]) fun j u x hu hx => ?_⟩
      · simp [loadVar, f.isAgg, ha, f.run_size, hrun]
      · have hj : j < ti.size := by rw [← hl]; exact (List.getElem?_eq_some_iff.1 hx).1
        obtain ⟨u', y, h1, h2, h3⟩ := hcell j hj
        rw [hx] at h2
        cases h2
        simp [hj] at hu
        subst hu
        show VR w _ ι ((w.cell? ⟨b, q + p + j, none⟩).getD undef) x
        rw [h1]
        exact h3
    | false =>
      rw [ha] at h
      simp only [cond_false, opK_iff, fo_iff] at h
      obtain ⟨y, hy, hK⟩ := h
      obtain ⟨u, h1, h2⟩ := hc _ _ hy
      exact ⟨y, u, hK, by simp [loadVar, f.isAgg, ha, h1], h2⟩
theorem finW_part (hT : TOk cx) {t : Nat} {cs : List AV} {p : Nat} {K : AV → Prop} (h : finW (cx.T t) cs p K) {vs : Array Value} (hl : vs.size = cs.length)
    (hc : ∀ (j : Nat) (u : Value) (y : AV), vs[j]? = some u → cs[j]? = some y → VR w (XL X σ ι) ι u y) : ∃ v cv, K v ∧ (part t vs p).run cx.P w = .ok cv w ∧ VR w (XL X σ ι) ι cv v := by
  unfold finW at h
  split at h
  · exact h.elim
  · rename_i ti ht
    obtain ⟨i, d, z, f⟩ := hT.fact ht
    cases ha : ti.agg with
    | true =>
      rw [ha] at h
      simp only [cond_true, opK_iff] at h
      obtain ⟨xs, hv, hK⟩ := h
      obtain ⟨hl', hg⟩ := sub_spec cs _ _ _ hv
      have hle : p + ti.size ≤ vs.size ∨ ti.size = 0 := by
        by_cases h0 : ti.size = 0
        · exact .inr h0
        · obtain ⟨y, _, h2⟩ := hg (ti.size - 1) (by omega)
          have := (List.getElem?_eq_some_iff.1 h2).1
          exact .inl (by omega)
      refine ⟨_, .agg (vs.extract p (p + ti.size)), hK, by simp [part, f.isAgg, ha, f.run_size], .agg _ _ ?_ fun j u x hu hx => ?_⟩
      · rw [Array.size_extract, hl']
        omega
      · have hj : j < ti.size := by rw [← hl']; exact (List.getElem?_eq_some_iff.1 hx).1
        obtain ⟨y, h1, h2⟩ := hg j hj
        rw [hx] at h1
        cases h1
        rw [Array.getElem?_extract] at hu
        split at hu
        · exact hc (p + j) u x hu h2
        · cases hu
    | false =>
      rw [ha] at h
      simp only [cond_false, opK_iff, fo_iff] at h
      obtain ⟨y, hy, hK⟩ := h
      have hp : p < vs.size := by rw [hl]; exact (List.getElem?_eq_some_iff.1 hy).1
      exact ⟨y, vs[p], hK, by simp [part, f.isAgg, ha, hp], hc p _ _ (by simp [hp]) hy⟩
theorem cell_of_heap {b : Nat} {vs : Array Value} {ty : TypeId} {fr : Nat × Nat} (h : w.heap[b]? = some (.cells vs ty fr)) (p : Nat) : w.cell? ⟨b, p, none⟩ = vs[p]? := by
  simp [World.cell?, h]
theorem SR.box {k : Nat} {cs : List AV} (hs : SR w X ι σ) (h : σ k = .live (.box cs)) {b c s : Nat} (hi : ι k = .at b c s) :
    c = 0 ∧ ∃ (vs : Array Value) (ty : TypeId), w.heap[b]? = some (.cells vs ty (0, 0)) ∧ vs.size = cs.length ∧ ∀ (j : Nat) (v : Value) (x : AV), vs[j]? = some v → cs[j]? = some x → v.oneCell' = true ∧ VR w (XL X σ ι) ι v x := by
  have := hs.blk k _ h
  rw [hi] at this
  exact this
theorem SR.arr {k s' : Nat} {es : List (List AV)} (hs : SR w X ι σ) (h : σ k = .live (.arr s' es)) {b c s : Nat} (hi : ι k = .at b c s) :
    s = s' ∧ ∃ (vs : Array Value) (ty : TypeId), w.heap[b]? = some (.cells vs ty (0, 0)) ∧ (∀ (i : Nat) (e : List AV), es[i]? = some e → e.length = s) ∧
      ∀ (i j : Nat) (e : List AV) (x : AV), es[i]? = some e → e[j]? = some x → ∃ v, vs[c + (i * s + j)]? = some v ∧ v.oneCell' = true ∧ PR w (XL X σ ι) v x := by
  have := hs.blk k _ h
  rw [hi] at this
  exact this
theorem s_load {t : Nat} {x : Operand} (hT : TOk cx) (ho : o.op = .load t x) (hs : SR w X ι σ) (hE : ∀ x, VR w (XL X σ ι) ι (a.eval x) (ev E x)) (h : opV cx al (.load t x) [ev E x] σ K) : Good cx o a w X ι σ K := by
  have hx := hE x
  simp only [opV, u1] at h
  have key : ∀ ad cv, a.eval x = .pointer (some ad) → (loadVar t ad).run cx.P w = .ok cv w → (execOp a.eval o).run cx.P w = .ok (.value cv) w := fun ad cv e h => by
    simp [execOp, ho, e, Instr.loadAt, Instr.sureAddr, h]
  cases hc : ev E x with
  | bptr k p =>
    rw [hc] at h hx
    simp only [boxK_iff] at h
    obtain ⟨cs, hk, h⟩ := h
    obtain ⟨b, c, s, h1, h2⟩ := hx.bptr_inv
    obtain ⟨rfl, vs, ty, h3, h4, h5⟩ := hs.box hk h1
    obtain ⟨v, cv, hK, hr, hv⟩ := finW_load (w := w) (X := X) (ι := ι) (σ := σ) hT h (b := b) (q := 0) (fun j y hy => by
      have hj : j < vs.size := by rw [h4]; exact (List.getElem?_eq_some_iff.1 hy).1
      exact ⟨vs[j], by rw [cell_of_heap h3]; simp [hj], (h5 j _ _ (by simp [hj]) hy).2⟩)
    exact Good.same hK hs (key _ _ h2 hr) hv
  | ptr k i p =>
    rw [hc] at h hx
    simp only [arrK_iff] at h
    obtain ⟨s', es, hk, e, he, h⟩ := h
    obtain ⟨b, c, s, h1, h2⟩ := hx.ptr_inv
    obtain ⟨rfl, vs, ty, h3, h4, h5⟩ := hs.arr hk h1
    obtain ⟨v, cv, hK, hr, hv⟩ := finW_load (w := w) (X := X) (ι := ι) (σ := σ) hT h (b := b) (q := c + i * s) (fun j y hy => by
      obtain ⟨u, g1, g2, g3⟩ := h5 i j e y he hy
      exact ⟨u, by rw [cell_of_heap h3, Nat.add_assoc]; exact g1, .pure _ _ g3⟩)
    refine Good.same hK hs (key _ _ h2 ?_) hv
    rw [← Nat.add_assoc]; exact hr
  | rptr s es i p =>
    rw [hc] at h hx
    obtain ⟨e, he, h⟩ := h
    obtain ⟨b, c, g, h2, h3, h4, h5, h6, h7⟩ := hx.rptr_inv
    obtain ⟨v, cv, hK, hr, hv⟩ := finW_load (w := w) (X := X) (ι := ι) (σ := σ) hT h (b := b) (q := c + i * s) (fun j y hy => by
      exact ⟨g i j, by rw [Nat.add_assoc]; exact (h6 i j e y he hy).1, .pure _ _ (h7 i j e y he hy)⟩)
    refine Good.same hK hs (key _ _ h2 ?_) hv
    rw [← Nat.add_assoc]; exact hr
  | _ => rw [hc] at h; exact h.elim
theorem s_field {t f : Nat} {x : Operand} (hT : TOk cx) (ho : o.op = .field t x f) (hs : SR w X ι σ) (hE : ∀ x, VR w (XL X σ ι) ι (a.eval x) (ev E x)) (h : opV cx al (.field t x f) [ev E x] σ K) : Good cx o a w X ι σ K := by
  have hx := hE x
  simp only [opV, u1, opK_iff] at h
  obtain ⟨⟨d, u, s⟩, hf, h⟩ := h
  obtain ⟨flds, fld, i', e1, e2, e3, e4, e5, e6, e7⟩ := fieldOf_fact hT hf
  subst e3 e4
  cases hc : ev E x with
  | agg cs =>
    rw [hc] at h hx
    obtain ⟨vs, e, hl, hh⟩ := hx.agg_inv
    obtain ⟨v, cv, hK, hr, hv⟩ := finW_part (w := w) (X := X) (ι := ι) (σ := σ) hT h hl hh
    exact Good.same hK hs (by simp [execOp, ho, e, Instr.field, run_underlying e1, e2, asAgg, hr]) hv
  | _ => rw [hc] at h; exact h.elim
theorem elemT_fact (hT : TOk cx) {t : Nat} {K : Nat → TI → Prop} (h : elemT cx.T t K) : ∃ e ti, cx.P.underlying t = some (.slice e) ∧ cx.T e = some ti ∧ K e ti := by
  unfold elemT at h
  split at h
  · rename_i e _ _ _ ht
    simp only [opK_iff] at h
    obtain ⟨ti, h1, h2⟩ := h
    obtain ⟨i, d, z, f⟩ := hT.fact ht
    exact ⟨e, ti, by rw [f.und, f.slice rfl], h1, h2⟩
  · exact h.elim
theorem elemA_fact (hT : TOk cx) {t : Nat} {K : TI → Prop} {A : Nat → TI → Prop} (h : elemA cx.T t K A) : (∃ e ti, cx.P.underlying t = some (.slice e) ∧ cx.T e = some ti ∧ K ti) ∨ ∃ n e ti, cx.P.underlying t = some (.array n e) ∧ cx.T e = some ti ∧ A n ti := by
  unfold elemA at h
  split at h
  · rename_i e _ _ _ ht
    simp only [opK_iff] at h
    obtain ⟨ti, h1, h2⟩ := h
    obtain ⟨i, d, z, f⟩ := hT.fact ht
    exact .inl ⟨e, ti, by rw [f.und, f.slice rfl], h1, h2⟩
  · rename_i n e _ _ _ ht
    simp only [opK_iff] at h
    obtain ⟨ti, h1, h2⟩ := h
    obtain ⟨i, d, z, f⟩ := hT.fact ht
    exact .inr ⟨n, e, ti, by rw [f.und, f.array rfl], h1, h2⟩
  · exact h.elim
theorem s_indexAddr {t : Nat} {x y : Operand} (hT : TOk cx) (ho : o.op = .indexAddr t x y) (hs : SR w X ι σ) (hE : ∀ x, VR w (XL X σ ι) ι (a.eval x) (ev E x)) (h : opV cx al (.indexAddr t x y) [ev E x, ev E y] σ K) : Good cx o a w X ι σ K := by
  have hx := hE x
  have hy := hE y
  simp only [opV, u2] at h
  rcases elemA_fact hT h with ⟨e, ti, hu, hte, h⟩ | ⟨N, e, ti, hu, hte, h⟩
  rotate_left
  · obtain ⟨i0, d0, z0, f0⟩ := hT.fact hte
    simp only [intK_iff] at h
    obtain ⟨k, i, hi, h⟩ := h
    rw [hi] at hy
    have ey := hy.int_inv
    have key : ∀ ad, a.eval x = .pointer (some ad) → 0 ≤ i → i < (N : Int) → (execOp a.eval o).run cx.P w = .ok (.value (.pointer (some (ad.add (i.toNat * ti.size))))) w := fun ad e0 h1 h2 => by
      simp [execOp, ho, e0, ey, Instr.indexAt, asIntOf, run_underlying hu, Instr.sureAddr, h1, h2, f0.run_size]
    cases hc : ev E x with
    | bptr k' p =>
      rw [hc] at h hx
      obtain ⟨⟨h1, h2⟩, hK⟩ := h
      obtain ⟨b, c, s, hb, e0⟩ := hx.bptr_inv
      refine Good.same hK hs (key _ e0 h1 h2) ?_
      rw [addr_add, Nat.add_assoc]
      exact .bptr _ _ _ _ _ hb
    | ptr k' j p =>
      rw [hc] at h hx
      obtain ⟨⟨h1, h2⟩, hK⟩ := h
      obtain ⟨b, c, s, hb, e0⟩ := hx.ptr_inv
      refine Good.same hK hs (key _ e0 h1 h2) ?_
      rw [addr_add, Nat.add_assoc, Nat.add_assoc]
      exact .ptr _ _ _ _ _ _ hb
    | rptr s es j p =>
      rw [hc] at h hx
      obtain ⟨⟨h1, h2⟩, hK⟩ := h
      obtain ⟨b, q, g, e0, g1, g2, g3, g4, g5⟩ := hx.rptr_inv
      refine Good.same hK hs (key _ e0 h1 h2) ?_
      rw [addr_add, Nat.add_assoc, Nat.add_assoc]
      exact .rptr _ _ _ _ _ _ g g1 g2 g3 g4 g5
    | _ => rw [hc] at h; exact h.elim
  obtain ⟨i0, d0, z0, f0⟩ := hT.fact hte
  simp only [intK_iff] at h
  obtain ⟨k, i, hi, h⟩ := h
  rw [hi] at hy
  have ey := hy.int_inv
  have key : ∀ ad n c, a.eval x = .slice (some ad) n c → 0 ≤ i → i < (n : Int) → (execOp a.eval o).run cx.P w = .ok (.value (.pointer (some (ad.add (i.toNat * ti.size))))) w := fun ad n c e0 h1 h2 => by
    simp [execOp, ho, e0, ey, Instr.indexAt, asIntOf, run_underlying hu, h1, h2, f0.run_size]
  cases hc : ev E x with
  | row s es =>
    rw [hc] at h hx
    simp only [bK_iff] at h
    obtain ⟨hz, ⟨h1, h2⟩, hK⟩ := h
    have hz := Nat.eq_of_beq_eq_true hz
    rcases hx.row_inv with ⟨rfl, _⟩ | ⟨b, p, c, g, e0, g1, g2, g3, g4, g5, g6⟩
    · simp at h2; omega
    · refine Good.same hK hs (key _ _ _ e0 h1 h2) ?_
      rw [addr_add, ← hz]
      exact .rptr _ _ _ _ 0 _ g g1 g2 g4 g5 g6
  | own s k' j n q =>
    rw [hc] at h hx
    simp only [bK_iff] at h
    obtain ⟨hz, ⟨h1, h2⟩, hK⟩ := h
    have hz := Nat.eq_of_beq_eq_true hz
    rcases hx.own_inv with ⟨c, b, p, vs, ty, e0, g1, _⟩ | ⟨_, _, rfl, _⟩
    · refine Good.same hK hs (key _ _ _ e0 h1 h2) ?_
      rw [addr_add, ← hz, Nat.add_assoc, ← Nat.add_mul]
      exact .ptr _ _ 0 _ _ _ g1
    · simp at h2; omega
  | _ => rw [hc] at h; exact h.elim
theorem s_index {t : Nat} {x y : Operand} (hT : TOk cx) (ho : o.op = .index t x y) (hs : SR w X ι σ) (hE : ∀ x, VR w (XL X σ ι) ι (a.eval x) (ev E x)) (h : opV cx al (.index t x y) [ev E x, ev E y] σ K) : Good cx o a w X ι σ K := by
  have hx := hE x
  have hy := hE y
  simp only [opV, u2, intK_iff] at h
  obtain ⟨k, i, hi, h⟩ := h
  rw [hi] at hy
  have ey := hy.int_inv
  split at h
  · rename_i s _ _ _ hc ht
    rw [hc] at hx
    obtain ⟨i1, d1, z1, f1⟩ := hT.fact ht
    obtain ⟨h0, b, hb, hK⟩ := h
    have e1 := f1.string rfl
    refine Good.same hK hs (cv := .int .u8 b.toNat) ?_ (.pure _ _ (.int _ _))
    simp [execOp, ho, hx.str_inv, ey, Instr.index, asIntOf, f1.run_und, e1, h0, hb]
  · exact h.elim
theorem s_len {t : Nat} {x : Operand} {ts : List Nat} (hT : TOk cx) (ho : o.op = .call ⟨.builtin .len, #[x], (t :: ts).toArray⟩) (hs : SR w X ι σ) (hE : ∀ x, VR w (XL X σ ι) ι (a.eval x) (ev E x))
    (h : builtinW cx al .len (t :: ts) [ev E x] σ K) : Good cx o a w X ι σ K := by
  have hx := hE x
  simp only [builtinW, opK_iff, u1] at h
  obtain ⟨ti, ht, h⟩ := h
  obtain ⟨i, d, z, f⟩ := hT.fact ht
  have key : ∀ n : Nat, (d = .string ∧ ∃ s : ByteArray, a.eval x = .string s ∧ n = s.size) ∨ ((∃ e, d = .slice e) ∧ ∃ ad c, a.eval x = .slice ad n c) → (execOp a.eval o).run cx.P w = .ok (.value (.int .i64 n)) w := fun n hn => by
    rcases hn with ⟨rfl, s, e1, rfl⟩ | ⟨⟨e, rfl⟩, ad, c, e1⟩ <;> simp [execOp, ho, resolve, invoke, builtin, Builtin.len_, e1, f.run_und, goInt]
  have fin : ∀ n : Nat, K (.int .i64 n) [] [] → (execOp a.eval o).run cx.P w = .ok (.value (.int .i64 n)) w → Good cx o a w X ι σ K := fun n hK hr => Good.same hK hs hr (.pure _ _ (.int _ _))
  cases hk : ti.kind with
  | slice e0 =>
    rw [hk] at h
    have hd : ∃ e, d = .slice e := ⟨_, f.slice hk⟩
    simp only [lenW] at h
    cases hc : ev E x with
    | row s es =>
      rw [hc] at h hx
      rcases hx.row_inv with ⟨rfl, ad, c, e⟩ | ⟨b, p, c, g, e, _⟩
      · exact fin 0 h (key 0 (.inr ⟨hd, ad, c, e⟩))
      · exact fin _ h (key _ (.inr ⟨hd, _, c, e⟩))
    | own s k i n q =>
      rw [hc] at h hx
      rcases hx.own_inv with ⟨c, b, p, vs, ty, e, _⟩ | ⟨ad, e, rfl, _⟩
      · exact fin _ h (key _ (.inr ⟨hd, _, c, e⟩))
      · exact fin _ h (key _ (.inr ⟨hd, _, _, e⟩))
    | nils => rw [hc] at h hx; exact fin 0 h (key 0 (.inr ⟨hd, _, _, hx.nils_inv⟩))
    | emp => rw [hc] at h hx; obtain ⟨ad, e⟩ := hx.emp_inv; exact fin 0 h (key 0 (.inr ⟨hd, _, _, e⟩))
    | _ => rw [hc] at h; exact h.elim
  | string =>
    rw [hk] at h
    simp only [lenS] at h
    cases hc : ev E x with
    | str s => rw [hc] at h hx; exact fin _ h (key _ (.inl ⟨f.string hk, s, hx.str_inv, rfl⟩))
    | _ => rw [hc] at h; exact h.elim
  | _ => rw [hk] at h; exact h.elim
theorem VRs.map {l : List Operand} (hE : ∀ x, VR w X ι (a.eval x) (ev E x)) : VRs w X ι (l.map a.eval) (l.map (ev E)) := by
  refine ⟨by simp, fun j v x hv hx => ?_⟩
  rw [List.getElem?_map] at hv hx
  cases hl : l[j]? with
  | none => rw [hl] at hv; cases hv
  | some y => rw [hl] at hv hx; cases hv; cases hx; exact hE y
theorem VRs.append {as bs : List Value} {xs ys : List AV} (h : VRs w X ι as xs) (k : VRs w X ι bs ys) : VRs w X ι (as ++ bs) (xs ++ ys) := by
  obtain ⟨h1, h2⟩ := h
  obtain ⟨k1, k2⟩ := k
  refine ⟨by simp [h1, k1], fun j v x hv hx => ?_⟩
  by_cases hj : j < as.length
  · rw [List.getElem?_append_left hj] at hv
    rw [List.getElem?_append_left (by omega)] at hx
    exact h2 j v x hv hx
  · rw [List.getElem?_append_right (by omega)] at hv
    rw [List.getElem?_append_right (by omega)] at hx
    exact k2 _ v x hv (by rw [h1]; exact hx)
theorem VRs.take {as : List Value} {xs : List AV} (h : VRs w X ι as xs) (n : Nat) : VRs w X ι (as.take n) (xs.take n) := by
  obtain ⟨h1, h2⟩ := h
  refine ⟨by simp [h1], fun j v x hv hx => ?_⟩
  rw [List.getElem?_take] at hv hx
  split at hv
  · rename_i hj; rw [if_pos hj] at hx; exact h2 j v x hv hx
  · cases hv
theorem VRs.drop {as : List Value} {xs : List AV} (h : VRs w X ι as xs) (n : Nat) : VRs w X ι (as.drop n) (xs.drop n) := by
  obtain ⟨h1, h2⟩ := h
  refine ⟨by simp [h1], fun j v x hv hx => ?_⟩
  rw [List.getElem?_drop] at hv hx
  exact h2 _ v x hv hx
theorem VRs.fn {as bs : Array Value} {xs ys : List AV} (h : VRs w X ι as.toList xs) (k : VRs w X ι bs.toList ys) (f : Nat) : VR w X ι (.func (.func f) as bs) (.fn f xs ys) :=
  .fn f as bs xs ys (by simpa using h.1) (by simpa using k.1) (fun j v x a b => h.2 j v x (by simpa using a) b) (fun j v x a b => k.2 j v x (by simpa using a) b)
theorem s_makeFunc {f : Nat} {xs ys : Array Operand} (ho : o.op = .makeFunc (.func f) xs ys) (hs : SR w X ι σ) (hE : ∀ x, VR w (XL X σ ι) ι (a.eval x) (ev E x))
    (h : opV cx al (.makeFunc (.func f) xs ys) ((xs ++ ys).toList.map (ev E)) σ K) : Good cx o a w X ι σ K := by
  simp only [opV] at h
  refine Good.same h hs (cv := .func (.func f) (xs.map a.eval) (ys.map a.eval)) (by simp [execOp, ho, Instr.makeFunc]) ?_
  have e1 : (List.map (ev E) (xs ++ ys).toList).take xs.size = xs.toList.map (ev E) := by simp
  have e2 : (List.map (ev E) (xs ++ ys).toList).drop xs.size = ys.toList.map (ev E) := by simp
  rw [e1, e2]
  exact VRs.fn (by simpa using VRs.map hE) (by simpa using VRs.map hE) f
end
end Go.Ab
namespace Go.Ab
open Go.RowKit
theorem kEq_eq {k k' : IntKind} (h : kEq k k' = true) : k = k' := by cases k <;> cases k' <;> first | rfl | cases h
section
variable {P : Program} {w : World}
theorem guard_int (op : BinOp) (t : Nat) (x y : Operand) (k k' : IntKind) (a b : Int) : (eqGuard op t x y (.int k a) (.int k' b)).run P w = .ok () w := by cases op <;> simp [eqGuard]
theorem guard_str (op : BinOp) (t : Nat) (x y : Operand) (a b : ByteArray) : (eqGuard op t x y (.string a) (.string b)).run P w = .ok () w := by cases op <;> simp [eqGuard]
theorem guard_bool (op : BinOp) (t : Nat) (x y : Operand) (a b : Bool) : (eqGuard op t x y (.bool a) (.bool b)).run P w = .ok () w := by cases op <;> simp [eqGuard]
theorem guard_ptr (op : BinOp) (t : Nat) (x y : Operand) (a b : Option Addr) : (eqGuard op t x y (.pointer a) (.pointer b)).run P w = .ok () w := by cases op <;> simp [eqGuard]
theorem scEq_spec {X : Nat → Prop} {ι : Nat → LS} {u v : Value} {x y : AV} {b r : Bool} (h : scEq b x y = some r) (hu : VR w X ι u x) (hv : VR w X ι v y) :
    (b = true ∧ ∃ k a c, u = .int k a ∧ v = .int k c ∧ r = (a == c)) ∨ (b = false ∧ ∃ s t, u = .string s ∧ v = .string t ∧ r = (s.toList == t.toList)) := by
  unfold scEq at h
  split at h
  · rename_i k a k' c
    cases b with
    | false => cases h
    | true =>
      cases hk : kEq k k' with
      | false => rw [hk] at h; cases h
      | true =>
        rw [hk] at h
        cases h
        have := kEq_eq hk
        subst this
        exact .inl ⟨rfl, _, _, _, hu.int_inv, hv.int_inv, rfl⟩
  · cases b with
    | true => cases h
    | false => cases h; exact .inr ⟨rfl, _, _, hu.str_inv, hv.str_inv, rfl⟩
  · cases h
theorem eqFs_run {X : Nat → Prop} {ι : Nat → LS} (D : Nat) (xs ys : Array Value) : ∀ (fs : List Field) (n : Nat) (ks : List Bool) (as bs : List AV) (r : Bool), eqFs P n fs ks = true → csEq ks as bs = some r → xs.size = n + as.length → ys.size = n + bs.length →
    (∀ (j : Nat) (u : Value) (x : AV), xs[n + j]? = some u → as[j]? = some x → VR w X ι u x) → (∀ (j : Nat) (u : Value) (x : AV), ys[n + j]? = some u → bs[j]? = some x → VR w X ι u x) →
    (Op.eqFields (D + 1) xs ys fs).run P w = .ok r w
  | [], n, ks, as, bs, r, he, hc, _, _, _, _ => by
    cases ks with
    | cons => cases he
    | nil =>
      cases as with
      | nil =>
        cases bs with
        | nil => cases hc; simp [Op.eqFields]
        | cons => cases hc
      | cons => cases hc
  | f :: fs, n, ks, as, bs, r, he, hc, hx, hy, h1, h2 => by
    cases ks with
    | nil => cases he
    | cons k ks =>
      cases as with
      | nil => cases hc
      | cons a as =>
        cases bs with
        | nil => cases hc
        | cons b bs =>
          unfold csEq at hc
          split at hc
          · rename_i p q hp hq
            cases hc
            simp only [eqFs, Bool.and_eq_true] at he
            obtain ⟨⟨⟨e1, e2⟩, e3⟩, e4⟩ := he
            have e1 := Nat.eq_of_beq_eq_true e1
            have e2 : f.name ≠ "_" := by simpa using e2
            have hnx : n < xs.size := by simp at hx; omega
            have hny : n < ys.size := by simp at hy; omega
            have ha := h1 0 xs[n] a (by simp [hnx]) rfl
            have hb := h2 0 ys[n] b (by simp [hny]) rfl
            have ih := eqFs_run D xs ys fs (n + 1) ks as bs q e4 hq (by simp at hx; omega) (by simp at hy; omega)
              (fun j u x hu hj => h1 (j + 1) u x (by rw [show n + (j + 1) = n + 1 + j by omega]; exact hu) (by simpa using hj)) (fun j u x hu hj => h2 (j + 1) u x (by rw [show n + (j + 1) = n + 1 + j by omega]; exact hu) (by simpa using hj))
            have hpart : ∀ zs : Array Value, (hz : n < zs.size) → (part f.type zs f.offset).run P w = .ok zs[n] w := fun zs hz => by
              have hag : (isAgg f.type).run P w = .ok false w := by
                split at e3
                · rename_i k hk; rw [run_isAgg_d hk]; rfl
                · rename_i hk; rw [run_isAgg_d hk]; rfl
                · cases e3
              simp [part, hag, e1, hz]
            have heq : (Op.equalIn (D + 1) f.type xs[n] ys[n]).run P w = .ok p w := by
              rcases scEq_spec hp ha hb with ⟨hk, k', c, d, g1, g2, g3⟩ | ⟨hk, s, t, g1, g2, g3⟩
              · subst hk
                rw [g1, g2, g3]
                split at e3
                · rename_i kk hk; exact run_equalIn_int w D f.type k' kk c d hk
                · cases e3
                · cases e3
              · subst hk
                rw [g1, g2, g3]
                split at e3
                · cases e3
                · rename_i hk; exact run_equalIn_string w D f.type s t hk
                · cases e3
            simp only [Op.eqFields]
            rw [if_pos e2]
            simp only [Sem.run_bind, hpart xs hnx, hpart ys hny, Result.andThen_ok, heq]
            cases p with
            | true => simpa using ih
            | false => simp
          · cases hc
end
section
variable {cx : Cx} {o : Oper} {a : Act} {w : World} {X : Nat → Prop} {ι : Nat → LS} {σ : Nat → SV} {E : Nat → AV} {al : Nat} {K : AV → Upd → List Nat → Prop}
theorem nil_spec {v : Value} {x : AV} {b : Bool} (h : isNil x = some b) (hv : VR w X ι v x) : ∃ p, v = .pointer p ∧ p.isNone = b := by
  cases x <;> first | (cases h; done) | skip
  · cases h; exact ⟨none, hv.nilp_inv, rfl⟩
  · cases h; obtain ⟨_, _, _, _, e⟩ := hv.bptr_inv; exact ⟨_, e, rfl⟩
  · cases h; obtain ⟨_, _, _, _, e⟩ := hv.ptr_inv; exact ⟨_, e, rfl⟩
  · cases h; obtain ⟨_, _, _, e, _⟩ := hv.rptr_inv; exact ⟨_, e, rfl⟩
theorem tB_spec {v : Value} {x : AV} {b : Bool} (h : tB x = some b) (hv : VR w X ι v x) : v = .bool b := by
  cases x <;> first | (cases h; done) | skip
  · cases h; exact hv.bool_inv
  · cases h; exact hv.lit_inv
def nilR (op : BinOp) (r : Bool) : Bool := match op with | .eql => r | _ => !r
theorem run_eqIn_nil (t e D : Nat) (P : Program) (hu : P.underlying t = some (.pointer e)) (p q : Option Addr) (h : p.isNone = true ∨ q.isNone = true) : (Op.equalIn (D + 1) t (.pointer p) (.pointer q)).run P w = .ok (p.isNone && q.isNone) w := by
  rcases p with _ | p
  · simp [Op.equalIn, run_underlying hu]
  · rcases q with _ | q
    · simp [Op.equalIn, run_underlying hu]
    · simp at h
theorem run_nil (t e : Nat) (P : Program) (hu : P.underlying t = some (.pointer e)) (p q : Option Addr) (h : p.isNone = true ∨ q.isNone = true) (x y : Operand) (op : BinOp) (hop : op = .eql ∨ op = .neq) :
    (do eqGuard op t x y (.pointer p) (.pointer q); binOp op t (.pointer p) (.pointer q) : Sem Value).run P w = .ok (.bool (nilR op (p.isNone && q.isNone))) w := by
  have he : (Op.equal t (.pointer p) (.pointer q)).run P w = .ok (p.isNone && q.isNone) w := by
    exact run_eqIn_nil t e 9999 P hu p q h
  rcases hop with rfl | rfl <;> simp only [Sem.run_bind, guard_ptr, Result.andThen_ok] <;> simp [binOp, he, nilR]
theorem s_binOp {op : BinOp} {t t' : Nat} {x y : Operand} (hT : TOk cx) (ho : o.op = .binOp op t x y t') (hs : SR w X ι σ) (hE : ∀ x, VR w (XL X σ ι) ι (a.eval x) (ev E x)) (h : opV cx al (.binOp op t x y t') [ev E x, ev E y] σ K) : Good cx o a w X ι σ K := by
  have hx := hE x
  have hy := hE y
  simp only [opV, u2] at h
  have fin : ∀ v cv, K v [] [] → (do eqGuard op t x y (a.eval x) (a.eval y); binOp op t (a.eval x) (a.eval y) : Sem Value).run cx.P w = .ok cv w → VR w (XL X σ ι) ι cv v → Good cx o a w X ι σ K := fun v cv hK hr hv => by
    refine Good.same hK hs (cv := cv) ?_ hv
    simp only [Sem.run_bind] at hr
    cases hg : (eqGuard op t x y (a.eval x) (a.eval y)).run cx.P w with
    | ok u w' => rw [hg] at hr; simp only [Result.andThen_ok] at hr; simp [execOp, ho, hg, hr]
    | halt e w' => rw [hg] at hr; simp at hr
  unfold binW at h
  split at h
  · rename_i k p k' q h1 h2
    rw [h1] at hx
    rw [h2] at hy
    simp only [bK_iff] at h
    obtain ⟨hk, h⟩ := h
    have hk := kEq_eq hk
    subst hk
    have e1 := hx.int_inv
    have e2 := hy.int_inv
    rw [e1, e2] at fin
    cases op <;> simp only at h <;> first
      | exact h.elim
      | exact fin _ _ h (by simp only [Sem.run_bind, guard_int, Result.andThen_ok]; first | (simp [binOp, Op.intArith]; done) | (simp [binOp, Op.intArith]; rfl)) (.pure _ _ (.int _ _))
      | exact fin _ _ h (by simp only [Sem.run_bind, guard_int, Result.andThen_ok]; first | (simp [binOp, Op.intCmp]; done) | (simp [binOp, Op.intCmp]; rfl)) (.pure _ _ (.bool _))
      | exact fin _ _ h (by simp only [Sem.run_bind, guard_int, Result.andThen_ok]; first | (simp [binOp, Op.intBits]; done) | (simp [binOp, Op.intBits]; rfl)) (.pure _ _ (.int _ _))
      | exact fin _ _ h.2 (by simp only [Sem.run_bind, guard_int, Result.andThen_ok]; first | (simp [binOp, Op.intDiv, h.1]; done) | (simp [binOp, Op.intDiv, h.1]; rfl)) (.pure _ _ (.int _ _))
  · rename_i p q h1 h2
    rw [h1] at hx
    rw [h2] at hy
    rw [hx.str_inv, hy.str_inv] at fin
    cases op <;> simp only at h <;> first
      | exact h.elim
      | exact fin _ _ h (by simp only [Sem.run_bind, guard_str, Result.andThen_ok]; first | (simp [binOp, Op.stringOp, sEq, sLt]; done) | (simp [binOp, Op.stringOp, sEq, sLt]; rfl)) (.pure _ _ (.bool _))
  · rename_i p q h1 h2
    rw [h1] at hx
    rw [h2] at hy
    simp only [bK_iff, opK_iff] at h
    obtain ⟨hk, r, hr, h⟩ := h
    obtain ⟨us, e1, l1, g1⟩ := hx.agg_inv
    obtain ⟨vs, e2, l2, g2⟩ := hy.agg_inv
    rw [e1, e2] at fin
    have hne : eqKs (cx.T t) ≠ [] := by simpa using hk
    unfold eqKs at hr hne
    split at hr
    · rename_i fs ks _ _ _ ht
      rw [ht] at hne
      obtain ⟨i, d, z, f⟩ := hT.fact ht
      obtain ⟨flds, rfl, hf, hb⟩ := f.struct rfl
      have hb := hb hne
      simp only [eqB, Bool.and_eq_true, Bool.not_eq_true'] at hb
      obtain ⟨⟨b1, b2⟩, b3⟩ := hb
      have hflds : cx.P.fieldsOf t = flds := by simp [Program.fieldsOf, f.und]
      have heq : (Op.equalIn 10000 t (.agg us) (.agg vs)).run cx.P w = .ok r w := by
        rw [run_equalIn_struct w 9999 t us vs (by rw [hflds]; exact f.und) b2, hflds]
        exact eqFs_run 9998 us vs flds.toList 0 ks p q r b3 hr (by simpa using l1) (by simpa using l2) (by simpa using g1) (by simpa using g2)
      cases op <;> simp only at h <;> first
        | exact h.elim
        | exact fin _ _ h (by rw [Sem.run_bind, run_eqGuard_agg w _ t x y us vs b1, Result.andThen_ok, run_eql_struct, heq]; rfl) (.pure _ _ (.bool _))
        | exact fin _ _ h (by rw [Sem.run_bind, run_eqGuard_agg w _ t x y us vs b1, Result.andThen_ok, run_neq_struct, heq]; rfl) (.pure _ _ (.bool _))
    · exfalso; simp at hne
  · split at h
    · rename_i p q h1 h2
      obtain ⟨p', e1, e2⟩ := nil_spec h1 hx
      obtain ⟨q', e3, e4⟩ := nil_spec h2 hy
      simp only [nilW, bK_iff, Bool.and_eq_true] at h
      obtain ⟨⟨h4, h3⟩, h⟩ := h
      have h3' : p'.isNone = true ∨ q'.isNone = true := by rw [e2, e4]; simpa using h3
      unfold isPt at h4
      split at h4
      · rename_i ht
        obtain ⟨i, d, z, f⟩ := hT.fact ht
        obtain ⟨e, rfl⟩ := f.ptr rfl
        rw [e1, e3] at fin
        cases op <;> simp only at h <;> first
          | exact h.elim
          | exact fin _ (.bool (p && q)) h (by rw [run_nil t e cx.P f.und p' q' h3' x y _ (.inl rfl), e2, e4]; rfl) (.pure _ _ (.lit _))
          | exact fin _ (.bool (!(p && q))) h (by rw [run_nil t e cx.P f.und p' q' h3' x y _ (.inr rfl), e2, e4]; rfl) (.pure _ _ (.lit _))
      · cases h4
    · simp only [boolW, bK_iff, opK_iff] at h
      obtain ⟨hb, p, hp, q, hq, h⟩ := h
      have e1 := tB_spec hp hx
      have e2 := tB_spec hq hy
      rw [e1, e2] at fin
      unfold isBo at hb
      split at hb
      · rename_i ht
        obtain ⟨i, d, z, f⟩ := hT.fact ht
        have hd := f.bool rfl
        subst hd
        have he : (Op.equal t (.bool p) (.bool q)).run cx.P w = .ok (p == q) w := run_equalIn_bool' w 9999 t p q f.und
        cases op <;> simp only at h <;> first
          | exact h.elim
          | exact fin _ (.bool (p == q)) h (by simp only [Sem.run_bind, guard_bool, Result.andThen_ok]; simp [binOp, he]) (.pure _ _ (.bool _))
          | exact fin _ (.bool (p != q)) h (by simp only [Sem.run_bind, guard_bool, Result.andThen_ok]; simp [binOp, he, bne]) (.pure _ _ (.bool _))
      · cases hb
end
end Go.Ab
namespace Go.Ab
open Go.RowKit
def bnd (v : Option Value) (n dflt : Nat) : Prop := match v with
  | none => n = dflt
  | some v => ∃ k, v = .int k (n : Int)
theorem run_sliceBound (P : Program) (w : World) (k : IntKind) (n y : Nat) (h : n ≤ y) (code : BoundsCode) : (Instr.sliceBound (.int k (n : Int)) y code).run P w = .ok n w := by
  simp [Instr.sliceBound, asIntOf, h]
theorem run_sliceAt {P : Program} {w : World} {t e : Nat} {ti : TI} {i : TypeInfo} {d : TypeDesc} {z : Value} (hu : P.underlying t = some (.slice e)) (f : TFact P e ti i d z) (ad : Option Addr) (n c : Nat) (lo hi mx : Option Value) (l h m : Nat)
    (hlo : bnd lo l 0) (hhi : bnd hi h n) (hmx : bnd mx m c) (hm : mx.isSome = true → hi.isSome = true) (h1 : l ≤ h) (h2 : h ≤ m ∨ (hi = none ∧ mx = none)) (h3 : m ≤ c) :
    (Instr.sliceAt t (.slice ad n c) lo hi mx).run P w = .ok (.slice (if m = l then ad else ad.map (·.add (l * ti.size))) (h - l) (m - l)) w := by
  have hb : (Instr.sliceBounds true n c lo hi mx).run P w = .ok (l, h, m) w := by
    unfold Instr.sliceBounds
    cases mx with
    | none =>
      simp only [bnd] at hmx
      subst hmx
      cases hi with
      | none =>
        simp only [bnd] at hhi
        subst hhi
        cases lo with
        | none => simp only [bnd] at hlo; subst hlo; simp
        | some v => obtain ⟨k, rfl⟩ := hlo; simp [run_sliceBound P w k l h h1]
      | some v =>
        obtain ⟨k, rfl⟩ := hhi
        have h2' : h ≤ m := h2.elim id (fun h => by cases h.1)
        cases lo with
        | none => simp only [bnd] at hlo; subst hlo; simp [run_sliceBound P w k h m h2']
        | some v => obtain ⟨k', rfl⟩ := hlo; simp [run_sliceBound P w k h m h2', run_sliceBound P w k' l h h1]
    | some v =>
      obtain ⟨k0, rfl⟩ := hmx
      cases hi with
      | none => exact absurd (hm rfl) (by simp)
      | some v =>
        obtain ⟨k, rfl⟩ := hhi
        have h2' : h ≤ m := h2.elim id (fun h => by cases h.1)
        cases lo with
        | none => simp only [bnd] at hlo; subst hlo; simp [run_sliceBound P w k h m h2', run_sliceBound P w k0 m c h3]
        | some v => obtain ⟨k', rfl⟩ := hlo; simp [run_sliceBound P w k h m h2', run_sliceBound P w k' l h h1, run_sliceBound P w k0 m c h3]
  simp [Instr.sliceAt, Instr.slice, run_underlying hu, hb, f.run_size]
section
variable {cx : Cx} {o : Oper} {a : Act} {w : World} {X : Nat → Prop} {ι : Nat → LS} {σ : Nat → SV} {E : Nat → AV} {al : Nat} {K : AV → Upd → List Nat → Prop}
theorem row_part {b p c s : Nat} {es : List (List AV)} {f : Nat → Nat → Value} (hX : ¬ X b) (hb : b < w.heap.size) (hs : ∀ (i : Nat) (e : List AV), es[i]? = some e → e.length = s)
    (h1 : ∀ (i j : Nat) (e : List AV) (x : AV), es[i]? = some e → e[j]? = some x → w.cell? ⟨b, p + (i * s + j), none⟩ = some (f i j) ∧ (f i j).oneCell' = true)
    (h2 : ∀ (i j : Nat) (e : List AV) (x : AV), es[i]? = some e → e[j]? = some x → PR w X (f i j) x) (l : Nat) (es' : List (List AV)) (hes : ∀ (i : Nat) (e : List AV), es'[i]? = some e → es[l + i]? = some e) (hc : es'.length ≤ c) :
    PR w X (.slice (some ⟨b, p + l * s, none⟩) es'.length c) (.row s es') :=
  .row b (p + l * s) c s es' (fun i j => f (l + i) j) hX hb hc (fun i e h => hs _ e (hes i e h)) (fun i j e x h k => by
    have := h1 (l + i) j e x (hes i e h) k
    rw [show p + l * s + (i * s + j) = p + ((l + i) * s + j) by rw [Nat.add_mul]; omega]
    exact this) (fun i j e x h k => h2 (l + i) j e x (hes i e h) k)
theorem own_part {s k i c b p l n' c' : Nat} {q : Q} {vs : Array Value} {ty : TypeId} (h : ι k = .at b p s) (hb : w.heap[b]? = some (.cells vs ty (0, 0))) (hc : p + (i + c) * s ≤ vs.size) (hl : l + c' ≤ c) (hq : q.fits n' c') :
    VR w X ι (.slice (some ⟨b, p + i * s + l * s, none⟩) n' c') (.own s k (i + l) n' q) := by
  have := VR.own (w := w) (X := X) (ι := ι) s k (i + l) n' c' b p q vs ty h hq hb (by
    have : (i + l + c') * s ≤ (i + c) * s := Nat.mul_le_mul_right _ (by omega)
    omega)
  rw [Nat.add_mul, ← Nat.add_assoc] at this
  exact this
theorem sliceW_sound (hT : TOk cx) {t e : Nat} {ti : TI} (hu : cx.P.underlying t = some (.slice e)) (hte : cx.T e = some ti) {x : AV} {v : Value} (hx : VR w (XL X σ ι) ι v x) {lo hi mx : Option AV} {vlo vhi vmx : Option Value}
    (hlo : ∀ y, lo = some y → ∃ u, vlo = some u ∧ VR w (XL X σ ι) ι u y) (hhi : ∀ y, hi = some y → ∃ u, vhi = some u ∧ VR w (XL X σ ι) ι u y) (hmx : ∀ y, mx = some y → ∃ u, vmx = some u ∧ VR w (XL X σ ι) ι u y)
    (nlo : lo = none → vlo = none) (nhi : hi = none → vhi = none) (nmx : mx = none → vmx = none) (hz : rowSz ti.size x = true) {K : AV → Prop} (h : sliceW x lo hi mx K) :
    ∃ y cv, K y ∧ (Instr.sliceAt t v vlo vhi vmx).run cx.P w = .ok cv w ∧ VR w (XL X σ ι) ι cv y := by
  obtain ⟨i, d, z, f⟩ := hT.fact hte
  have bi : ∀ {A : Option AV} {V : Option Value} (hA : ∀ y, A = some y → ∃ u, V = some u ∧ VR w (XL X σ ι) ι u y) {y : AV} (e : A = some y) {k : IntKind} {j : Int} (e' : y = .int k j) (h0 : 0 ≤ j) (dflt : Nat), bnd V j.toNat dflt := by
    intro A V hA y e k j e' h0 dflt
    obtain ⟨u, h1, h2⟩ := hA y e
    subst h1
    rw [e'] at h2
    exact ⟨k, by rw [h2.int_inv, Int.toNat_of_nonneg h0]⟩
  have som : ∀ {A : Option AV} {V : Option Value} (hA : ∀ y, A = some y → ∃ u, V = some u ∧ VR w (XL X σ ι) ι u y) {y : AV} (e : A = some y), V.isSome = true := by
    intro A V hA y e
    obtain ⟨u, h1, _⟩ := hA y e
    rw [h1]; rfl
  have run := fun ad n c l h m => run_sliceAt (w := w) hu f ad n c vlo vhi vmx l h m
  unfold sliceW at h
  split at h
  ·
    rename_i s es
    have hz : ti.size = s := Nat.eq_of_beq_eq_true hz
    split at h
    · rename_i h'
      simp only [intK_iff] at h
      obtain ⟨k, j, hj, ⟨h0, h1⟩, hK⟩ := h
      have e1 := nlo rfl
      have e3 := nmx rfl
      have hb := bi hhi rfl hj h0
      rcases hx.row_inv with ⟨rfl, ad, c, rfl⟩ | ⟨b, p, c, g, rfl, g1, g2, g3, g4, g5, g6⟩
      · have hj0 : j.toNat = 0 := by simp at h1; omega
        refine ⟨_, _, hK, run ad 0 c 0 j.toNat c (by rw [e1]; rfl) (hb 0) (by rw [e3]; rfl) (by rw [e3]; simp) (Nat.zero_le _) (.inl (by omega)) (Nat.le_refl _), ?_⟩
        rw [hj0]
        exact .pure _ _ (.row0 _ _ _)
      · have hj1 : j.toNat ≤ es.length := by omega
        refine ⟨_, _, hK, run (some ⟨b, p, none⟩) es.length c 0 j.toNat c (by rw [e1]; rfl) (hb es.length) (by rw [e3]; rfl) (by rw [e3]; simp) (Nat.zero_le _) (.inl (by omega)) (Nat.le_refl _), ?_⟩
        have := row_part g1 g2 g4 g5 g6 0 (es.take j.toNat) (fun i e he => by
          rw [List.getElem?_take] at he
          split at he
          · simpa using he
          · cases he) (c := c) (by simp; omega)
        have hl : (es.take j.toNat).length = j.toNat := by simp; omega
        rw [hl] at this
        have e : (if c = 0 then some (⟨b, p, none⟩ : Addr) else Option.map (fun x : Addr => x.add (0 * ti.size)) (some ⟨b, p, none⟩)) = some ⟨b, p + 0 * s, none⟩ := by
          split <;> simp [addr_add]
        rw [e]
        exact .pure _ _ this
    · simp only [intK_iff] at h
      obtain ⟨k, j, hj, ⟨h0, h1⟩, hK⟩ := h
      have e2 := nhi rfl
      have e3 := nmx rfl
      have hb := bi hlo rfl hj h0
      rcases hx.row_inv with ⟨rfl, ad, c, rfl⟩ | ⟨b, p, c, g, rfl, g1, g2, g3, g4, g5, g6⟩
      · have hj0 : j.toNat = 0 := by simp at h1; omega
        refine ⟨_, _, hK, run ad 0 c j.toNat 0 c (hb 0) (by rw [e2]; rfl) (by rw [e3]; rfl) (by rw [e3]; simp) (by omega) (.inr ⟨e2, e3⟩) (Nat.le_refl _), ?_⟩
        simp only [List.drop_nil, Nat.zero_sub]
        exact .pure _ _ (.row0 _ _ _)
      · have hj1 : j.toNat ≤ es.length := by omega
        refine ⟨_, _, hK, run (some ⟨b, p, none⟩) es.length c j.toNat es.length c (hb 0) (by rw [e2]; rfl) (by rw [e3]; rfl) (by rw [e3]; simp) hj1 (.inr ⟨e2, e3⟩) (Nat.le_refl _), ?_⟩
        by_cases hc : c = j.toNat
        · have : es.length = j.toNat := by omega
          rw [if_pos hc, this]
          have e : es.drop j.toNat = [] := List.drop_eq_nil_of_le (by omega)
          rw [e, Nat.sub_self]
          exact .pure _ _ (.row0 _ _ _)
        · have := row_part g1 g2 g4 g5 g6 j.toNat (es.drop j.toNat) (fun i e he => by rw [List.getElem?_drop] at he; exact he) (c := c - j.toNat) (by simp; omega)
          rw [List.length_drop] at this
          rw [if_neg hc, Option.map_some, addr_add, hz]
          exact .pure _ _ this
    · simp only [intK_iff] at h
      obtain ⟨k, j, hj, k', j', hj', ⟨h0, h1, h2⟩, hK⟩ := h
      have e3 := nmx rfl
      have hb := bi hlo rfl hj h0
      have hb' := bi hhi rfl hj' (by omega)
      rcases hx.row_inv with ⟨rfl, ad, c, rfl⟩ | ⟨b, p, c, g, rfl, g1, g2, g3, g4, g5, g6⟩
      · have hj0 : j.toNat = 0 := by simp at h2; omega
        have hj0' : j'.toNat = 0 := by simp at h2; omega
        refine ⟨_, _, hK, run ad 0 c j.toNat j'.toNat c (hb 0) (hb' 0) (by rw [e3]; rfl) (by rw [e3]; simp) (by omega) (.inl (by omega)) (Nat.le_refl _), ?_⟩
        rw [hj0, hj0']
        simp only [List.take_nil, List.drop_nil]
        exact .pure _ _ (.row0 _ _ _)
      · have hj1 : j'.toNat ≤ es.length := by omega
        refine ⟨_, _, hK, run (some ⟨b, p, none⟩) es.length c j.toNat j'.toNat c (hb 0) (hb' es.length) (by rw [e3]; rfl) (by rw [e3]; simp) (by omega) (.inl (by omega)) (Nat.le_refl _), ?_⟩
        by_cases hc : c = j.toNat
        · have e : (es.take j'.toNat).drop j.toNat = [] := List.drop_eq_nil_of_le (by simp; omega)
          rw [if_pos hc, e, show j'.toNat - j.toNat = 0 by omega]
          exact .pure _ _ (.row0 _ _ _)
        · have := row_part g1 g2 g4 g5 g6 j.toNat ((es.take j'.toNat).drop j.toNat) (fun i e he => by
            rw [List.getElem?_drop, List.getElem?_take] at he
            split at he
            · exact he
            · cases he) (c := c - j.toNat) (by simp; omega)
          have hl : ((es.take j'.toNat).drop j.toNat).length = j'.toNat - j.toNat := by simp; omega
          rw [hl] at this
          rw [if_neg hc, Option.map_some, addr_add, hz]
          exact .pure _ _ this
    · simp only [intK_iff] at h
      obtain ⟨k, j, hj, k', j', hj', ⟨rfl, rfl⟩, hK⟩ := h
      have e1 := nlo rfl
      have hb := bi hhi rfl hj (by omega)
      have hb' := bi hmx rfl hj' (by omega)
      have key : ∀ ad n c, v = .slice ad n c → ∃ y cv, K y ∧ (Instr.sliceAt t v vlo vhi vmx).run cx.P w = .ok cv w ∧ VR w (XL X σ ι) ι cv y := fun ad n c e => by
        subst e
        exact ⟨_, _, hK, run ad n c 0 0 0 (by rw [e1]; rfl) (hb n) (hb' c) (fun _ => som hhi rfl) (Nat.le_refl _) (.inl (Nat.le_refl _)) (Nat.zero_le _), .pure _ _ (.emp _)⟩
      rcases hx.row_inv with ⟨_, ad, c, e⟩ | ⟨b, p, c, g, e, _⟩ <;> exact key _ _ _ e
    · exact h.elim
  ·
    rename_i s k0 i0 n q
    have hz : ti.size = s := Nat.eq_of_beq_eq_true hz
    split at h
    · have e1 := nlo rfl
      have e2 := nhi rfl
      have e3 := nmx rfl
      rcases hx.own_inv with ⟨c, b, p, vs, ty, rfl, g1, g2, g3, g4⟩ | ⟨ad, rfl, rfl, g1, g2⟩
      · refine ⟨_, _, h, run (some ⟨b, p + i0 * s, none⟩) n c 0 n c (by rw [e1]; rfl) (by rw [e2]; rfl) (by rw [e3]; rfl) (by rw [e3]; simp) (Nat.zero_le _) (.inr ⟨e2, e3⟩) (Nat.le_refl _), ?_⟩
        have e : (if c = 0 then some (⟨b, p + i0 * s, none⟩ : Addr) else Option.map (fun x : Addr => x.add (0 * ti.size)) (some ⟨b, p + i0 * s, none⟩)) = some ⟨b, p + i0 * s, none⟩ := by
          split <;> simp [addr_add]
        rw [e]
        exact hx
      · refine ⟨_, _, h, run ad 0 0 0 0 0 (by rw [e1]; rfl) (by rw [e2]; rfl) (by rw [e3]; rfl) (by rw [e3]; simp) (Nat.zero_le _) (.inr ⟨e2, e3⟩) (Nat.le_refl _), ?_⟩
        exact hx
    · simp only [intK_iff] at h
      obtain ⟨k, j, hj, ⟨h0, h1⟩, hK⟩ := h
      have e1 := nlo rfl
      have e3 := nmx rfl
      have hb := bi hhi rfl hj h0
      rcases hx.own_inv with ⟨c, b, p, vs, ty, rfl, g1, g2, g3, g4⟩ | ⟨ad, rfl, rfl, g1, g2⟩
      · have hnc : n ≤ c := by cases q <;> simp only [Q.fits] at g2 <;> omega
        refine ⟨_, _, hK, run (some ⟨b, p + i0 * s, none⟩) n c 0 j.toNat c (by rw [e1]; rfl) (hb n) (by rw [e3]; rfl) (by rw [e3]; simp) (Nat.zero_le _) (.inl (by omega)) (Nat.le_refl _), ?_⟩
        have e : (if c = 0 then some (⟨b, p + i0 * s, none⟩ : Addr) else Option.map (fun x : Addr => x.add (0 * ti.size)) (some ⟨b, p + i0 * s, none⟩)) = some ⟨b, p + i0 * s, none⟩ := by
          split <;> simp [addr_add]
        rw [e]
        exact .own s k0 i0 j.toNat c b p _ vs ty g1 (by simp only [Q.fits]; omega) g3 g4
      · have hj0 : j.toNat = 0 := by simp at h1; omega
        refine ⟨_, _, hK, run ad 0 0 0 j.toNat 0 (by rw [e1]; rfl) (hb 0) (by rw [e3]; rfl) (by rw [e3]; simp) (Nat.zero_le _) (.inl (by omega)) (Nat.le_refl _), ?_⟩
        rw [hj0]
        exact .own0 s k0 i0 _ _ g1 (by simp [Q.fits])
    · simp only [intK_iff] at h
      obtain ⟨k, j, hj, ⟨h0, h1⟩, hK⟩ := h
      have e2 := nhi rfl
      have e3 := nmx rfl
      have hb := bi hlo rfl hj h0
      rcases hx.own_inv with ⟨c, b, p, vs, ty, rfl, g1, g2, g3, g4⟩ | ⟨ad, rfl, rfl, g1, g2⟩
      · have hnc : n ≤ c := by cases q <;> simp only [Q.fits] at g2 <;> omega
        refine ⟨_, _, hK, run (some ⟨b, p + i0 * s, none⟩) n c j.toNat n c (hb 0) (by rw [e2]; rfl) (by rw [e3]; rfl) (by rw [e3]; simp) (by omega) (.inr ⟨e2, e3⟩) (Nat.le_refl _), ?_⟩
        have hq : q.fits (n - j.toNat) (c - j.toNat) := by cases q <;> simp only [Q.fits] at g2 ⊢ <;> omega
        by_cases hc : c = j.toNat
        · have h0 : n - j.toNat = 0 := by omega
          have h0' : c - j.toNat = 0 := by omega
          rw [h0, h0'] at hq ⊢
          rw [if_pos hc]
          exact .own0 s k0 _ _ _ (by rw [g1]; simp) hq
        · rw [if_neg hc, Option.map_some, addr_add, hz]
          exact own_part g1 g3 g4 (by omega) hq
      · have hj0 : j.toNat = 0 := by simp at h1; omega
        refine ⟨_, _, hK, run ad 0 0 j.toNat 0 0 (hb 0) (by rw [e2]; rfl) (by rw [e3]; rfl) (by rw [e3]; simp) (by omega) (.inr ⟨e2, e3⟩) (Nat.le_refl _), ?_⟩
        rw [hj0]
        exact .own0 s k0 _ _ _ g1 g2
    · simp only [intK_iff] at h
      obtain ⟨k, j, hj, k', j', hj', ⟨h0, h1, h2⟩, hK⟩ := h
      have e3 := nmx rfl
      have hb := bi hlo rfl hj h0
      have hb' := bi hhi rfl hj' (by omega)
      rcases hx.own_inv with ⟨c, b, p, vs, ty, rfl, g1, g2, g3, g4⟩ | ⟨ad, rfl, rfl, g1, g2⟩
      · have hnc : n ≤ c := by cases q <;> simp only [Q.fits] at g2 <;> omega
        refine ⟨_, _, hK, run (some ⟨b, p + i0 * s, none⟩) n c j.toNat j'.toNat c (hb 0) (hb' n) (by rw [e3]; rfl) (by rw [e3]; simp) (by omega) (.inl (by omega)) (Nat.le_refl _), ?_⟩
        have hq : (Q.room (n - j'.toNat)).fits (j'.toNat - j.toNat) (c - j.toNat) := by simp only [Q.fits]; omega
        by_cases hc : c = j.toNat
        · have h0 : j'.toNat - j.toNat = 0 := by omega
          have h0' : c - j.toNat = 0 := by omega
          rw [h0, h0'] at hq ⊢
          rw [if_pos hc]
          exact .own0 s k0 _ _ _ (by rw [g1]; simp) hq
        · rw [if_neg hc, Option.map_some, addr_add, hz]
          exact own_part g1 g3 g4 (by omega) hq
      · have hj0 : j.toNat = 0 := by simp at h2; omega
        have hj0' : j'.toNat = 0 := by simp at h2; omega
        refine ⟨_, _, hK, run ad 0 0 j.toNat j'.toNat 0 (hb 0) (hb' 0) (by rw [e3]; rfl) (by rw [e3]; simp) (by omega) (.inl (by omega)) (Nat.le_refl _), ?_⟩
        rw [hj0, hj0']
        exact .own0 s k0 _ _ _ g1 (by simp [Q.fits])
    · simp only [intK_iff] at h
      obtain ⟨k, j, hj, k', j', hj', ⟨h0, h1, h2⟩, hK⟩ := h
      have e1 := nlo rfl
      have hb := bi hhi rfl hj h0
      have hb' := bi hmx rfl hj' (by omega)
      rcases hx.own_inv with ⟨c, b, p, vs, ty, rfl, g1, g2, g3, g4⟩ | ⟨ad, rfl, rfl, g1, g2⟩
      · have hnc : n ≤ c := by cases q <;> simp only [Q.fits] at g2 <;> omega
        refine ⟨_, _, hK, run (some ⟨b, p + i0 * s, none⟩) n c 0 j.toNat j'.toNat (by rw [e1]; rfl) (hb n) (hb' c) (fun _ => som hhi rfl) (Nat.zero_le _) (.inl (by omega)) (by omega), ?_⟩
        have e : (if j'.toNat = 0 then some (⟨b, p + i0 * s, none⟩ : Addr) else Option.map (fun x : Addr => x.add (0 * ti.size)) (some ⟨b, p + i0 * s, none⟩)) = some ⟨b, p + i0 * s, none⟩ := by
          split <;> simp [addr_add]
        rw [e]
        refine .own s k0 i0 j.toNat (j'.toNat - 0) b p _ vs ty g1 (by simp only [Q.fits]; omega) g3 ?_
        have : (i0 + (j'.toNat - 0)) * s ≤ (i0 + c) * s := Nat.mul_le_mul_right _ (by omega)
        omega
      · have hj0 : j.toNat = 0 := by simp at h2; omega
        have hj0' : j'.toNat = 0 := by simp at h2; omega
        refine ⟨_, _, hK, run ad 0 0 0 j.toNat j'.toNat (by rw [e1]; rfl) (hb 0) (hb' 0) (fun _ => som hhi rfl) (Nat.zero_le _) (.inl (by omega)) (by omega), ?_⟩
        rw [hj0, hj0']
        exact .own0 s k0 _ _ _ g1 (by simp [Q.fits])
    · exact h.elim
  · have e0 := hx.nils_inv
    subst e0
    split at h
    · exact ⟨_, _, h, run none 0 0 0 0 0 (by rw [nlo rfl]; rfl) (by rw [nhi rfl]; rfl) (by rw [nmx rfl]; rfl) (by rw [nmx rfl]; simp) (Nat.le_refl _) (.inl (Nat.le_refl _)) (Nat.le_refl _), .pure _ _ .nils⟩
    · simp only [intK_iff] at h
      obtain ⟨k, j, hj, rfl, hK⟩ := h
      exact ⟨_, _, hK, run none 0 0 0 0 0 (by rw [nlo rfl]; rfl) (bi hhi rfl hj (Int.le_refl _) _) (by rw [nmx rfl]; rfl) (by rw [nmx rfl]; simp) (Nat.le_refl _) (.inl (Nat.le_refl _)) (Nat.le_refl _), .pure _ _ .nils⟩
    · simp only [intK_iff] at h
      obtain ⟨k, j, hj, rfl, hK⟩ := h
      exact ⟨_, _, hK, run none 0 0 0 0 0 (bi hlo rfl hj (Int.le_refl _) _) (by rw [nhi rfl]; rfl) (by rw [nmx rfl]; rfl) (by rw [nmx rfl]; simp) (Nat.le_refl _) (.inl (Nat.le_refl _)) (Nat.le_refl _), .pure _ _ .nils⟩
    · simp only [intK_iff] at h
      obtain ⟨k, j, hj, k', j', hj', ⟨rfl, rfl⟩, hK⟩ := h
      exact ⟨_, _, hK, run none 0 0 0 0 0 (by rw [nlo rfl]; rfl) (bi hhi rfl hj (Int.le_refl _) _) (bi hmx rfl hj' (Int.le_refl _) _) (fun _ => som hhi rfl) (Nat.le_refl _) (.inl (Nat.le_refl _)) (Nat.le_refl _), .pure _ _ .nils⟩
    · exact h.elim
  · obtain ⟨ad, e0⟩ := hx.emp_inv
    subst e0
    have ea : ∀ u : Option Addr, (if (0 : Nat) = 0 then ad else u) = ad := fun u => if_pos rfl
    split at h
    · exact ⟨_, _, h, run ad 0 0 0 0 0 (by rw [nlo rfl]; rfl) (by rw [nhi rfl]; rfl) (by rw [nmx rfl]; rfl) (by rw [nmx rfl]; simp) (Nat.le_refl _) (.inl (Nat.le_refl _)) (Nat.le_refl _), .pure _ _ (.emp _)⟩
    · simp only [intK_iff] at h
      obtain ⟨k, j, hj, rfl, hK⟩ := h
      exact ⟨_, _, hK, run ad 0 0 0 0 0 (by rw [nlo rfl]; rfl) (bi hhi rfl hj (Int.le_refl _) _) (by rw [nmx rfl]; rfl) (by rw [nmx rfl]; simp) (Nat.le_refl _) (.inl (Nat.le_refl _)) (Nat.le_refl _), .pure _ _ (.emp _)⟩
    · simp only [intK_iff] at h
      obtain ⟨k, j, hj, rfl, hK⟩ := h
      exact ⟨_, _, hK, run ad 0 0 0 0 0 (bi hlo rfl hj (Int.le_refl _) _) (by rw [nhi rfl]; rfl) (by rw [nmx rfl]; rfl) (by rw [nmx rfl]; simp) (Nat.le_refl _) (.inl (Nat.le_refl _)) (Nat.le_refl _), .pure _ _ (.emp _)⟩
    · simp only [intK_iff] at h
      obtain ⟨k, j, hj, k', j', hj', ⟨rfl, rfl⟩, hK⟩ := h
      exact ⟨_, _, hK, run ad 0 0 0 0 0 (by rw [nlo rfl]; rfl) (bi hhi rfl hj (Int.le_refl _) _) (bi hmx rfl hj' (Int.le_refl _) _) (fun _ => som hhi rfl) (Nat.le_refl _) (.inl (Nat.le_refl _)) (Nat.le_refl _), .pure _ _ (.emp _)⟩
    · exact h.elim
  · exact h.elim
theorem s_slice {t : Nat} {x : Operand} {lo hi mx : Option Operand} (hT : TOk cx) (ho : o.op = .slice t x lo hi mx) (hs : SR w X ι σ) (hE : ∀ x, VR w (XL X σ ι) ι (a.eval x) (ev E x))
    (h : opV cx al (.slice t x lo hi mx) ((Op.slice t x lo hi mx).operands.toList.map (ev E)) σ K) : Good cx o a w X ι σ K := by
  simp only [opV] at h
  obtain ⟨e, ti, hu, hte, h⟩ := elemT_fact hT h
  have fin : (bK (rowSz ti.size (ev E x)) (sliceW (ev E x) (lo.map (ev E)) (hi.map (ev E)) (mx.map (ev E)) fun v => K v [] [])) → Good cx o a w X ι σ K := by
    intro h
    simp only [bK_iff] at h
    have hm : ∀ (A : Option Operand) (y : AV), A.map (ev E) = some y → ∃ u, A.map a.eval = some u ∧ VR w (XL X σ ι) ι u y := fun A y e => by
      cases A with
      | none => cases e
      | some z => cases e; exact ⟨_, rfl, hE z⟩
    have hn : ∀ (A : Option Operand), A.map (ev E) = none → A.map a.eval = none := fun A e => by
      cases A with
      | none => rfl
      | some z => cases e
    obtain ⟨y, cv, hK, hr, hv⟩ := sliceW_sound (w := w) (X := X) (ι := ι) (σ := σ) hT hu hte (hE x) (hm lo) (hm hi) (hm mx) (hn lo) (hn hi) (hn mx) h.1 h.2
    exact Good.same hK hs (cv := cv) (by simp [execOp, ho, hr]) hv
  split at h
  · exact fin (by simpa [Op.operands, u1] using h)
  · exact fin (by simpa [Op.operands, u2] using h)
  · exact fin (by simpa [Op.operands, u2] using h)
  · exact fin (by simpa [Op.operands, u3] using h)
  · exact fin (by simpa [Op.operands, u3] using h)
  · exact h.elim
end
end Go.Ab
namespace Go.Ab
open Go.RowKit
def kl (ks : List Nat) (σ : Nat → SV) : Nat → SV := fun k => if k ∈ ks then .dead else σ k
theorem kl_live {ks : List Nat} {σ : Nat → SV} {k : Nat} {b : Blk} (h : kl ks σ k = .live b) : σ k = .live b ∧ k ∉ ks := by
  unfold kl at h
  split at h
  · cases h
  · exact ⟨h, by assumption⟩
section
variable {cx : Cx} {o : Oper} {a : Act} {w : World} {X : Nat → Prop} {ι : Nat → LS} {σ : Nat → SV} {E : Nat → AV} {al : Nat} {K : AV → Upd → List Nat → Prop}
theorem XL_kl' (ks : List Nat) : ∀ b, XL X (kl ks σ) ι b → XL X σ ι b := by
  rintro b (h1 | ⟨k, blk, p, s, h1, h2⟩)
  · exact .inl h1
  · exact .inr ⟨k, blk, p, s, (kl_live h1).1, h2⟩
theorem XL_not {k b p s : Nat} {blk : Blk} (hs : SR w X ι σ) (hk : σ k = .live blk) (hi : ι k = .at b p s) {ks : List Nat} (hm : k ∈ ks) : ¬ XL X (kl ks σ) ι b := by
  rintro (h | ⟨k', blk', p', s', h1, h2⟩)
  · exact (hs.out b h).2 ⟨k, blk, p, s, hk, hi⟩
  · obtain ⟨e1, e2⟩ := kl_live h1
    exact e2 (hs.inj k' k blk' blk b p' s' p s e1 hk h2 hi ▸ hm)
theorem own_row (hs : SR w X ι σ) {v : Value} {s k i n : Nat} {q : Q} (hv : VR w (XL X σ ι) ι v (.own s k i n q)) {s' : Nat} {es : List (List AV)} (hk : σ k = .live (.arr s' es)) {ks : List Nat} (hm : k ∈ ks)
    {es' : List (List AV)} (hes : ∀ (j : Nat) (e : List AV), es'[j]? = some e → es[i + j]? = some e) (hl : es'.length = n) : PR w (XL X (kl ks σ) ι) v (.row s es') := by
  rcases hv.own_inv with ⟨c, b, p, vs, ty, rfl, g1, g2, g3, g4⟩ | ⟨ad, rfl, rfl, _⟩
  · obtain ⟨rfl, us, ty', h3, h4, h5⟩ := hs.arr hk g1
    have hnc : n ≤ c := by cases q <;> simp only [Q.fits] at g2 <;> omega
    have := row_part (w := w) (X := XL X (kl ks σ) ι) (b := b) (p := p) (c := c) (s := s) (es := es) (f := fun i j => us.getD (p + (i * s + j)) undef) (XL_not hs hk g1 hm) (hs.lt hk g1) h4 (fun i j e x hi hj => by
      obtain ⟨u, k1, k2, k3⟩ := h5 i j e x hi hj
      have hu : us.getD (p + (i * s + j)) undef = u := by simp [Array.getD_eq_getD_getElem?, k1]
      rw [cell_of_heap h3, hu]
      exact ⟨k1, k2⟩) (fun i j e x hi hj => by
      obtain ⟨u, k1, k2, k3⟩ := h5 i j e x hi hj
      have hu : us.getD (p + (i * s + j)) undef = u := by simp [Array.getD_eq_getD_getElem?, k1]
      show PR w _ (us.getD (p + (i * s + j)) undef) x
      rw [hu]
      exact k3.anti (XL_kl' ks)) i es' hes (by omega)
    rw [hl] at this
    exact this
  · have : es' = [] := List.eq_nil_of_length_eq_zero hl
    subst this
    exact .row0 _ _ _
theorem vw_sound (hs : SR w X ι σ) {v : Value} {x : AV} (hv : VR w (XL X σ ι) ι v x) {K : AV → List Nat → Prop} (h : vw σ x K) :
    ∃ y ks, K y ks ∧ okp y = true ∧ (∀ k ∈ ks, σ k ≠ .free) ∧ ∀ ks', (∀ k ∈ ks, k ∈ ks') → PR w (XL X (kl ks' σ) ι) v y := by
  have pur : okp x = true → K x [] → ∃ y ks, K y ks ∧ okp y = true ∧ (∀ k ∈ ks, σ k ≠ .free) ∧ ∀ ks', (∀ k ∈ ks, k ∈ ks') → PR w (XL X (kl ks' σ) ι) v y := fun h1 h2 =>
    ⟨x, [], h2, h1, by simp, fun ks' _ => (hv.pr h1).anti (XL_kl' ks')⟩
  unfold vw at h
  split at h
  · rename_i s k i n q
    simp only [arrK_iff, bK_iff] at h
    obtain ⟨s', es, hk, hz, h⟩ := h
    have nf : ∀ k' ∈ [k], σ k' ≠ .free := fun k' hk' => by simp at hk'; subst hk'; rw [hk]; simp
    split at h
    · obtain ⟨h1, hK⟩ := h
      refine ⟨_, _, hK, rfl, nf, fun ks' hks => own_row hs hv hk (hks k (by simp)) (fun j e he => ?_) (by simp; omega)⟩
      rw [List.getElem?_take] at he
      split at he
      · rw [List.getElem?_drop] at he; exact he
      · cases he
    · obtain ⟨h1, hK⟩ := h
      refine ⟨_, _, hK, rfl, nf, fun ks' hks => own_row hs hv hk (hks k (by simp)) (fun j e he => ?_) (by simp; omega)⟩
      rw [List.getElem?_drop] at he; exact he
  · simp only [bK_iff, fo_iff] at h
    exact pur h.1 h.2
theorem vws_sound (hs : SR w X ι σ) : ∀ {l : List AV} {us : List Value}, VRs w (XL X σ ι) ι us l → ∀ {K : List AV → List Nat → Prop}, vws σ l K →
    ∃ l' ks, K l' ks ∧ l'.length = l.length ∧ (∀ y ∈ l', okp y = true) ∧ (∀ k ∈ ks, σ k ≠ .free) ∧ ∀ ks', (∀ k ∈ ks, k ∈ ks') → ∀ (j : Nat) (u : Value) (y : AV), us[j]? = some u → l'[j]? = some y → PR w (XL X (kl ks' σ) ι) u y
  | [], us, _, K, h => ⟨[], [], h, rfl, by simp, by simp, fun _ _ j u y _ hy => by simp at hy⟩
  | x :: r, us, hu, K, h => by
    obtain ⟨hl, hg⟩ := hu
    cases us with
    | nil => simp at hl
    | cons u us =>
      rw [vws_cons] at h
      obtain ⟨y, ks, h1, h2, h3, h4⟩ := vw_sound hs (hg 0 u x rfl rfl) h
      obtain ⟨r', ks', k1, k2, k3, k4, k5⟩ := vws_sound hs (l := r) (us := us) ⟨by simpa using hl, fun j v x a b => hg (j + 1) v x (by simpa using a) (by simpa using b)⟩ h1
      refine ⟨y :: r', ks ++ ks', k1, by simp [k2], ?_, ?_, fun ks'' hks j u' y' hu' hy' => ?_⟩
      · intro z hz
        rcases List.mem_cons.1 hz with rfl | hz
        · exact h2
        · exact k3 z hz
      · intro k hk
        rcases List.mem_append.1 hk with hk | hk
        · exact h3 k hk
        · exact k4 k hk
      · cases j with
        | zero => simp at hu' hy'; subst hu' hy'; exact h4 ks'' (fun k hk => hks k (List.mem_append.2 (.inl hk)))
        | succ j => exact k5 ks'' (fun k hk => hks k (List.mem_append.2 (.inr hk))) j u' y' (by simpa using hu') (by simpa using hy')
theorem fset_spec : ∀ {cs : List AV} {n : Nat} {v : AV} {r : List AV}, fset cs n v = some r → n < cs.length ∧ r = cs.set n v
  | [], n, v, r, h => by cases n <;> cases h
  | a :: cs, 0, v, r, h => by cases h; exact ⟨by simp, rfl⟩
  | a :: cs, n + 1, v, r, h => by
    unfold fset at h
    split at h
    · rename_i r' hr
      cases h
      obtain ⟨h1, h2⟩ := fset_spec hr
      exact ⟨by simp; omega, by simp [h2]⟩
    · cases h
theorem setc_spec : ∀ {vs : List AV} {cs : List AV} {p : Nat} {r : List AV}, setc cs p vs = some r → r.length = cs.length ∧ (vs ≠ [] → p + vs.length ≤ cs.length) ∧ ∀ k, r[k]? = if p ≤ k ∧ k < p + vs.length then vs[k - p]? else cs[k]?
  | [], cs, p, r, h => by
    cases h
    refine ⟨rfl, fun h => absurd rfl h, fun k => ?_⟩
    rw [if_neg (by simp)]
  | v :: vs, cs, p, r, h => by
    unfold setc at h
    split at h
    · rename_i cs' hc
      obtain ⟨h1, rfl⟩ := fset_spec hc
      obtain ⟨k1, k2, k3⟩ := setc_spec h
      refine ⟨by rw [k1]; simp, fun _ => ?_, fun k => ?_⟩
      · by_cases hv : vs = []
        · subst hv; simp; omega
        · have := k2 hv; simp at this ⊢; omega
      · rw [k3 k]
        by_cases e1 : p + 1 ≤ k ∧ k < p + 1 + vs.length
        · rw [if_pos e1, if_pos (by simp; omega), show k - p = (k - (p + 1)) + 1 by omega]
          simp
        · rw [if_neg e1]
          by_cases e2 : k = p
          · subst e2
            rw [if_pos (by simp), List.getElem?_set_self h1]
            simp
          · rw [if_neg (by simp; omega), List.getElem?_set_ne (fun e => e2 e.symm)]
    · cases h
theorem setArr_spec : ∀ (us : List Value) (c : Array Value) (p j0 : Nat), p + j0 + us.length ≤ c.size →
    ((us.zipIdx j0).foldl (fun cs (x : Value × Nat) => cs.setIfInBounds (p + x.2) x.1) c).size = c.size ∧ ∀ k, ((us.zipIdx j0).foldl (fun cs (x : Value × Nat) => cs.setIfInBounds (p + x.2) x.1) c)[k]? = if p + j0 ≤ k ∧ k < p + j0 + us.length then us[k - (p + j0)]? else c[k]?
  | [], c, p, j0, _ => by simp; intro k h1 h2; omega
  | u :: us, c, p, j0, h => by
    simp only [List.zipIdx_cons, List.foldl_cons]
    obtain ⟨k1, k2⟩ := setArr_spec us (c.setIfInBounds (p + j0) u) p (j0 + 1) (by simp at h ⊢; omega)
    refine ⟨by rw [k1]; simp, fun k => ?_⟩
    rw [k2 k]
    by_cases e1 : p + (j0 + 1) ≤ k ∧ k < p + (j0 + 1) + us.length
    · rw [if_pos e1, if_pos (by simp; omega), show k - (p + j0) = (k - (p + (j0 + 1))) + 1 by omega]
      simp
    · rw [if_neg e1]
      by_cases e2 : k = p + j0
      · subst e2
        have : p + j0 < c.size := by simp at h; omega
        rw [if_pos (by simp), Array.getElem?_setIfInBounds_self_of_lt this]
        simp
      · rw [if_neg (by simp; omega), Array.getElem?_setIfInBounds_ne (fun e => e2 e.symm)]
end
end Go.Ab
namespace Go.Ab
open Go.RowKit
theorem run_mapM_list {P : Program} {w : World} {α β : Type} (g : α → Sem β) (h : α → β) : ∀ (l : List α), (∀ x ∈ l, (g x).run P w = .ok (h x) w) → (l.mapM g).run P w = .ok (l.map h) w
  | [], _ => by simp
  | x :: r, hx => by
    rw [List.mapM_cons]
    simp [hx x (by simp), run_mapM_list g h r (fun y hy => hx y (by simp [hy]))]
theorem run_mapM {P : Program} {w : World} {α β : Type} (g : α → Sem β) (h : α → β) (l : Array α) (hx : ∀ x ∈ l.toList, (g x).run P w = .ok (h x) w) : (l.mapM g).run P w = .ok (l.map h) w := by
  rw [Array.mapM_eq_mapM_toList]
  have e : (l.toList.map h).toArray = l.map h := by apply Array.ext'; simp
  simp [run_mapM_list g h l.toList hx, e]
def Rel (R : Value → AV → Prop) (vs : Array Value) (cs : List AV) : Prop := vs.size = cs.length ∧ ∀ (j : Nat) (u : Value) (x : AV), vs[j]? = some u → cs[j]? = some x → R u x
theorem Rel.set {R : Value → AV → Prop} {vs : Array Value} {cs cs' : List AV} {p : Nat} {us : Array Value} {xs : List AV} (h : Rel R vs cs) (k : Rel R us xs) (hne : xs ≠ []) (hc : setc cs p xs = some cs') :
    p + us.size ≤ vs.size ∧ Rel R (us.zipIdx.foldl (fun c (x : Value × Nat) => c.setIfInBounds (p + x.2) x.1) vs) cs' := by
  obtain ⟨h1, h2⟩ := h
  obtain ⟨k1, k2⟩ := k
  obtain ⟨e1, e2, e3⟩ := setc_spec hc
  have hle : p + us.size ≤ vs.size := by rw [k1, h1]; exact e2 hne
  have hf : us.zipIdx.foldl (fun c (x : Value × Nat) => c.setIfInBounds (p + x.2) x.1) vs = (us.toList.zipIdx 0).foldl (fun c (x : Value × Nat) => c.setIfInBounds (p + x.2) x.1) vs := by
    rw [← Array.foldl_toList]; simp
  rw [hf]
  obtain ⟨g1, g2⟩ := setArr_spec us.toList vs p 0 (by simpa using hle)
  refine ⟨hle, by rw [g1, h1, e1], fun j u x hu hx => ?_⟩
  rw [g2 j] at hu
  rw [e3 j] at hx
  simp only [Nat.add_zero, Array.length_toList] at hu
  by_cases hj : p ≤ j ∧ j < p + us.size
  · rw [if_pos hj] at hu
    rw [if_pos (by omega)] at hx
    exact k2 (j - p) u x (by simpa using hu) hx
  · rw [if_neg hj] at hu
    rw [if_neg (by omega)] at hx
    exact h2 j u x hu hx
section
variable {cx : Cx} {o : Oper} {a : Act} {w : World} {X : Nat → Prop} {ι : Nat → LS} {σ : Nat → SV} {E : Nat → AV} {al : Nat} {K : AV → Upd → List Nat → Prop}
theorem fillp_fill {fs : List (Nat × Nat × Nat)} {place : Nat → Option (Nat × Nat)} (hp : ∀ i d u s, fs[i]? = some (d, u, s) → place i = some (d, s) ∧ s ≠ 0) :
    ∀ {is : List Nat} {vs : List AV} {us : List Value} {cs cs' : List AV} {cells : Array Value}, VRs w X ι us vs → Rel (fun u x => u.oneCell' = true ∧ VR w X ι u x) cells cs → fillp fs cs is vs = some cs' →
      ∃ cells', Instr.fill place cells (is.zip us) = some cells' ∧ Rel (fun u x => u.oneCell' = true ∧ VR w X ι u x) cells' cs'
  | [], vs, us, cs, cs', cells, hu, hr, h => by
    cases vs with
    | nil => cases h; exact ⟨cells, rfl, hr⟩
    | cons v vs => cases h
  | i :: is, vs, us, cs, cs', cells, hu, hr, h => by
    cases vs with
    | nil => cases h
    | cons v vs =>
      obtain ⟨hl, hg⟩ := hu
      cases us with
      | nil => simp at hl
      | cons u us =>
        unfold fillp at h
        split at h
        · rename_i d t s x hf hc
          cases hb : Nat.beq x.length s with
          | false => rw [hb] at h; cases h
          | true =>
            rw [hb] at h
            have hxs := Nat.eq_of_beq_eq_true hb
            cases hs : setc cs d x with
            | none => rw [hs] at h; cases h
            | some c1 =>
              rw [hs] at h
              obtain ⟨p1, p2⟩ := hp i d t s hf
              obtain ⟨q1, q2, _⟩ := cellsOf_rel (hg 0 u v rfl rfl) hc
              obtain ⟨r1, r2⟩ := hr.set ⟨q1, q2⟩ (fun e => by rw [e] at hxs; exact p2 hxs.symm) hs
              obtain ⟨cells', s1, s2⟩ := fillp_fill hp (is := is) (vs := vs) (us := us) ⟨by simpa using hl, fun j v x a b => hg (j + 1) v x (by simpa using a) (by simpa using b)⟩ r2 h
              refine ⟨cells', ?_, s2⟩
              simp only [List.zip_cons_cons, Instr.fill, p1]
              rw [if_neg (by simp; omega)]
              exact s1
        · cases h
theorem zero_rel {P : Program} {t : Nat} {ti : TI} {i : TypeInfo} {d : TypeDesc} {z : Value} (f : TFact P t ti i d z) (w : World) (Y : Nat → Prop) : Rel (fun u x => u.oneCell' = true ∧ PR w Y u x) z.cells ti.zero := by
  refine ⟨by rw [f.zs]; simp, fun j u x hu hx => ?_⟩
  rw [f.zs, List.getElem?_map] at hx
  have hu' : z.cells.toList[j]? = some u := by simpa using hu
  rw [hu'] at hx
  cases hx
  have hok : okp (cv0 u) = true := List.all_eq_true.1 f.zok _ (List.mem_map.2 ⟨u, List.mem_of_getElem? hu', rfl⟩)
  exact ⟨(cv0_PR w Y u hok).2, (cv0_PR w Y u hok).1⟩
theorem zip_parts (ps : Array (Nat × Operand)) : (ps.map fun (i, x) => (i, a.eval x)).toList = (ps.toList.map (·.1)).zip (ps.toList.map fun p => a.eval p.2) := by
  simp [List.zip_map']
theorem ops_parts (ps : Array (Nat × Operand)) : ((ps.toList.map (·.2)).toArray).toList.map (ev E) = ps.toList.map fun p => ev E p.2 := by
  simp [Function.comp_def]
theorem s_build {t : Nat} {ps : Array (Nat × Operand)} (hT : TOk cx) (ho : o.op = .build t ps) (hs : SR w X ι σ) (hE : ∀ x, VR w (XL X σ ι) ι (a.eval x) (ev E x)) (h : opV cx al (.build t ps) ((Op.build t ps).operands.toList.map (ev E)) σ K) : Good cx o a w X ι σ K := by
  simp only [opV] at h
  split at h
  · rename_i fs ks sz by_ z0 ht
    simp only [opK_iff] at h
    obtain ⟨cs, hc, hK⟩ := h
    obtain ⟨i, d, z, f⟩ := hT.fact ht
    obtain ⟨flds, rfl, hf, _⟩ := f.struct rfl
    obtain ⟨hl, hg⟩ := fsOf_get hf
    have hm : (flds.mapM fun f => do pure (f.offset, ← sizeOf f.type) : Sem _).run cx.P w = .ok (flds.map fun f => (f.offset, ((cx.P.info? f.type).map (·.size)).getD 0)) w := by
      refine run_mapM _ _ _ (fun fl hfl => ?_)
      obtain ⟨j, hj⟩ := List.getElem?_of_mem hfl
      obtain ⟨i', h1, h2, h3⟩ := hg j fl hj
      simp [sizeOf, typeInfo, h1]
    have hz := zero_rel f w (XL X σ ι)
    have hr : Rel (fun u x => u.oneCell' = true ∧ VR w (XL X σ ι) ι u x) z.cells z0 := ⟨hz.1, fun j u x a b => ⟨(hz.2 j u x a b).1, .pure _ _ (hz.2 j u x a b).2⟩⟩
    have hc : fillp fs z0 (ps.toList.map (·.1)) (ps.toList.map fun p => ev E p.2) = some cs := by rw [← ops_parts ps]; exact hc
    obtain ⟨cells', e1, e2⟩ := fillp_fill (w := w) (X := XL X σ ι) (ι := ι) (place := fun j => (flds.map fun f => (f.offset, ((cx.P.info? f.type).map (·.size)).getD 0))[j]?) (fun j d u s hj => by
      have hjl : j < flds.size := by have := (List.getElem?_eq_some_iff.1 hj).1; rw [hl] at this; simpa using this
      obtain ⟨i', h1, h2, h3⟩ := hg j flds[j] (by simp [hjl])
      rw [hj] at h3
      cases h3
      exact ⟨by simp [hjl, h1], h2⟩) (us := ps.toList.map fun p => a.eval p.2) ⟨by simp, fun j v x hv hx => by
      rw [List.getElem?_map] at hv hx
      cases hq : ps.toList[j]? with
      | none => rw [hq] at hv; cases hv
      | some y => rw [hq] at hv hx; cases hv; cases hx; exact hE _⟩ hr hc
    refine Good.same hK hs (cv := .agg cells') ?_ (.agg _ _ e2.1 fun j u x a b => (e2.2 j u x a b).2)
    have e3 := zip_parts (a := a) ps
    simp only [execOp, ho, Instr.build, Sem.run_bind, f.run_zero, Result.andThen_ok, f.run_und, hm, e3, e1, Sem.run_pure]
  · exact h.elim
theorem eset_spec : ∀ {es : List (List AV)} {n : Nat} {v : List AV} {r : List (List AV)}, eset es n v = some r → n < es.length ∧ r = es.set n v
  | [], n, v, r, h => by cases n <;> cases h
  | a :: cs, 0, v, r, h => by cases h; exact ⟨by simp, rfl⟩
  | a :: cs, n + 1, v, r, h => by
    unfold eset at h
    split at h
    · rename_i r' hr
      cases h
      obtain ⟨h1, h2⟩ := eset_spec hr
      exact ⟨by simp; omega, by simp [h2]⟩
    · cases h
def FR (R : Value → AV → Prop) (s : Nat) (cells : Array Value) (es : List (List AV)) : Prop :=
  cells.size = es.length * s ∧ (∀ (i : Nat) (e : List AV), es[i]? = some e → e.length = s) ∧ ∀ (i j : Nat) (e : List AV) (x : AV), es[i]? = some e → e[j]? = some x → ∃ u, cells[i * s + j]? = some u ∧ R u x
theorem seg_ne {i i' s j j' : Nat} (h : i ≠ i') (hj : j < s) (hj' : j' < s) : i * s + j ≠ i' * s + j' := by
  intro e
  rcases Nat.lt_or_gt_of_ne h with h | h
  · have : (i + 1) * s ≤ i' * s := Nat.mul_le_mul_right _ h
    rw [Nat.add_mul] at this; omega
  · have : (i' + 1) * s ≤ i * s := Nat.mul_le_mul_right _ h
    rw [Nat.add_mul] at this; omega
theorem FR.set {R : Value → AV → Prop} {s : Nat} {cells : Array Value} {es : List (List AV)} (h : FR R s cells es) {i : Nat} (hi : i < es.length) {us : Array Value} {xs : List AV} (k : Rel R us xs) (hl : xs.length = s) :
    i * s + us.size ≤ cells.size ∧ FR R s (us.zipIdx.foldl (fun c (x : Value × Nat) => c.setIfInBounds (i * s + x.2) x.1) cells) (es.set i xs) := by
  obtain ⟨h1, h2, h3⟩ := h
  obtain ⟨k1, k2⟩ := k
  have hle : i * s + us.size ≤ cells.size := by
    have : (i + 1) * s ≤ es.length * s := Nat.mul_le_mul_right _ hi
    rw [Nat.add_mul] at this
    rw [h1, k1, hl]; omega
  have hf : us.zipIdx.foldl (fun c (x : Value × Nat) => c.setIfInBounds (i * s + x.2) x.1) cells = (us.toList.zipIdx 0).foldl (fun c (x : Value × Nat) => c.setIfInBounds (i * s + x.2) x.1) cells := by
    rw [← Array.foldl_toList]; simp
  rw [hf]
  obtain ⟨g1, g2⟩ := setArr_spec us.toList cells (i * s) 0 (by simpa using hle)
  simp only [Nat.add_zero, Array.length_toList] at g2
  refine ⟨hle, by rw [g1, h1]; simp, fun j e he => ?_, fun j p e x he hx => ?_⟩
  · by_cases hj : j = i
    · subst hj
      rw [List.getElem?_set_self hi] at he
      cases he; exact hl
    · rw [List.getElem?_set_ne (fun e => hj e.symm)] at he
      exact h2 j e he
  · by_cases hj : j = i
    · subst hj
      rw [List.getElem?_set_self hi] at he
      cases he
      have hp : p < s := by rw [← hl]; exact (List.getElem?_eq_some_iff.1 hx).1
      have hpu : p < us.size := by omega
      refine ⟨us[p], ?_, k2 p _ x (by simp [hpu]) hx⟩
      rw [g2, if_pos (by omega)]
      simp [hpu]
    · rw [List.getElem?_set_ne (fun e => hj e.symm)] at he
      obtain ⟨u, e1, e2⟩ := h3 j p e x he hx
      have hp : p < s := by rw [← h2 j e he]; exact (List.getElem?_eq_some_iff.1 hx).1
      refine ⟨u, ?_, e2⟩
      rw [g2, if_neg]
      · exact e1
      · rintro ⟨a1, a2⟩
        have := seg_ne hj hp (j' := j * s + p - i * s) (by omega)
        omega
theorem fills_fill (hs : SR w X ι σ) {s : Nat} (hs0 : s ≠ 0) : ∀ {is : List Nat} {vs : List AV} {us : List Value} {es : List (List AV)} {cells : Array Value} {K : List (List AV) → List Nat → Prop}, VRs w (XL X σ ι) ι us vs → cells.size = es.length * s → fills σ s es is vs K →
    ∃ es' ks, K es' ks ∧ (∀ k ∈ ks, σ k ≠ .free) ∧ es'.length = es.length ∧ ∃ cells', Instr.fill (fun i => some (i * s, s)) cells (is.zip us) = some cells' ∧
      ∀ ks', (∀ k ∈ ks, k ∈ ks') → FR (fun u x => u.oneCell' = true ∧ PR w (XL X (kl ks' σ) ι) u x) s cells es → FR (fun u x => u.oneCell' = true ∧ PR w (XL X (kl ks' σ) ι) u x) s cells' es'
  | is, [], us, es, cells, K, hu, hz, h => by
    have : us = [] := List.eq_nil_of_length_eq_zero hu.1
    subst this
    cases is with
    | cons i is => exact h.elim
    | nil => exact ⟨es, [], h, by simp, rfl, cells, rfl, fun _ _ h => h⟩
  | is, v :: vs, us, es, cells, K, hu, hz, h => by
    cases is with
    | nil => exact h.elim
    | cons i is =>
      obtain ⟨hl, hg⟩ := hu
      cases us with
      | nil => simp at hl
      | cons u us =>
        have h' : opK (cellsOf v) fun x => vws σ x fun x' ks => bK (Nat.beq x'.length s) <| opK (eset es i x') fun es' => fills σ s es' is vs fun es'' ks' => K es'' (ks ++ ks') := h
        simp only [opK_iff, bK_iff] at h'
        obtain ⟨x, hx, h'⟩ := h'
        obtain ⟨q1, q2, _⟩ := cellsOf_rel (hg 0 u v rfl rfl) hx
        obtain ⟨x', ks, h2, h3, h4, h5, h6⟩ := vws_sound hs (us := u.cells.toList) (l := x) ⟨by simpa using q1, fun j u' y a b => (q2 j u' y (by simpa using a) b).2⟩ h'
        obtain ⟨hb, es1, he, h7⟩ := h2
        have hb := Nat.eq_of_beq_eq_true hb
        obtain ⟨e1, rfl⟩ := eset_spec he
        obtain ⟨es', ks1, k1, k2, k3, cells', k4, k5⟩ := fills_fill hs hs0 (is := is) (vs := vs) (us := us) (cells := u.cells.zipIdx.foldl (fun c (x : Value × Nat) => c.setIfInBounds (i * s + x.2) x.1) cells) ⟨by simpa using hl, fun j v x a b => hg (j + 1) v x (by simpa using a) (by simpa using b)⟩ (by
          have hle : i * s + u.cells.size ≤ cells.size := by
            have : (i + 1) * s ≤ es.length * s := Nat.mul_le_mul_right _ e1
            rw [Nat.add_mul] at this
            rw [hz, q1]; omega
          have hf : u.cells.zipIdx.foldl (fun c (x : Value × Nat) => c.setIfInBounds (i * s + x.2) x.1) cells = (u.cells.toList.zipIdx 0).foldl (fun c (x : Value × Nat) => c.setIfInBounds (i * s + x.2) x.1) cells := by
            rw [← Array.foldl_toList]; simp
          rw [hf, (setArr_spec u.cells.toList cells (i * s) 0 (by simpa using hle)).1, hz]; simp) h7
        refine ⟨es', ks ++ ks1, k1, ?_, by rw [k3]; simp, cells', ?_, fun ks' hks hfr => k5 ks' (fun k hk => hks k (List.mem_append.2 (.inr hk))) ?_⟩
        · intro k hk
          rcases List.mem_append.1 hk with hk | hk
          · exact h5 k hk
          · exact k2 k hk
        · simp only [List.zip_cons_cons, Instr.fill]
          have hle : i * s + u.cells.size ≤ cells.size := by
            have : (i + 1) * s ≤ es.length * s := Nat.mul_le_mul_right _ e1
            rw [Nat.add_mul] at this
            rw [hz, q1]; omega
          rw [if_neg (by simp; omega)]
          exact k4
        · refine (hfr.set e1 (us := u.cells) (xs := x') ⟨by omega, fun j u' y a b => ?_⟩ hb).2
          have hj : j < x.length := by rw [← h3]; exact (List.getElem?_eq_some_iff.1 b).1
          exact ⟨(q2 j u' x[j] a (by simp [hj])).1, h6 ks' (fun k hk => hks k (List.mem_append.2 (.inl hk))) j u' y (by simpa using a) b⟩
theorem SR.killAlloc {w' : World} (hs : SR w X ι σ) {k : Nat} (hk : σ k = .free) {ks : List Nat} (hks : ∀ k ∈ ks, σ k ≠ .free) {cells : Array Value} {ty : TypeId} (hh : w'.heap = w.heap.push (.cells cells ty (0, 0)))
    (h1 : w'.os = w.os) (h2 : w'.tape = w.tape) (h3 : w'.output = w.output) (h4 : w.drawn ≤ w'.drawn) (blk : Blk) (s : Nat)
    (hb : ∀ (Y : Nat → Prop) (ι' : Nat → LS), (∀ v x, VR w (XL X (kl ks σ) ι) ι v x → VR w' Y ι' v x) → (∀ v x, PR w (XL X (kl ks σ) ι) v x → PR w' Y v x) → BR w' Y ι' (.at w.heap.size 0 s) blk) :
    Ext ι (upI ι k (.at w.heap.size 0 s)) ∧ SR w' X (upI ι k (.at w.heap.size 0 s)) (updF σ ((k, .live blk) :: kills ks)) ∧ Adv (Lv σ ι) w (Lv (updF σ ((k, .live blk) :: kills ks)) (upI ι k (.at w.heap.size 0 s))) w' := by
  obtain ⟨s1, a1⟩ := hs.kill ks hks (σ' := kl ks σ) rfl
  have hkn : k ∉ ks := fun h => hks k h hk
  have hk' : kl ks σ k = .free := by unfold kl; rw [if_neg hkn]; exact hk
  obtain ⟨e, s2, a2⟩ := s1.alloc hk' hh h1 h2 h3 h4 blk s hb
  have he : updF (kl ks σ) [(k, .live blk)] = updF σ ((k, .live blk) :: kills ks) := by
    funext k'
    show (if k' = k then SV.live blk else kl ks σ k') = updF (fun k' => if k' = k then SV.live blk else σ k') (kills ks) k'
    rw [updF_kills]
    unfold kl
    by_cases e1 : k' = k
    · subst e1; simp [hkn]
    · simp [e1]
  rw [he] at s2 a2
  exact ⟨e, s2, a1.trans a2⟩
theorem s_buildSlice {t n : Nat} {ps : Array (Nat × Operand)} (hT : TOk cx) (ho : o.op = .buildSlice t n ps) (hs : SR w X ι σ) (hE : ∀ x, VR w (XL X σ ι) ι (a.eval x) (ev E x)) (h : opV cx al (.buildSlice t n ps) ((Op.buildSlice t n ps).operands.toList.map (ev E)) σ K) : Good cx o a w X ι σ K := by
  simp only [opV] at h
  obtain ⟨e, ti, hu, hte, h⟩ := elemT_fact hT h
  obtain ⟨i, d, z, f⟩ := hT.fact hte
  cases n with
  | zero =>
    simp only [bK_iff] at h
    have hp : ps = #[] := by
      have := h.1
      simp at this
      exact this
    subst hp
    have hr : (execOp a.eval o).run cx.P w = .ok (.value (.slice (some ⟨w.heap.size, 0, none⟩) 0 0)) { w with heap := w.heap.push (.cells #[] e) } := by
      have hz : Array.map (fun _ => (default : Value)) (Array.range 0) = #[] := by simp
      simp [execOp, ho, Instr.buildSlice, run_underlying hu, f.run_size, Instr.fill, newRow]
      rw [hz]
    have ha : Adv (Lv σ ι) w (Lv σ ι) { w with heap := w.heap.push (.cells #[] e) } := by
      refine ⟨rfl, rfl, rfl, by simp, fun b hb hn => ⟨push_old rfl hb, hn⟩, fun b vs ty fr h => ⟨vs, ?_, rfl⟩, Nat.le_refl _⟩
      rw [push_old rfl (Array.getElem?_eq_some_iff.1 h).1]; exact h
    refine ⟨_, _, _, h.2, Runs.val hr (Ext.refl _) (hs.next (Ext.refl _) ha (fun k b h => .inl ⟨h, fun c p s hc => push_old rfl (hs.lt h hc)⟩) hs.inj hs.free) (.pure _ _ (.emp _)) ha⟩
  | succ n =>
    simp only [bK_iff] at h
    obtain ⟨hsm, h⟩ := h
    have hsm := Nat.le_of_ble_eq_true hsm
    have hs0 : ti.size ≠ 0 := f.pos
    have hpos : ¬ (n + 1) * i.size = 0 := by rw [f.size]; exact Nat.mul_ne_zero (by omega) hs0
    have hps : VRs w (XL X σ ι) ι (ps.toList.map fun p => a.eval p.2) (ps.toList.map fun p => ev E p.2) := ⟨by simp, fun j v x hv hx => by
      rw [List.getElem?_map] at hv hx
      cases hq : ps.toList[j]? with
      | none => rw [hq] at hv; cases hv
      | some y => rw [hq] at hv hx; cases hv; cases hx; exact hE _⟩
    have h : fills σ ti.size (List.replicate (n + 1) ti.zero) (ps.toList.map (·.1)) (ps.toList.map fun p => ev E p.2) (fun es ks => freeK σ al (K (.own ti.size al 0 (n + 1) .full) ((al, .live (.arr ti.size es)) :: kills ks) ks)) := by rw [← ops_parts ps]; exact h
    obtain ⟨es, ks, h1, h2, h3, cells, h4, h5⟩ := fills_fill hs hs0 (us := ps.toList.map fun p => a.eval p.2) (cells := (Array.range ((n + 1) * i.size)).map (z.cells[· % z.cells.size]!)) hps (by simp [f.size]) h
    simp only [freeK_iff] at h1
    obtain ⟨hf, hK⟩ := h1
    have hfill : Instr.fill (fun j => some (j * i.size, i.size)) ((Array.range ((n + 1) * i.size)).map (z.cells[· % z.cells.size]!)) (ps.map fun (i, x) => (i, a.eval x)).toList = some cells := by
      rw [zip_parts, f.size]
      rw [f.size] at h4
      exact h4
    have hr : (execOp a.eval o).run cx.P w = .ok (.value (.slice (some ⟨w.heap.size, 0, none⟩) (n + 1) (n + 1))) (w.alloc (.cells cells e)) := by
      have := run_buildSlice (P := cx.P) w t e (n + 1) (ps.map fun (i, x) => (i, a.eval x)) cells i z hu f.info f.zero (by rw [f.size]; omega) hpos hfill
      simp [execOp, ho, this]
    have hfr := h5 ks (fun _ h => h) (by
      obtain ⟨z1, z2⟩ := zero_rel f w (XL X (kl ks σ) ι)
      refine ⟨by simp [f.size], fun j e he => ?_, fun j p e x he hx => ?_⟩
      · rw [List.getElem?_replicate] at he
        split at he
        · cases he; rw [← z1]; exact f.len
        · cases he
      · rw [List.getElem?_replicate] at he
        split at he
        · rename_i hj
          cases he
          have hp : p < ti.size := by rw [← f.len, z1]; exact (List.getElem?_eq_some_iff.1 hx).1
          have hpz : p < z.cells.size := by rw [f.len]; exact hp
          have hlt : j * ti.size + p < (n + 1) * ti.size := by
            have : (j + 1) * ti.size ≤ (n + 1) * ti.size := Nat.mul_le_mul_right _ (by omega)
            rw [Nat.add_mul] at this; omega
          refine ⟨z.cells[p], ?_, z2 p _ x (by simp [hpz]) hx⟩
          rw [Array.getElem?_map, Array.getElem?_range, if_pos (by rw [f.size]; exact hlt)]
          have : (j * ti.size + p) % z.cells.size = p := by
            rw [f.len, Nat.add_comm, Nat.add_mul_mod_self_right, Nat.mod_eq_of_lt hp]
          simp [this, hpz]
        · cases he)
    obtain ⟨g1, g2, g3⟩ := hfr
    have hh : (w.alloc (.cells cells e)).heap = w.heap.push (.cells cells e) := rfl
    obtain ⟨he, hs', ha⟩ := hs.killAlloc (w' := w.alloc (.cells cells e)) hf h2 hh rfl rfl rfl (Nat.le_refl _) (.arr ti.size es) ti.size (fun Y ι' _ hp => ⟨rfl, cells, e, push_new hh, g2, fun i j e x a b => by
      obtain ⟨u, k1, k2, k3⟩ := g3 i j e x a b
      exact ⟨u, by rw [Nat.zero_add]; exact k1, k2, hp _ _ k3⟩⟩)
    refine ⟨_, _, _, hK, Runs.val hr he hs' ?_ ha⟩
    have := VR.own (w := w.alloc (.cells cells e)) (X := XL X (updF σ ((al, .live (.arr ti.size es)) :: kills ks)) (upI ι al (.at w.heap.size 0 ti.size))) (ι := upI ι al (.at w.heap.size 0 ti.size)) ti.size al 0 (n + 1) (n + 1) w.heap.size 0 .full cells e (by simp [upI]) rfl (push_new hh) (by rw [g1, h3]; simp)
    simpa using this
end
end Go.Ab
namespace Go.Ab
open Go.RowKit
def segA (cur : Array Value) (p : Nat) (us : List Value) : Array Value := (cur.toList.take p ++ us ++ cur.toList.drop (p + us.length)).toArray
theorem segA_size {cur : Array Value} {p : Nat} {us : List Value} (h : p + us.length ≤ cur.size) : (segA cur p us).size = cur.size := by
  simp [segA]; omega
theorem segA_get {cur : Array Value} {p : Nat} {us : List Value} (h : p + us.length ≤ cur.size) (k : Nat) : (segA cur p us)[k]? = if p ≤ k ∧ k < p + us.length then us[k - p]? else cur[k]? := by
  have hp : (cur.toList.take p).length = p := by simp; omega
  simp only [segA, List.getElem?_toArray, List.append_assoc]
  by_cases h1 : k < p
  · rw [List.getElem?_append_left (by omega), if_neg (by omega), List.getElem?_take, if_pos h1]; simp
  · rw [List.getElem?_append_right (by omega), hp]
    by_cases h2 : k < p + us.length
    · rw [List.getElem?_append_left (by omega), if_pos (by omega)]
    · rw [List.getElem?_append_right (by omega), if_neg (by omega), List.getElem?_drop]
      rw [show p + us.length + (k - p - us.length) = k by omega]
      simp
theorem run_storeCells_seg {P : Program} {w : World} {b p : Nat} {ty : TypeId} {us : List Value} {cur : Array Value} (hb : w.heap[b]? = some (.cells cur ty (0, 0))) (h : p + us.length ≤ cur.size) (h1 : ∀ u ∈ us, u.oneCell' = true) :
    (storeCells ⟨b, p, none⟩ us).run P w = .ok () (w.setRow b (segA cur p us)) := by
  have := run_storeCells_at P b p ty us 0 cur w hb (by omega) h1
  simpa [segA] using this
section
variable {cx : Cx} {o : Oper} {a : Act} {w : World} {X : Nat → Prop} {ι : Nat → LS} {σ : Nat → SV} {E : Nat → AV} {al : Nat} {K : AV → Upd → List Nat → Prop}
theorem SR.setSeg (hs : SR w X ι σ) {k c p s : Nat} {blk0 : Blk} (hk : σ k = .live blk0) (hi : ι k = .at c p s) {cur cur' : Array Value} {ty : TypeId} (hv : w.heap[c]? = some (.cells cur ty (0, 0))) (hl : cur'.size = cur.size) (blk : Blk)
    (hb : ∀ (Y : Nat → Prop), (∀ v x, VR w (XL X σ ι) ι v x → VR (w.setRow c cur') Y ι v x) → (∀ v x, PR w (XL X σ ι) v x → PR (w.setRow c cur') Y v x) → BR (w.setRow c cur') Y ι (.at c p s) blk) :
    SR (w.setRow c cur') X ι (updF σ [(k, .live blk)]) ∧ Adv (Lv σ ι) w (Lv (updF σ [(k, .live blk)]) ι) (w.setRow c cur') :=
  hs.set (w' := w.setRow c cur') hk hi rfl rfl rfl (Nat.le_refl _) (setRow_size _ _ _) (fun _ hb => setRow_other _ _ _ _ hb) hv (setRow_heap w c cur cur' ty (0, 0) hv) hl blk hb
theorem SR.killSet (hs : SR w X ι σ) {k c p s : Nat} {blk0 : Blk} (hk : σ k = .live blk0) (hi : ι k = .at c p s) {ks : List Nat} (hks : ∀ k ∈ ks, σ k ≠ .free) (hkn : k ∉ ks) {cur cur' : Array Value} {ty : TypeId} (hv : w.heap[c]? = some (.cells cur ty (0, 0))) (hl : cur'.size = cur.size) (blk : Blk)
    (hb : ∀ (Y : Nat → Prop), (∀ v x, VR w (XL X (kl ks σ) ι) ι v x → VR (w.setRow c cur') Y ι v x) → (∀ v x, PR w (XL X (kl ks σ) ι) v x → PR (w.setRow c cur') Y v x) → BR (w.setRow c cur') Y ι (.at c p s) blk) :
    SR (w.setRow c cur') X ι (updF σ ((k, .live blk) :: kills ks)) ∧ Adv (Lv σ ι) w (Lv (updF σ ((k, .live blk) :: kills ks)) ι) (w.setRow c cur') := by
  obtain ⟨s1, a1⟩ := hs.kill ks hks (σ' := kl ks σ) rfl
  have hk' : kl ks σ k = .live blk0 := by unfold kl; rw [if_neg hkn]; exact hk
  obtain ⟨s2, a2⟩ := s1.setSeg hk' hi hv hl blk hb
  have he : updF (kl ks σ) [(k, .live blk)] = updF σ ((k, .live blk) :: kills ks) := by
    funext k'
    show (if k' = k then SV.live blk else kl ks σ k') = updF (fun k' => if k' = k then SV.live blk else σ k') (kills ks) k'
    rw [updF_kills]
    unfold kl
    by_cases e1 : k' = k
    · subst e1; simp [hkn]
    · simp [e1]
  rw [he] at s2 a2
  exact ⟨s2, a1.trans a2⟩
theorem memN_iff {k : Nat} : ∀ {l : List Nat}, memN k l = true ↔ k ∈ l
  | [] => by simp [memN]
  | a :: r => by
    unfold memN
    cases h : Nat.beq k a with
    | true => simp [Nat.eq_of_beq_eq_true h]
    | false =>
      have : k ≠ a := fun e => by subst e; simp at h
      simp [this, memN_iff]
theorem s_store {t : Nat} {x y : Operand} (hT : TOk cx) (ho : o.op = .store t x y) (hs : SR w X ι σ) (hE : ∀ x, VR w (XL X σ ι) ι (a.eval x) (ev E x)) (h : opV cx al (.store t x y) [ev E x, ev E y] σ K) : Good cx o a w X ι σ K := by
  have hx := hE x
  simp only [opV, opK_iff, u2, bK_iff] at h
  obtain ⟨ti, ht, xs, hxs, hz, h⟩ := h
  obtain ⟨i, d, z, f⟩ := hT.fact ht
  have hz := Nat.eq_of_beq_eq_true hz
  obtain ⟨q1, q2, _⟩ := cellsOf_rel (hE y) hxs
  have hsz : (a.eval y).cells.size = ti.size := by rw [q1, hz]
  have hone : ∀ u ∈ (a.eval y).cells.toList, u.oneCell' = true := fun u hu => by
    obtain ⟨j, hj⟩ := List.getElem?_of_mem hu
    have hjl : j < xs.length := by rw [← q1]; have := (List.getElem?_eq_some_iff.1 hj).1; simpa using this
    exact (q2 j u xs[j] (by simpa using hj) (by simp [hjl])).1
  have hne : xs ≠ [] := fun e => by rw [e] at hz; exact f.pos hz.symm
  have key : ∀ b p cur ty, a.eval x = .pointer (some ⟨b, p, none⟩) → w.heap[b]? = some (.cells cur ty (0, 0)) → p + ti.size ≤ cur.size → (execOp a.eval o).run cx.P w = .ok .skip (w.setRow b (segA cur p (a.eval y).cells.toList)) := fun b p cur ty e hb hle => by
    have := run_storeCells_seg (P := cx.P) (us := (a.eval y).cells.toList) hb (by simp [hsz]; exact hle) hone
    simp [execOp, ho, e, Instr.storeAt, Instr.sureAddr, storeVar, f.run_size, hsz, this]
  cases hc : ev E x with
  | bptr k p =>
    rw [hc] at h hx
    simp only [boxK_iff] at h
    obtain ⟨cs, hk, cs', hc', hK⟩ := h
    obtain ⟨b, c, s, h1, h2⟩ := hx.bptr_inv
    obtain ⟨rfl, vs, ty, h3, h4, h5⟩ := hs.box hk h1
    obtain ⟨e1, e2, e3⟩ := setc_spec hc'
    have hle : 0 + p + ti.size ≤ vs.size := by have := e2 hne; omega
    have hle' : 0 + p + (a.eval y).cells.toList.length ≤ vs.size := by simp [hsz]; omega
    obtain ⟨s2, a2⟩ := hs.setSeg hk h1 h3 (segA_size hle') (.box cs') (fun Y hv _ => ⟨rfl, _, ty, setRow_heap w b vs _ ty (0, 0) h3, by rw [segA_size hle', h4, e1], fun j u x' hu hx' => by
      rw [segA_get hle'] at hu
      rw [e3] at hx'
      by_cases hj : 0 + p ≤ j ∧ j < 0 + p + (a.eval y).cells.toList.length
      · rw [if_pos hj] at hu
        have : (a.eval y).cells.toList.length = xs.length := by simp [q1]
        rw [if_pos (by omega)] at hx'
        have g := q2 (j - p) u x' (by rw [show j - p = j - (0 + p) by omega]; simpa using hu) hx'
        exact ⟨g.1, hv _ _ g.2⟩
      · rw [if_neg hj] at hu
        have : (a.eval y).cells.toList.length = xs.length := by simp [q1]
        rw [if_neg (by omega)] at hx'
        have g := h5 j u x' hu hx'
        exact ⟨g.1, hv _ _ g.2⟩⟩)
    exact ⟨_, _, _, hK, Runs.skip (key _ _ _ _ h2 h3 hle) (Ext.refl _) s2 a2⟩
  | ptr k i p =>
    rw [hc] at h hx
    simp only [arrK_iff] at h
    obtain ⟨s', es, hk, h⟩ := h
    obtain ⟨b, c, s, h1, h2⟩ := hx.ptr_inv
    obtain ⟨rfl, vs, ty, h3, h4, h5⟩ := hs.arr hk h1
    obtain ⟨xs', ks, hh, g2, g3, g4, g5⟩ := vws_sound hs (us := (a.eval y).cells.toList) (l := xs) ⟨by simpa using q1, fun j u' y a b => (q2 j u' y (by simpa using a) b).2⟩ h
    obtain ⟨hkn, e, he, e', hse, hK⟩ := hh
    have hkn : k ∉ ks := fun hm => by rw [memN_iff.2 hm] at hkn; cases hkn
    have hx'l : xs'.length = ti.size := by rw [g2, hz]
    have hne' : xs' ≠ [] := fun e => by rw [e] at hx'l; exact f.pos hx'l.symm
    obtain ⟨e1, e2, e3⟩ := setc_spec hse
    have hes := h4 i e he
    have hps : p + ti.size ≤ s := by have := e2 hne'; omega
    have hpos := f.pos
    have hle : c + (i * s + p) + ti.size ≤ vs.size := by
      have hlast : e[s - 1]? = some e[s - 1] := by simp
      obtain ⟨u, k1, _⟩ := h5 i (s - 1) e _ he hlast
      have := (Array.getElem?_eq_some_iff.1 k1).1
      omega
    have hul : (a.eval y).cells.toList.length = ti.size := by simp [hsz]
    have hle' : c + (i * s + p) + (a.eval y).cells.toList.length ≤ vs.size := by omega
    obtain ⟨s2, a2⟩ := hs.killSet hk h1 g4 hkn h3 (segA_size hle') (.arr s (es.set i e')) (fun Y _ hp => ⟨rfl, _, ty, setRow_heap w b vs _ ty (0, 0) h3, fun j e0 he0 => by
      by_cases hj : j = i
      · subst hj
        rw [List.getElem?_set_self (List.getElem?_eq_some_iff.1 he).1] at he0
        cases he0; omega
      · rw [List.getElem?_set_ne (fun e => hj e.symm)] at he0
        exact h4 j e0 he0, fun j m e0 x' he0 hx' => by
      rw [segA_get hle', hul]
      by_cases hj : j = i
      · subst hj
        rw [List.getElem?_set_self (List.getElem?_eq_some_iff.1 he).1] at he0
        cases he0
        rw [e3] at hx'
        by_cases hm : p ≤ m ∧ m < p + ti.size
        · rw [if_pos (by omega)] at hx'
          rw [if_pos (by omega), show c + (j * s + m) - (c + (j * s + p)) = m - p by omega]
          have hmu : m - p < (a.eval y).cells.toList.length := by omega
          refine ⟨(a.eval y).cells.toList[m - p], by rw [List.getElem?_eq_getElem hmu], hone _ (List.getElem_mem hmu), hp _ _ (g5 ks (fun _ h => h) (m - p) _ x' (by rw [List.getElem?_eq_getElem hmu]) hx')⟩
        · rw [if_neg (by omega)] at hx'
          rw [if_neg (by omega)]
          obtain ⟨u, k1, k2, k3⟩ := h5 j m e x' he hx'
          exact ⟨u, k1, k2, hp _ _ (k3.anti (XL_kl' ks))⟩
      · rw [List.getElem?_set_ne (fun e => hj e.symm)] at he0
        have hm : m < s := by rw [← h4 j e0 he0]; exact (List.getElem?_eq_some_iff.1 hx').1
        have hno : ¬ (c + (i * s + p) ≤ c + (j * s + m) ∧ c + (j * s + m) < c + (i * s + p) + ti.size) := by
          rintro ⟨a1, a2⟩
          exact seg_ne hj hm (j' := j * s + m - i * s) (by omega) (by omega)
        rw [if_neg hno]
        obtain ⟨u, k1, k2, k3⟩ := h5 j m e0 x' he0 hx'
        exact ⟨u, k1, k2, hp _ _ (k3.anti (XL_kl' ks))⟩⟩)
    exact ⟨_, _, _, hK, Runs.skip (key _ _ _ _ h2 h3 hle) (Ext.refl _) s2 a2⟩
  | _ => rw [hc] at h; exact h.elim
end
end Go.Ab
namespace Go.Ab
open Go.RowKit
def NR (R : Value → AV → Prop) (s : Nat) (news : List Value) (xs : List (List AV)) : Prop :=
  news.length = xs.length * s ∧ (∀ (i : Nat) (e : List AV), xs[i]? = some e → e.length = s) ∧ ∀ (i j : Nat) (e : List AV) (y : AV), xs[i]? = some e → e[j]? = some y → ∃ u, news[i * s + j]? = some u ∧ u.oneCell' = true ∧ R u y
theorem NR.nil (R : Value → AV → Prop) (s : Nat) : NR R s [] [] := ⟨by simp, fun i e h => by simp at h, fun i j e y h => by simp at h⟩
section
variable {cx : Cx} {o : Oper} {a : Act} {w : World} {X : Nat → Prop} {ι : Nat → LS} {σ : Nat → SV} {E : Nat → AV} {al : Nat} {K : AV → Upd → List Nat → Prop}
theorem NR_of {s : Nat} (hs0 : s ≠ 0) {b p : Nat} {R : Value → AV → Prop} {xs : List (List AV)} (hl : ∀ (i : Nat) (e : List AV), xs[i]? = some e → e.length = s)
    (h : ∀ (i j : Nat) (e : List AV) (y : AV), xs[i]? = some e → e[j]? = some y → ∃ u, w.cell? ⟨b, p + (i * s + j), none⟩ = some u ∧ u.oneCell' = true ∧ R u y) :
    ∃ news : List Value, NR R s news xs ∧ (∀ (j : Nat) (u : Value), news[j]? = some u → w.cell? ⟨b, p + j, none⟩ = some u) ∧ ∀ u ∈ news, u.oneCell' = true := by
  have hall : ∀ m, m < xs.length * s → ∃ u, w.cell? ⟨b, p + m, none⟩ = some u ∧ u.oneCell' = true ∧ ∀ (i j : Nat) (e : List AV) (y : AV), xs[i]? = some e → e[j]? = some y → i * s + j = m → R u y := fun m hm => by
    have hi : m / s < xs.length := Nat.div_lt_of_lt_mul (by rw [Nat.mul_comm]; exact hm)
    have hj : m % s < s := Nat.mod_lt _ (by omega)
    have he : xs[m / s]? = some xs[m / s] := by simp [hi]
    have hel := hl _ _ he
    have hy : (xs[m / s])[m % s]? = some (xs[m / s])[m % s] := by simp
    have hdm : m / s * s + m % s = m := by rw [Nat.mul_comm]; exact Nat.div_add_mod m s
    obtain ⟨u, h1, h2, h3⟩ := h _ _ _ _ he hy
    rw [hdm] at h1
    refine ⟨u, h1, h2, fun i j e y hi' hy' hij => ?_⟩
    obtain ⟨u', k1, k2, k3⟩ := h i j e y hi' hy'
    rw [hij, h1] at k1
    cases k1
    exact k3
  let g : Nat → Value := fun m => (w.cell? ⟨b, p + m, none⟩).getD undef
  refine ⟨(List.range (xs.length * s)).map g, ⟨by simp, hl, fun i j e y hi hj => ?_⟩, fun j u hu => ?_, fun u hu => ?_⟩
  · have h1 : i < xs.length := (List.getElem?_eq_some_iff.1 hi).1
    have h2 : j < s := by rw [← hl i e hi]; exact (List.getElem?_eq_some_iff.1 hj).1
    have hm : i * s + j < xs.length * s := by
      have : (i + 1) * s ≤ xs.length * s := Nat.mul_le_mul_right _ h1
      rw [Nat.add_mul] at this; omega
    obtain ⟨u, k1, k2, k3⟩ := hall _ hm
    refine ⟨u, ?_, k2, k3 i j e y hi hj rfl⟩
    rw [List.getElem?_map, List.getElem?_range hm]
    show some ((w.cell? ⟨b, p + (i * s + j), none⟩).getD undef) = _
    rw [k1]; rfl
  · rw [List.getElem?_map] at hu
    cases hr : (List.range (xs.length * s))[j]? with
    | none => rw [hr] at hu; cases hu
    | some m =>
      obtain ⟨hm, rfl⟩ : j < xs.length * s ∧ j = m := by simpa using List.getElem?_eq_some_iff.1 hr
      rw [hr] at hu
      cases hu
      obtain ⟨u, k1, _⟩ := hall j hm
      show _ = some ((w.cell? ⟨b, p + j, none⟩).getD undef)
      rw [k1]; rfl
  · obtain ⟨m, hm, rfl⟩ := List.mem_map.1 hu
    obtain ⟨u, k1, k2, _⟩ := hall m (by simpa using hm)
    show ((w.cell? ⟨b, p + m, none⟩).getD undef).oneCell' = true
    rw [k1]; exact k2
theorem elems_src (hs : SR w X ι σ) {t e : Nat} (hu : cx.P.underlying t = some (.slice e)) {s : Nat} (hs0 : s ≠ 0) {v : Value} {x : AV} (hx : VR w (XL X σ ι) ι v x) (hz : rowSz s x = true) {K : List (List AV) → List Nat → Prop} (h : elemsK σ x K) :
    ∃ xs ks news, K xs ks ∧ Src cx.P s t v xs.length news w ∧ NR (PR w (XL X σ ι)) s news xs := by
  have zero : ∀ ad c, v = .slice ad 0 c → Src cx.P s t v 0 [] w := fun ad c e0 => by
    subst e0
    cases ad with
    | none => exact Src.ofNil w hu c
    | some ad => exact Src.ofSlice w hu ad 0 c [] (by simp) (fun j u h => by simp at h) (fun u h => by cases h)
  unfold elemsK at h
  split at h
  · rename_i s' es
    have hz : s = s' := Nat.eq_of_beq_eq_true hz
    subst hz
    rcases hx.row_inv with ⟨rfl, ad, c, e0⟩ | ⟨b, p, c, g, rfl, g1, g2, g3, g4, g5, g6⟩
    · exact ⟨[], [], [], h, zero ad c e0, NR.nil _ _⟩
    · obtain ⟨news, n1, n2, n3⟩ := NR_of (w := w) hs0 (b := b) (p := p) (R := PR w (XL X σ ι)) g4 (fun i j e y hi hj => ⟨g i j, (g5 i j e y hi hj).1, (g5 i j e y hi hj).2, g6 i j e y hi hj⟩)
      exact ⟨es, [], news, h, Src.ofSlice w hu _ _ c news n1.1 (fun j u hj => by rw [addr_add]; exact n2 j u hj) n3, n1⟩
  · obtain ⟨e0⟩ := hx.nils_inv
    exact ⟨[], [], [], h, zero _ _ hx.nils_inv, NR.nil _ _⟩
  · obtain ⟨ad, e0⟩ := hx.emp_inv
    exact ⟨[], [], [], h, zero _ _ e0, NR.nil _ _⟩
  · rename_i s' k i n q
    have hz : s = s' := Nat.eq_of_beq_eq_true hz
    subst hz
    simp only [arrK_iff, bK_iff] at h
    obtain ⟨s2, es, hk, hss, h⟩ := h
    have fin : ∀ xs : List (List AV), xs.length = n → (∀ (j : Nat) (e : List AV), xs[j]? = some e → es[i + j]? = some e) → K xs [k] → ∃ xs ks news, K xs ks ∧ Src cx.P s t v xs.length news w ∧ NR (PR w (XL X σ ι)) s news xs := by
      intro xs hxl hxs hK
      rcases hx.own_inv with ⟨c, b, p, vs, ty, rfl, g1, g2, g3, g4⟩ | ⟨ad, e0, rfl, _⟩
      · obtain ⟨rfl, us, ty', h3, h4, h5⟩ := hs.arr hk g1
        obtain ⟨news, n1, n2, n3⟩ := NR_of (w := w) hs0 (b := b) (p := p + i * s) (R := PR w (XL X σ ι)) (xs := xs) (fun j e he => h4 _ e (hxs j e he)) (fun j m e y hj hm => by
          obtain ⟨u, k1, k2, k3⟩ := h5 (i + j) m e y (hxs j e hj) hm
          refine ⟨u, ?_, k2, k3⟩
          rw [cell_of_heap h3, show p + i * s + (j * s + m) = p + ((i + j) * s + m) by rw [Nat.add_mul]; omega]
          exact k1)
        refine ⟨xs, [k], news, hK, ?_, n1⟩
        rw [hxl]
        exact Src.ofSlice w hu _ _ c news (by rw [n1.1, hxl]) (fun j u hj => by rw [addr_add]; exact n2 j u hj) n3
      · have : xs = [] := List.eq_nil_of_length_eq_zero hxl
        subst this
        exact ⟨[], [k], [], hK, zero _ _ e0, NR.nil _ _⟩
    split at h
    · obtain ⟨h1, hK⟩ := h
      refine fin _ (by simp; omega) (fun j e he => ?_) hK
      rw [List.getElem?_take] at he
      split at he
      · rw [List.getElem?_drop] at he; exact he
      · cases he
    · obtain ⟨h1, hK⟩ := h
      exact fin _ (by simp; omega) (fun j e he => by rw [List.getElem?_drop] at he; exact he) hK
  · exact h.elim
theorem run_append_seg (t tx ty e : TypeId) {P : Program} (i : TypeInfo) (ht : P.underlying t = some (.slice e)) (hi : P.info? e = some i) (b off sLen sCap : Nat) (x : Value) (n : Nat) (news : List Value) (hs : Src P i.size tx x n news w)
    (hroom : sLen + n ≤ sCap) {cur : Array Value} {ty' : TypeId} (hb : w.heap[b]? = some (.cells cur ty' (0, 0))) (hle : off + sLen * i.size + news.length ≤ cur.size) :
    (Builtin.append_ #[t, tx] ty #[.slice (some ⟨b, off, none⟩) sLen sCap, x]).run P w = .ok (.slice (some ⟨b, off, none⟩) (sLen + n) sCap) (w.setRow b (segA cur (off + sLen * i.size) news)) := by
  have hst := run_storeCells_seg (P := P) hb hle hs.one
  rcases hs.kind with ⟨e', hk⟩ | hk <;> simp [Builtin.append_, run_underlying ht, run_underlying hk, sizeOf, typeInfo, hi, hs.len, hroom, hs.cells, addr_add, hst]
theorem SR.gone (hs : SR w X ι σ) (hal : σ al = .free) (s : Nat) {ks : List Nat} (hks : ∀ k ∈ ks, σ k ≠ .free) {σ' : Nat → SV} (hσ : σ' = fun k => if k = al then .live (.arr s []) else if k ∈ ks then .dead else σ k) :
    Ext ι (upI ι al .gone) ∧ SR w X (upI ι al .gone) σ' ∧ Adv (Lv σ ι) w (Lv σ' (upI ι al .gone)) w := by
  subst hσ
  have hi : ι al = .free := (hs.free al).1 hal
  have he : Ext ι (upI ι al .gone) := fun k hk => by unfold upI; rw [if_neg (fun (e : k = al) => hk (by rw [e]; exact hi))]
  have hl : ∀ k b c p s', (if k = al then SV.live (.arr s []) else if k ∈ ks then SV.dead else σ k) = .live b → upI ι al .gone k = .at c p s' → k ≠ al ∧ σ k = .live b ∧ ι k = .at c p s' := fun k b c p s' h1 h2 => by
    by_cases e : k = al
    · subst e; simp [upI] at h2
    · simp only [upI, e, if_false] at h1 h2
      split at h1
      · cases h1
      · exact ⟨e, h1, h2⟩
  have ha : Adv (Lv σ ι) w (Lv (fun k => if k = al then SV.live (.arr s []) else if k ∈ ks then SV.dead else σ k) (upI ι al .gone)) w :=
    Adv.less (fun b ⟨k, blk, p, s', h1, h2⟩ => by obtain ⟨_, e1, e2⟩ := hl k blk b p s' h1 h2; exact ⟨k, blk, p, s', e1, e2⟩) w
  refine ⟨he, hs.next he ha (fun k b h => ?_) (fun k k' b b' c p s1 p' s2 h1 h2 h3 h4 => ?_) (fun k => ?_), ha⟩
  · by_cases e : k = al
    · subst e
      simp only [if_true] at h
      cases h
      refine .inr ?_
      simp only [upI, if_true]
      rfl
    · simp only [e, if_false] at h
      split at h
      · cases h
      · exact .inl ⟨h, fun _ _ _ _ => rfl⟩
  · obtain ⟨_, e1, e2⟩ := hl k b c p s1 h1 h3
    obtain ⟨_, e3, e4⟩ := hl k' b' c p' s2 h2 h4
    exact hs.inj k k' b b' c p s1 p' s2 e1 e3 e2 e4
  · by_cases e : k = al
    · subst e; simp [upI]
    · simp only [upI, e, if_false]
      rw [← hs.free k]
      by_cases h : k ∈ ks
      · simp [h, hks k h]
      · simp [h]
theorem SR.move (hs : SR w X ι σ) (hal : σ al = .free) {k b p s p' : Nat} {blk0 blk : Blk} (hk : σ k = .live blk0) (hi : ι k = .at b p s) {cur cur' : Array Value} {ty : TypeId} (hv : w.heap[b]? = some (.cells cur ty (0, 0))) (hl : cur'.size = cur.size)
    (hb : ∀ (Y : Nat → Prop) (ι' : Nat → LS), (∀ v x, VR w (XL X σ ι) ι v x → VR (w.setRow b cur') Y ι' v x) → (∀ v x, PR w (XL X σ ι) v x → PR (w.setRow b cur') Y v x) → BR (w.setRow b cur') Y ι' (.at b p' s) blk) :
    Ext ι (upI ι al (.at b p' s)) ∧ SR (w.setRow b cur') X (upI ι al (.at b p' s)) (updF σ [(k, .dead), (al, .live blk)]) ∧ Adv (Lv σ ι) w (Lv (updF σ [(k, .dead), (al, .live blk)]) (upI ι al (.at b p' s))) (w.setRow b cur') := by
  have hia : ι al = .free := (hs.free al).1 hal
  have hka : k ≠ al := fun e => by rw [e, hal] at hk; cases hk
  have hσ : ∀ k', updF σ [(k, .dead), (al, .live blk)] k' = if k' = al then .live blk else if k' = k then .dead else σ k' := fun k' => by
    by_cases e : k' = al
    · simp [updF, e]
    · simp [updF, e]
  have he : Ext ι (upI ι al (.at b p' s)) := fun k' hk' => by unfold upI; rw [if_neg (fun (e : k' = al) => hk' (by rw [e]; exact hia))]
  have hlv : ∀ k' b' c q s', updF σ [(k, .dead), (al, .live blk)] k' = .live b' → upI ι al (.at b p' s) k' = .at c q s' → (k' = al ∧ c = b ∧ b' = blk) ∨ (k' ≠ al ∧ k' ≠ k ∧ σ k' = .live b' ∧ ι k' = .at c q s') := fun k' b' c q s' h1 h2 => by
    rw [hσ] at h1
    by_cases e : k' = al
    · subst e
      simp only [if_true] at h1
      simp only [upI, if_true] at h2
      cases h1; cases h2
      exact .inl ⟨rfl, rfl, rfl⟩
    · simp only [e, if_false] at h1
      simp only [upI, e, if_false] at h2
      by_cases e' : k' = k
      · subst e'; simp at h1
      · simp only [e', if_false] at h1
        exact .inr ⟨e, e', h1, h2⟩
  have hLb : Lv σ ι b := ⟨k, blk0, p, s, hk, hi⟩
  have ha : Adv (Lv σ ι) w (Lv (updF σ [(k, .dead), (al, .live blk)]) (upI ι al (.at b p' s))) (w.setRow b cur') := by
    refine ⟨rfl, rfl, rfl, by rw [setRow_size]; exact Nat.le_refl _, fun c hc hn => ⟨setRow_other _ _ _ _ (fun e => hn (e ▸ hLb)), fun ⟨k', b', q, s', h1, h2⟩ => ?_⟩, fun c vs ty' fr h => ?_, Nat.le_refl _⟩
    · rcases hlv k' b' c q s' h1 h2 with ⟨_, e, _⟩ | ⟨_, _, e1, e2⟩
      · exact hn (e ▸ hLb)
      · exact hn ⟨k', b', q, s', e1, e2⟩
    · by_cases e : c = b
      · subst e
        rw [hv] at h
        cases h
        exact ⟨cur', setRow_heap w c cur cur' ty (0, 0) hv, hl⟩
      · exact ⟨vs, by rw [setRow_other _ _ _ _ e]; exact h, rfl⟩
  refine ⟨he, hs.next he ha (fun k' b' h => ?_) (fun k1 k2 b1 b2 c q1 s1 q2 s2 h1 h2 h3 h4 => ?_) (fun k' => ?_), ha⟩
  · rw [hσ] at h
    by_cases e : k' = al
    · subst e
      simp only [if_true] at h
      cases h
      refine .inr ?_
      simp only [upI, if_true]
      exact hb _ _ (fun v x hv => hv.step ha he) (fun v x hv => hv.step ha)
    · simp only [e, if_false] at h
      by_cases e' : k' = k
      · subst e'; simp at h
      · simp only [e', if_false] at h
        exact .inl ⟨h, fun c q s' hc => setRow_other _ _ _ _ (fun ec => e' (hs.inj k' k b' blk0 c q s' p s h hk hc (ec ▸ hi)))⟩
  · rcases hlv k1 b1 c q1 s1 h1 h3 with ⟨a1, a2, _⟩ | ⟨a1, a2, a3, a4⟩ <;> rcases hlv k2 b2 c q2 s2 h2 h4 with ⟨c1, c2, _⟩ | ⟨c1, c2, c3, c4⟩
    · rw [a1, c1]
    · exact absurd (hs.inj k2 k b2 blk0 c q2 s2 p s c3 hk c4 (a2 ▸ hi)) c2
    · exact absurd (hs.inj k1 k b1 blk0 c q1 s1 p s a3 hk a4 (c2 ▸ hi)) a2
    · exact hs.inj k1 k2 b1 b2 c q1 s1 q2 s2 a3 c3 a4 c4
  · rw [hσ]
    by_cases e : k' = al
    · subst e; simp [upI]
    · simp only [upI, e, if_false]
      by_cases e' : k' = k
      · subst e'; simp [hi]
      · simp only [e', if_false]; exact hs.free k'
end
end Go.Ab
namespace Go.Ab
open Go.RowKit
theorem NR.append {R : Value → AV → Prop} {s : Nat} {as bs : List Value} {xs ys : List (List AV)} (h : NR R s as xs) (k : NR R s bs ys) : NR R s (as ++ bs) (xs ++ ys) := by
  obtain ⟨h1, h2, h3⟩ := h
  obtain ⟨k1, k2, k3⟩ := k
  refine ⟨by simp [h1, k1, Nat.add_mul], fun i e he => ?_, fun i j e y he hy => ?_⟩
  · by_cases hi : i < xs.length
    · rw [List.getElem?_append_left hi] at he; exact h2 i e he
    · rw [List.getElem?_append_right (by omega)] at he; exact k2 _ e he
  · by_cases hi : i < xs.length
    · rw [List.getElem?_append_left hi] at he
      obtain ⟨u, e1, e2⟩ := h3 i j e y he hy
      have : i * s + j < as.length := (List.getElem?_eq_some_iff.1 e1).1
      exact ⟨u, by rw [List.getElem?_append_left this]; exact e1, e2⟩
    · rw [List.getElem?_append_right (by omega)] at he
      obtain ⟨u, e1, e2⟩ := k3 _ j e y he hy
      refine ⟨u, ?_, e2⟩
      have hm : xs.length * s ≤ i * s := Nat.mul_le_mul_right _ (by omega)
      rw [List.getElem?_append_right (by omega), h1]
      rw [Nat.sub_mul] at e1
      rw [show i * s + j - xs.length * s = i * s - xs.length * s + j by omega]
      exact e1
section
variable {cx : Cx} {o : Oper} {a : Act} {w : World} {X : Nat → Prop} {ι : Nat → LS} {σ : Nat → SV} {E : Nat → AV} {al : Nat} {K : AV → Upd → List Nat → Prop}
theorem upd_swap {k : Nat} (h : k ≠ al) (b : Blk) : updF σ ((al, .live b) :: kills [k]) = updF σ [(k, .dead), (al, .live b)] := by
  funext k'
  simp only [kills, List.map_cons, List.map_nil, updF]
  by_cases e1 : k' = al
  · subst e1
    simp [Ne.symm h]
  · by_cases e2 : k' = k
    · subst e2; simp [h]
    · simp [e1, e2]
theorem drew_SR {w : World} (hs : SR w X ι σ) : SR w.drew X ι σ ∧ Adv (Lv σ ι) w (Lv σ ι) w.drew := by
  have ha : Adv (Lv σ ι) w (Lv σ ι) w.drew := ⟨rfl, rfl, rfl, Nat.le_refl _, fun b _ h => ⟨rfl, h⟩, fun b vs _ _ h => ⟨vs, h, rfl⟩, Nat.le_succ _⟩
  exact ⟨hs.next (Ext.refl _) ha (fun k b h => .inl ⟨h, fun _ _ _ _ => rfl⟩) hs.inj hs.free, ha⟩
theorem grow_runs {t e : Nat} {ti : TI} {i : TypeInfo} {d : TypeDesc} {z : Value} (f : TFact cx.P e ti i d z) (hu : cx.P.underlying t = some (.slice e)) (hs : SR w X ι σ) (hal : σ al = .free) {x y : Operand} (ho : o.op = .call ⟨.builtin .append, #[x, y], #[t, t]⟩)
    {ad : Option Addr} {n c m : Nat} (hx : a.eval x = .slice ad n c) {olds news : List Value} {es xs : List (List AV)} (ho1 : NR (PR w (XL X σ ι)) ti.size olds es) (hn : es.length = n) (hn1 : NR (PR w (XL X σ ι)) ti.size news xs) (hm : xs.length = m)
    (hold : (Builtin.firstCells ti.size n (.slice ad n c)).run cx.P w.drew = .ok olds.toArray w.drew) (hsrc : Src cx.P ti.size t (a.eval y) m news w) (hg : c < n + m) (hB : (n + m) * ti.bytes ≤ 2 ^ 47) {ks : List Nat} (hks : ∀ k ∈ ks, σ k ≠ .free) :
    Runs cx.P o a w X ι σ (.own ti.size al 0 (n + m) .opn) ((al, .live (.arr ti.size (es ++ xs))) :: kills ks) := by
  have hb0 := f.bpos
  have hnb : n + m ≤ (n + m) * ti.bytes := Nat.le_mul_of_pos_right _ (by omega)
  have hr0 := run_append_grow_src (P := cx.P) w t t o.type e i z hu f.info f.zero ad n c olds (by rw [f.size]; exact hold) (a.eval y) m news (by rw [f.size]; exact hsrc) hg (by omega) (by rw [f.bytes]; exact growslice_fits hg (by simpa using hB))
  have hge := grownCap_ge w (n + m) c e
  let cells : Array Value := (olds ++ news).toArray ++ Builtin.zeroCells z.cells (grownCap w (n + m) c e - (n + m))
  have hr : (execOp a.eval o).run cx.P w = .ok (.value (.slice (some ⟨w.heap.size, 0, none⟩) (n + m) (grownCap w (n + m) c e))) (w.drew.alloc (.cells cells e)) := by
    simp [execOp, ho, resolve, invoke, builtin, hx, hr0, cells]
  have hnr := ho1.append hn1
  obtain ⟨n1, n2, n3⟩ := hnr
  have hcs : cells.size = grownCap w (n + m) c e * ti.size := by
    simp only [cells, Array.size_append, List.size_toArray, size_zeroCells, n1, f.len, ← Nat.add_mul, List.length_append, hn, hm]
    congr 1
    omega
  obtain ⟨s1, a1⟩ := drew_SR hs
  have hh : (w.drew.alloc (.cells cells e)).heap = w.drew.heap.push (.cells cells e (0, 0)) := rfl
  obtain ⟨he, s2, a2⟩ := s1.killAlloc (w' := w.drew.alloc (.cells cells e)) hal hks hh rfl rfl rfl (Nat.le_refl _) (.arr ti.size (es ++ xs)) ti.size (fun Y ι' _ hp => ⟨rfl, cells, e, push_new hh, n2, fun j p e0 y0 he0 hy0 => by
    obtain ⟨u, k1, k2, k3⟩ := n3 j p e0 y0 he0 hy0
    refine ⟨u, ?_, k2, hp _ _ ((k3.step a1).anti (XL_kl' ks))⟩
    have hlt : j * ti.size + p < (olds ++ news).length := (List.getElem?_eq_some_iff.1 k1).1
    rw [Nat.zero_add]
    simp only [cells]
    rw [Array.getElem?_append_left (by simpa using hlt)]
    simpa using k1⟩)
  refine Runs.val hr he s2 ?_ (a1.trans a2)
  have := VR.own (w := w.drew.alloc (.cells cells e)) (X := XL X (updF σ ((al, .live (.arr ti.size (es ++ xs))) :: kills ks)) (upI ι al (.at w.heap.size 0 ti.size))) (ι := upI ι al (.at w.heap.size 0 ti.size)) ti.size al 0 (n + m) (grownCap w (n + m) c e) w.heap.size 0 .opn cells e (by simp [upI]) hge (push_new hh) (by rw [hcs]; simp)
  simpa using this
theorem s_append {t t' : Nat} {x y : Operand} (hT : TOk cx) (ho : o.op = .call ⟨.builtin .append, #[x, y], #[t, t']⟩) (hs : SR w X ι σ) (hE : ∀ x, VR w (XL X σ ι) ι (a.eval x) (ev E x)) (h : builtinW cx al .append [t, t'] [ev E x, ev E y] σ K) : Good cx o a w X ι σ K := by
  have hx := hE x
  have hy := hE y
  simp only [builtinW, bK_iff] at h
  obtain ⟨htt, h⟩ := h
  have htt := Nat.eq_of_beq_eq_true htt
  subst htt
  obtain ⟨e, ti, hu, hte, h⟩ := elemT_fact hT h
  obtain ⟨i, d, z, f⟩ := hT.fact hte
  simp only [u2, appW, bK_iff] at h
  obtain ⟨hzy, hzx, h⟩ := h
  obtain ⟨xs, ks, news, h, hsrc, hnr⟩ := elems_src hs hu f.pos hy hzy h
  have bare : ∀ ad, a.eval x = .slice ad 0 0 → freeK σ al (xs.length * ti.bytes ≤ 2 ^ 47 ∧ K (.own ti.size al 0 xs.length .opn) [(al, .live (.arr ti.size xs))] ks) → Good cx o a w X ι σ K := by
    intro ad ex h
    simp only [freeK_iff] at h
    obtain ⟨hal, hB, hK⟩ := h
    by_cases hm : xs = []
    · subst hm
      have hnews : news = [] := List.eq_nil_of_length_eq_zero (by rw [hnr.1]; simp)
      subst hnews
      have hr := run_append_nothing (P := cx.P) w t t o.type e i hu f.info ad 0 0 (Nat.le_refl _) (a.eval y) (by rw [f.size]; exact hsrc)
      obtain ⟨e1, s1, a1⟩ := hs.gone hal ti.size (ks := []) (by simp) (σ' := updF σ [(al, .live (.arr ti.size []))]) (by funext k; simp [updF])
      refine ⟨_, _, _, hK, Runs.val (cv := .slice ad 0 0) (by simp [execOp, ho, resolve, invoke, builtin, ex, hr]) e1 s1 (.own0 _ _ _ _ _ (by simp [upI]) (by simp [Q.fits])) a1⟩
    · have hl : 0 < xs.length := by
        cases xs with
        | nil => exact absurd rfl hm
        | cons => simp
      have hg := grow_runs (o := o) (a := a) (al := al) f hu hs hal ho ex (NR.nil _ _) rfl hnr rfl (by cases ad <;> simp [Builtin.firstCells, loadCells, loadCellsFrom]) hsrc (by omega) (by simpa using hB) (ks := []) (by simp)
      refine ⟨_, _, _, hK, ?_⟩
      simpa [kills] using hg
  cases hc : ev E x with
  | nils => rw [hc] at h hx; exact bare none hx.nils_inv h
  | emp => rw [hc] at h hx; obtain ⟨ad, e0⟩ := hx.emp_inv; exact bare ad e0 h
  | own s k j n q =>
    rw [hc] at h hx hzx
    have hz : ti.size = s := Nat.eq_of_beq_eq_true hzx
    subst hz
    simp only [arrK_iff] at h
    obtain ⟨s', es, hk, hss, h⟩ := h
    have open_ : (q = .full ∨ q = .opn) → ∀ es' : List (List AV), (∀ (i : Nat) (e : List AV), es'[i]? = some e → es[i]? = some e) → freeK σ al ((j + n = es'.length ∧ (n + xs.length) * ti.bytes ≤ 2 ^ 47) ∧ K (.own ti.size al 0 (n + xs.length) .opn) [(k, .dead), (al, .live (.arr ti.size (es'.drop j ++ xs)))] (k :: ks)) → Good cx o a w X ι σ K := by
      intro hq es' hsub h
      simp only [freeK_iff] at h
      obtain ⟨hal, ⟨hjn, hB⟩, hK⟩ := h
      have hka : k ≠ al := fun e => by rw [e, hal] at hk; cases hk
      have hdl : (es'.drop j).length = n := by simp; omega
      rcases hx.own_inv with ⟨c, b, p, vs, ty, e0, g1, g2, g3, g4⟩ | ⟨ad, e0, rfl, g1, g2⟩
      · obtain ⟨rfl, us, ty', h3, h4, h5⟩ := hs.arr hk g1
        rw [h3] at g3
        cases g3
        replace h4 := fun (i : Nat) (e : List AV) (he : es'[i]? = some e) => h4 i e (hsub i e he)
        replace h5 := fun (i j : Nat) (e : List AV) (x : AV) (he : es'[i]? = some e) (hx : e[j]? = some x) => h5 i j e x (hsub i e he) hx
        have hnc : n ≤ c := by rcases hq with rfl | rfl <;> simp only [Q.fits] at g2 <;> omega
        by_cases hroom : n + xs.length ≤ c
        · have hle : p + j * ti.size + n * i.size + news.length ≤ vs.size := by
            have : (j + (n + xs.length)) * ti.size ≤ (j + c) * ti.size := Nat.mul_le_mul_right _ (by omega)
            rw [Nat.add_mul, Nat.add_mul] at this
            rw [f.size, hnr.1]; omega
          have hr := run_append_seg (w := w) t t o.type e i hu f.info b (p + j * ti.size) n c (a.eval y) xs.length news (by rw [f.size]; exact hsrc) hroom h3 hle
          obtain ⟨n1, n2, n3⟩ := hnr
          rw [f.size] at hr hle
          obtain ⟨e1, s1, a1⟩ := hs.move hal hk g1 (p' := p + j * ti.size) (blk := .arr ti.size (es'.drop j ++ xs)) h3 (segA_size hle) (fun Y ι' _ hp => ⟨rfl, _, ty, setRow_heap w b vs _ ty (0, 0) h3, fun m e0 he0 => by
            by_cases hm : m < n
            · rw [List.getElem?_append_left (by omega), List.getElem?_drop] at he0; exact h4 _ _ he0
            · rw [List.getElem?_append_right (by omega)] at he0; exact n2 _ _ he0, fun m r e0 y0 he0 hy0 => by
            rw [segA_get hle]
            by_cases hm : m < n
            · rw [List.getElem?_append_left (by omega), List.getElem?_drop] at he0
              have hr' : r < ti.size := by rw [← h4 _ _ he0]; exact (List.getElem?_eq_some_iff.1 hy0).1
              have : (m + 1) * ti.size ≤ n * ti.size := Nat.mul_le_mul_right _ hm
              rw [Nat.add_mul] at this
              rw [if_neg (by omega)]
              obtain ⟨u, k1, k2, k3⟩ := h5 _ r e0 y0 he0 hy0
              refine ⟨u, ?_, k2, hp _ _ k3⟩
              rw [show p + j * ti.size + (m * ti.size + r) = p + ((j + m) * ti.size + r) by rw [Nat.add_mul]; omega]
              exact k1
            · rw [List.getElem?_append_right (by omega), hdl] at he0
              obtain ⟨u, k1, k2, k3⟩ := n3 _ r e0 y0 he0 hy0
              have hlt := (List.getElem?_eq_some_iff.1 k1).1
              have : n * ti.size ≤ m * ti.size := Nat.mul_le_mul_right _ (by omega)
              rw [Nat.sub_mul] at k1 hlt
              rw [if_pos (by omega)]
              refine ⟨u, ?_, k2, hp _ _ k3⟩
              rw [show p + j * ti.size + (m * ti.size + r) - (p + j * ti.size + n * ti.size) = m * ti.size - n * ti.size + r by omega]
              exact k1⟩)
          refine ⟨_, _, _, hK, Runs.val (cv := .slice (some ⟨b, p + j * ti.size, none⟩) (n + xs.length) c) (by simp [execOp, ho, resolve, invoke, builtin, e0, hr]) e1 s1 ?_ a1⟩
          have := VR.own (w := w.setRow b (segA vs (p + j * ti.size + n * ti.size) news)) (X := XL X (updF σ [(k, .dead), (al, .live (.arr ti.size (es'.drop j ++ xs)))]) (upI ι al (.at b (p + j * ti.size) ti.size))) (ι := upI ι al (.at b (p + j * ti.size) ti.size)) ti.size al 0 (n + xs.length) c b (p + j * ti.size) .opn _ ty (by simp [upI]) hroom (setRow_heap w b vs _ ty (0, 0) h3) (by
            rw [segA_size hle]
            rw [Nat.add_mul] at g4
            simp; omega)
          simpa using this
        · obtain ⟨olds, m1, m2, m3⟩ := NR_of (w := w) f.pos (b := b) (p := p + j * ti.size) (R := PR w (XL X σ ι)) (xs := es'.drop j) (fun m e he => by rw [List.getElem?_drop] at he; exact h4 _ e he) (fun m r e y hm hr => by
            rw [List.getElem?_drop] at hm
            obtain ⟨u, k1, k2, k3⟩ := h5 _ r e y hm hr
            refine ⟨u, ?_, k2, k3⟩
            rw [cell_of_heap h3, show p + j * ti.size + (m * ti.size + r) = p + ((j + m) * ti.size + r) by rw [Nat.add_mul]; omega]
            exact k1)
          have hg := grow_runs (o := o) (a := a) (al := al) f hu hs hal ho e0 m1 hdl hnr rfl (run_firstCells_some (P := cx.P) w.drew ti.size n ⟨b, p + j * ti.size, none⟩ n c olds (by rw [m1.1, hdl]) (fun r u hr => by rw [addr_add]; simpa using m2 r u hr)) hsrc (by omega) hB (ks := [k]) (by intro k' hk'; simp at hk'; subst hk'; rw [hk]; simp)
          refine ⟨_, _, _, hK, ?_⟩
          rw [Runs]
          rw [← upd_swap hka]
          exact hg
      · have hd0 : es'.drop j = [] := List.eq_nil_of_length_eq_zero hdl
        by_cases hm : xs = []
        · subst hm
          have hnews : news = [] := List.eq_nil_of_length_eq_zero (by rw [hnr.1]; simp)
          subst hnews
          have hr := run_append_nothing (P := cx.P) w t t o.type e i hu f.info ad 0 0 (Nat.le_refl _) (a.eval y) (by rw [f.size]; exact hsrc)
          obtain ⟨e1, s1, a1⟩ := hs.gone hal ti.size (ks := [k]) (by intro k' hk'; simp at hk'; subst hk'; rw [hk]; simp) (σ' := updF σ [(k, .dead), (al, .live (.arr ti.size (es'.drop j ++ [])))]) (by funext k'; simp [updF, hd0])
          exact ⟨_, _, _, hK, Runs.val (cv := .slice ad 0 0) (by simp [execOp, ho, resolve, invoke, builtin, e0, hr]) e1 s1 (.own0 _ _ _ _ _ (by simp [upI]) (by simp [Q.fits])) a1⟩
        · have hl : 0 < xs.length := by
            cases xs with
            | nil => exact absurd rfl hm
            | cons => simp
          have hg := grow_runs (o := o) (a := a) (al := al) f hu hs hal ho e0 (NR.nil _ _) rfl hnr rfl (by cases ad <;> simp [Builtin.firstCells, loadCells, loadCellsFrom]) hsrc (by omega) hB (ks := [k]) (by intro k' hk'; simp at hk'; subst hk'; rw [hk]; simp)
          refine ⟨_, _, _, hK, ?_⟩
          rw [Runs, ← upd_swap hka, hd0]
          exact hg
    cases q with
    | full =>
      refine open_ (.inl rfl) (es.take (j + n)) (fun i e he => ?_) ?_
      · rw [List.getElem?_take] at he
        split at he
        · exact he
        · cases he
      · simp only [freeK_iff] at h ⊢
        exact ⟨h.1, ⟨by rw [List.length_take]; omega, h.2.1.2⟩, h.2.2⟩
    | opn => exact open_ (.inr rfl) es (fun _ _ h => h) h
    | room r =>
      obtain ⟨⟨h1, h2⟩, hK⟩ := h
      rcases hx.own_inv with ⟨c, b, p, vs, ty, e0, g1, g2, g3, g4⟩ | ⟨ad, e0, rfl, g1, g2⟩
      · obtain ⟨rfl, us, ty', h3, h4, h5⟩ := hs.arr hk g1
        rw [h3] at g3
        cases g3
        simp only [Q.fits] at g2
        obtain ⟨n1, n2, n3⟩ := hnr
        have hle : p + j * ti.size + n * i.size + news.length ≤ vs.size := by
          have : (j + (n + xs.length)) * ti.size ≤ (j + c) * ti.size := Nat.mul_le_mul_right _ (by omega)
          rw [Nat.add_mul, Nat.add_mul] at this
          rw [f.size, n1]; omega
        have hr := run_append_seg (w := w) t t o.type e i hu f.info b (p + j * ti.size) n c (a.eval y) xs.length news (by rw [f.size]; exact hsrc) (by omega) h3 hle
        rw [f.size] at hr hle
        have hseg : p + j * ti.size + n * ti.size = p + (j + n) * ti.size := by rw [Nat.add_mul]; omega
        obtain ⟨s1, a1⟩ := hs.setSeg hk g1 h3 (segA_size hle) (.arr ti.size (es.take (j + n) ++ (xs ++ es.drop (j + n + xs.length)))) (fun Y _ hp => ⟨rfl, _, ty, setRow_heap w b vs _ ty (0, 0) h3, fun m e1 he1 => by
          by_cases hm : m < j + n
          · rw [List.getElem?_append_left (by simp; omega), List.getElem?_take, if_pos hm] at he1; exact h4 _ _ he1
          · rw [List.getElem?_append_right (by simp; omega)] at he1
            rw [show (es.take (j + n)).length = j + n by simp; omega] at he1
            by_cases hm' : m - (j + n) < xs.length
            · rw [List.getElem?_append_left hm'] at he1; exact n2 _ _ he1
            · rw [List.getElem?_append_right (by omega), List.getElem?_drop] at he1; exact h4 _ _ he1, fun m r e1 y1 he1 hy1 => by
          rw [segA_get hle]
          by_cases hm : m < j + n
          · rw [List.getElem?_append_left (by simp; omega), List.getElem?_take, if_pos hm] at he1
            have hr' : r < ti.size := by rw [← h4 _ _ he1]; exact (List.getElem?_eq_some_iff.1 hy1).1
            have : (m + 1) * ti.size ≤ (j + n) * ti.size := Nat.mul_le_mul_right _ hm
            rw [Nat.add_mul] at this
            rw [if_neg (by omega)]
            obtain ⟨u, k1, k2, k3⟩ := h5 _ r e1 y1 he1 hy1
            exact ⟨u, k1, k2, hp _ _ k3⟩
          · rw [List.getElem?_append_right (by simp; omega)] at he1
            rw [show (es.take (j + n)).length = j + n by simp; omega] at he1
            have hge : (j + n) * ti.size ≤ m * ti.size := Nat.mul_le_mul_right _ (by omega)
            by_cases hm' : m - (j + n) < xs.length
            · rw [List.getElem?_append_left hm'] at he1
              obtain ⟨u, k1, k2, k3⟩ := n3 _ r e1 y1 he1 hy1
              have hlt := (List.getElem?_eq_some_iff.1 k1).1
              rw [Nat.sub_mul] at k1 hlt
              rw [if_pos (by omega)]
              refine ⟨u, ?_, k2, hp _ _ k3⟩
              rw [show p + (m * ti.size + r) - (p + j * ti.size + n * ti.size) = m * ti.size - (j + n) * ti.size + r by omega]
              exact k1
            · rw [List.getElem?_append_right (by omega), List.getElem?_drop, show j + n + xs.length + (m - (j + n) - xs.length) = m by omega] at he1
              have hge' : (j + n + xs.length) * ti.size ≤ m * ti.size := Nat.mul_le_mul_right _ (by omega)
              rw [Nat.add_mul] at hge'
              rw [if_neg (by rw [n1]; omega)]
              obtain ⟨u, k1, k2, k3⟩ := h5 _ r e1 y1 he1 hy1
              exact ⟨u, k1, k2, hp _ _ k3⟩⟩)
        refine ⟨_, _, _, hK, Runs.val (cv := .slice (some ⟨b, p + j * ti.size, none⟩) (n + xs.length) c) (by simp [execOp, ho, resolve, invoke, builtin, e0, hr]) (Ext.refl _) s1 ?_ a1⟩
        exact .own ti.size k j (n + xs.length) c b p (.room (r - xs.length)) _ ty g1 (by simp only [Q.fits]; omega) (setRow_heap w b vs _ ty (0, 0) h3) (by rw [segA_size hle]; exact g4)
      · have hr0 : r = 0 := by simp only [Q.fits] at g2; omega
        subst hr0
        have hm : xs = [] := List.eq_nil_of_length_eq_zero (by omega)
        subst hm
        have hnews : news = [] := List.eq_nil_of_length_eq_zero (by rw [hnr.1]; simp)
        subst hnews
        have hr := run_append_nothing (P := cx.P) w t t o.type e i hu f.info ad 0 0 (Nat.le_refl _) (a.eval y) (by rw [f.size]; exact hsrc)
        have hes : es.take (j + 0) ++ ([] ++ es.drop (j + 0 + ([] : List (List AV)).length)) = es := by simp
        have hss' : s' = ti.size := by
          have := Nat.eq_of_beq_eq_true hss
          exact this.symm
        subst hss'
        refine ⟨_, _, _, hK, Runs.val (cv := .slice ad 0 0) (w' := w) (ι' := ι) (by simp [execOp, ho, resolve, invoke, builtin, e0, hr]) (Ext.refl _) ?_ (.own0 _ _ _ _ _ g1 (by simp [Q.fits])) ?_⟩
        · rw [hes]
          have : updF σ [(k, .live (.arr ti.size es))] = σ := by funext k'; by_cases e' : k' = k <;> simp [updF, e', hk]
          rw [this]; exact hs
        · rw [hes]
          have : updF σ [(k, .live (.arr ti.size es))] = σ := by funext k'; by_cases e' : k' = k <;> simp [updF, e', hk]
          rw [this]; exact Adv.refl _ _
  | _ => rw [hc] at h; exact h.elim
end
end Go.Ab
namespace Go.Ab
open Go.RowKit
theorem zeroCells_list (z : Array Value) (n : Nat) (hz : z.size ≠ 0) : (Builtin.zeroCells z n).toList.length = n * z.size ∧ ∀ i j, i < n → j < z.size → (Builtin.zeroCells z n).toList[i * z.size + j]? = z[j]? := by
  refine ⟨by simp [Builtin.zeroCells], fun i j hi hj => ?_⟩
  have hlt : i * z.size + j < n * z.size := by
    have : (i + 1) * z.size ≤ n * z.size := Nat.mul_le_mul_right _ hi
    rw [Nat.add_mul] at this; omega
  have hm : (i * z.size + j) % z.size = j := by rw [Nat.add_comm, Nat.add_mul_mod_self_right, Nat.mod_eq_of_lt hj]
  simp [Builtin.zeroCells, hlt, hm, hj]
section
variable {cx : Cx} {o : Oper} {a : Act} {w : World} {X : Nat → Prop} {ι : Nat → LS} {σ : Nat → SV} {E : Nat → AV} {al : Nat} {K : AV → Upd → List Nat → Prop}
theorem s_clear {t : Nat} {ts : List Nat} {x : Operand} (hT : TOk cx) (ho : o.op = .call ⟨.builtin .clear, #[x], (t :: ts).toArray⟩) (hs : SR w X ι σ) (hE : ∀ x, VR w (XL X σ ι) ι (a.eval x) (ev E x)) (h : builtinW cx al .clear (t :: ts) [ev E x] σ K) : Good cx o a w X ι σ K := by
  have hx := hE x
  simp only [builtinW] at h
  obtain ⟨e, ti, hu, hte, h⟩ := elemT_fact hT h
  obtain ⟨i, d, z, f⟩ := hT.fact hte
  simp only [u1] at h
  have triv : ∀ ad, a.eval x = .slice ad 0 0 → K .un [] [] → Good cx o a w X ι σ K := fun ad e0 hK => by
    have hr : (Builtin.clear_ (t :: ts).toArray o.type #[.slice ad 0 0]).run cx.P w = .ok (.tuple #[]) w := by
      cases ad <;> simp [Builtin.clear_, run_underlying hu]
    exact Good.same hK hs (cv := .tuple #[]) (by simp [execOp, ho, resolve, invoke, builtin, e0, hr]) (.un _)
  cases hc : ev E x with
  | nils => rw [hc] at h hx; exact triv none hx.nils_inv h
  | emp => rw [hc] at h hx; obtain ⟨ad, e0⟩ := hx.emp_inv; exact triv ad e0 h
  | own s k j n q =>
    rw [hc] at h hx
    simp only [arrK_iff, bK_iff, Bool.and_eq_true] at h
    obtain ⟨s', es, hk, ⟨hss, hst⟩, hle0, hK⟩ := h
    have hst := Nat.eq_of_beq_eq_true hst
    subst hst
    have hss := Nat.eq_of_beq_eq_true hss
    subst hss
    have same : n = 0 → (List.take j es ++ (List.replicate n ti.zero ++ List.drop (j + n) es)) = es := fun h => by subst h; simp
    have stay : n = 0 → (∃ ad c, a.eval x = .slice ad 0 c) → Good cx o a w X ι σ K := fun h0 ⟨ad, c, e0⟩ => by
      have hr : (Builtin.clear_ (t :: ts).toArray o.type #[.slice ad 0 c]).run cx.P w = .ok (.tuple #[]) w := by
        cases ad <;> simp [Builtin.clear_, run_underlying hu]
      have hupd : updF σ [(k, .live (.arr ti.size es))] = σ := by funext k'; by_cases e' : k' = k <;> simp [updF, e', hk]
      rw [same h0] at hK
      refine ⟨_, _, _, hK, Runs.val (cv := .tuple #[]) (w' := w) (ι' := ι) (by simp [execOp, ho, resolve, invoke, builtin, e0, hr]) (Ext.refl _) (by rw [hupd]; exact hs) (.un _) (by rw [hupd]; exact Adv.refl _ _)⟩
    rcases hx.own_inv with ⟨c, b, p, vs, ty, e0, g1, g2, g3, g4⟩ | ⟨ad, e0, h0, _⟩
    · by_cases h0 : n = 0
      · exact stay h0 ⟨_, c, by rw [e0, h0]⟩
      · obtain ⟨_, us, ty', h3, h4, h5⟩ := hs.arr hk g1
        rw [h3] at g3
        cases g3
        have hnc : n ≤ c := by cases q <;> simp only [Q.fits] at g2 <;> omega
        have hz0 : z.cells.size ≠ 0 := by rw [f.len]; exact f.pos
        obtain ⟨z1, z2⟩ := zeroCells_list z.cells n hz0
        rw [f.len] at z1 z2
        obtain ⟨zr1, zr2⟩ := zero_rel f w (XL X σ ι)
        have hone : ∀ u ∈ (Builtin.zeroCells z.cells n).toList, u.oneCell' = true := fun u hu => by
          obtain ⟨m, hm⟩ := List.getElem?_of_mem hu
          have hml : m < n * ti.size := by rw [← z1]; exact (List.getElem?_eq_some_iff.1 hm).1
          have hj : m % ti.size < ti.size := Nat.mod_lt _ (by have := f.pos; omega)
          have hi : m / ti.size < n := Nat.div_lt_of_lt_mul (by rw [Nat.mul_comm]; exact hml)
          have := z2 (m / ti.size) (m % ti.size) hi hj
          rw [show m / ti.size * ti.size + m % ti.size = m by rw [Nat.mul_comm]; exact Nat.div_add_mod m ti.size, hm] at this
          have hzl : m % ti.size < ti.zero.length := by rw [← zr1, f.len]; exact hj
          exact (zr2 _ u ti.zero[m % ti.size] this.symm (by simp [hzl])).1
        have hle : p + j * ti.size + (Builtin.zeroCells z.cells n).toList.length ≤ vs.size := by
          have : (j + n) * ti.size ≤ (j + c) * ti.size := Nat.mul_le_mul_right _ (by omega)
          rw [Nat.add_mul] at this
          rw [z1]; omega
        have hst := run_storeCells_seg (P := cx.P) h3 hle hone
        have hr : (Builtin.clear_ (t :: ts).toArray o.type #[.slice (some ⟨b, p + j * ti.size, none⟩) n c]).run cx.P w = .ok (.tuple #[]) (w.setRow b (segA vs (p + j * ti.size) (Builtin.zeroCells z.cells n).toList)) := by
          cases n with
          | zero => exact absurd rfl h0
          | succ n => simp [Builtin.clear_, run_underlying hu, f.run_zero, hst]
        obtain ⟨s1, a1⟩ := hs.setSeg hk g1 h3 (segA_size hle) (.arr ti.size (List.take j es ++ (List.replicate n ti.zero ++ List.drop (j + n) es))) (fun Y _ hp => ⟨rfl, _, ty, setRow_heap w b vs _ ty (0, 0) h3, fun m e1 he1 => by
          by_cases hm : m < j
          · rw [List.getElem?_append_left (by simp; omega), List.getElem?_take, if_pos hm] at he1; exact h4 _ _ he1
          · rw [List.getElem?_append_right (by simp; omega), show (List.take j es).length = j by simp; omega] at he1
            by_cases hm' : m - j < n
            · rw [List.getElem?_append_left (by simp; omega), List.getElem?_replicate, if_pos hm'] at he1
              cases he1
              rw [← zr1, f.len]
            · rw [List.getElem?_append_right (by simp; omega), List.getElem?_drop] at he1; exact h4 _ _ he1, fun m r e1 y1 he1 hy1 => by
          rw [segA_get hle, z1]
          by_cases hm : m < j
          · rw [List.getElem?_append_left (by simp; omega), List.getElem?_take, if_pos hm] at he1
            have hr' : r < ti.size := by rw [← h4 _ _ he1]; exact (List.getElem?_eq_some_iff.1 hy1).1
            have : (m + 1) * ti.size ≤ j * ti.size := Nat.mul_le_mul_right _ hm
            rw [Nat.add_mul] at this
            rw [if_neg (by omega)]
            obtain ⟨u, k1, k2, k3⟩ := h5 _ r e1 y1 he1 hy1
            exact ⟨u, k1, k2, hp _ _ k3⟩
          · rw [List.getElem?_append_right (by simp; omega), show (List.take j es).length = j by simp; omega] at he1
            have hge : j * ti.size ≤ m * ti.size := Nat.mul_le_mul_right _ (by omega)
            by_cases hm' : m - j < n
            · rw [List.getElem?_append_left (by simp; omega), List.getElem?_replicate, if_pos hm'] at he1
              cases he1
              have hr' : r < ti.size := by rw [← f.len, zr1]; exact (List.getElem?_eq_some_iff.1 hy1).1
              have hlt : (m - j + 1) * ti.size ≤ n * ti.size := Nat.mul_le_mul_right _ hm'
              rw [Nat.add_mul, Nat.sub_mul] at hlt
              rw [if_pos (by omega), show p + (m * ti.size + r) - (p + j * ti.size) = (m - j) * ti.size + r by rw [Nat.sub_mul]; omega, z2 _ _ hm' hr']
              have hzr : r < z.cells.size := by rw [f.len]; exact hr'
              have := zr2 r z.cells[r] y1 (by simp [hzr]) hy1
              exact ⟨z.cells[r], by simp [hzr], this.1, hp _ _ this.2⟩
            · rw [List.getElem?_append_right (by simp; omega), List.getElem?_drop, List.length_replicate, show j + n + (m - j - n) = m by omega] at he1
              have hge' : (j + n) * ti.size ≤ m * ti.size := Nat.mul_le_mul_right _ (by omega)
              rw [Nat.add_mul] at hge'
              rw [if_neg (by omega)]
              obtain ⟨u, k1, k2, k3⟩ := h5 _ r e1 y1 he1 hy1
              exact ⟨u, k1, k2, hp _ _ k3⟩⟩)
        exact ⟨_, _, _, hK, Runs.val (cv := .tuple #[]) (by simp [execOp, ho, resolve, invoke, builtin, e0, hr]) (Ext.refl _) s1 (.un _) a1⟩
    · exact stay h0 ⟨ad, 0, e0⟩
  | _ => rw [hc] at h; exact h.elim
end
end Go.Ab
