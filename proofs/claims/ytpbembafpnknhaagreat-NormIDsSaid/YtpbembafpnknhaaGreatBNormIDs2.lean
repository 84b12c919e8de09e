/- Proof texts of one seat,in one file: the walks of functions and the lemmas under them,printed by programs and typed by hand. Put together by wip/bundle.py. -/
import Derived.Test.YtpbembafpnknhaaGreatRows
import Derived.ArgAppend
import Derived.Below
import Derived.BigQuiet
import Derived.ChangeArms
import Derived.ChangeOld
import Derived.ChangeSlices
import Derived.Deep.AppendLies
import Derived.Deep.CutBlock
import Derived.Deep.DeepCutAuto
import Derived.Deep.Draws
import Derived.Deep.LoopGhost
import Derived.Deep.OwnRows
import Derived.Deep.QuietTactic
import Derived.Deep.RegionHeld3
import Derived.Deep.RegionLawGrows
import Derived.Deep.Upon
import Derived.Ground.Names2Prog
import Derived.Ground.SlgfProg
import Derived.Ground.SlgnProg
import Derived.Ground.SlsfProg
import Derived.JoinedOf
import Derived.KernelRfl
import Derived.Laws.BitsLemmas
import Derived.Laws.BytesArg
import Derived.Laws.IdiomCopy
import Derived.Laws.MakeOwn
import Derived.Laws.OwnMore
import Derived.Laws.Rows
import Derived.Laws.Slices
import Derived.Laws.StructEq
import Derived.Lib.AppendStr
import Derived.Lib.ConvBytes
import Derived.Lib.Hide
import Derived.Maps.AppendAt
import Derived.OpenShut
import Derived.OrdersHeld
import Derived.OwnWalk
import Derived.ProofKit
import Derived.RowKit
import Derived.RowKit3
import Derived.Shelf.GgSortFunc.InsertionK
import Derived.Shelf.SlGeneric
import Derived.Shelf.SlSortCmp.NoneTotal
import Derived.Shelf.Slices.In.SortNone
import Derived.Shelf.SlicesE.Clone
import Derived.Shelf.SlicesQ.IndexFunc
import Derived.Shelf.Sort.Plain
import Derived.ShutString
import Derived.SizedLaws
import Derived.Sort.Grow
import Derived.Sort.Walk0
import Derived.StillTailTactics
import Derived.Tactics
import Derived.WalkKit
import Derived.WalkSpells
import Derived.WideLaws
import Derived.Test.YtpbembafpnknhaaGreatBNormIDs0
import Derived.Test.YtpbembafpnknhaaGreatBNormIDs1
set_option maxHeartbeats 8000000
set_option maxRecDepth 100000
set_option linter.unusedVariables false
set_option linter.unusedSimpArgs false
set_option linter.unusedSectionVars false
namespace Sn
section
variable{I κ : Type}[DecidableEq κ](id par : I → κ)
def kidsOf(l:List I)(s:κ):List I:=l.filter fun y=>par y=s
def pre(ord:List I→List I)(f:I→I)(l:List I):Nat→I→List I
  | 0, _ => []
  | k+1,x=>f x::(ord (kidsOf par l (id x))).flatMap (pre ord f l k)
def Anc(l:List I)(a:I):I→Nat→Prop
  | y, 0 => y = a
  | y,n+1 => ∃ p,p ∈ l∧id p=par y∧Anc l a p n
structure Rooted (l:List I) (r:I):Prop where
  nodup:(l.map id).Nodup
  mem:r ∈ l
  top:∀ p ∈ l,id p≠par r
variable{id par}{l : List I}{r : I}
omit [DecidableEq κ] in
theorem id_inj(h:(l.map id).Nodup){a b:I}(ha:a ∈ l)(hb:b ∈ l)(he:id a=id b):a=b:=by
  induction l with
  | nil => cases ha
  | cons x t ih =>
    rw [List.map_cons,List.nodup_cons] at h;have hm:∀ z,z ∈ t→id z≠id x:=fun z hz e=>h.1 (e ▸ List.mem_map_of_mem (f:=id) hz)
    rcases List.mem_cons.1 ha with h1|h1 <;> rcases List.mem_cons.1 hb with h2|h2
    · rw [h1,h2]
    · subst h1;exact absurd he.symm (hm b h2)
    · subst h2;exact absurd he (hm a h1)
    exact ih h.2 h1 h2
theorem nodup_of_map{α β:Type}{g:α→β}{l:List α}(h:(l.map g).Nodup):l.Nodup:=by
  unfold List.Nodup at h ⊢;rw [List.pairwise_map] at h;exact h.imp (fun hne e=>hne (by rw [e]))
theorem nodup_flatMap'{α β:Type}{g:α→List β}:∀ {l:List α},(∀ a ∈ l,(g a).Nodup)→(l.Pairwise fun a b => ∀ x,x ∈ g a→x ∉ g b)→(l.flatMap g).Nodup
  | [], _, _ => by simp
  | a :: t, h, hp => by
    rw [List.pairwise_cons] at hp;rw [List.flatMap_cons,List.nodup_append];refine⟨h a List.mem_cons_self,nodup_flatMap' (fun b hb=>h b (List.mem_cons_of_mem _ hb)) hp.2,?_⟩;rintro x hx y hy rfl;obtain⟨b,hb,hy⟩:=List.mem_flatMap.1 hy;exact hp.1 b hb x hx hy
omit [DecidableEq κ] in
theorem Anc.inj(h:(l.map id).Nodup){a b:I}:∀ {n:Nat} {y:I},Anc id par l a y n→Anc id par l b y n→a=b
  | 0, y, ha, hb => ha.symm.trans hb
  | n + 1, y, ⟨p, hp, e, ha⟩, ⟨q, hq, e2, hb⟩ => by
    have:p=q:=id_inj h hp hq (e.trans e2.symm);subst this;exact Anc.inj h ha hb
omit [DecidableEq κ] in
theorem Anc.trans{a b:I}:∀ {m:Nat} {y:I} {n:Nat},Anc id par l b y m→Anc id par l a b n→Anc id par l a y (m+n)
  | 0, y, n, h, h2 => by
    have:y=b:=h;subst this
    rw [Nat.zero_add]; exact h2
  | m + 1, y, n, ⟨p, hp, e, h⟩, h2 => by
    rw [Nat.add_right_comm];exact⟨p,hp,e,Anc.trans h h2⟩
omit [DecidableEq κ] in
theorem Rooted.level(h:Rooted id par l r):∀ {n m:Nat} {y:I},Anc id par l r y n→Anc id par l r y m→n=m
  | 0, 0, _, _, _ => rfl
  | 0, m + 1, y, h0, ⟨p, hp, e, _⟩ => by
    have:y=r:=h0;subst this
    exact absurd e (h.top p hp)
  | n + 1, 0, y, ⟨p, hp, e, _⟩, h0 => by
    have:y=r:=h0;subst this
    exact absurd e (h.top p hp)
  | n + 1, m + 1, y, ⟨p, hp, e, h1⟩, ⟨q, hq, e2, h2⟩ => by
    have:p=q:=id_inj h.nodup hp hq (e.trans e2.symm);subst this;rw [h.level h1 h2]
theorem mem_kidsOf{s:κ}{y:I}:y ∈ kidsOf par l s↔y ∈ l∧par y=s:=by simp [kidsOf]
def IsOrd(ord:List I→List I):Prop:=∀ k:List I,(ord k).Perm k
section
variable{ord : List I → List I}(ho : IsOrd ord){f : I → I}
include ho
theorem mem_ord{k:List I}{y:I}:y ∈ ord k↔y ∈ k:=(ho k).mem_iff
theorem mem_pre{z : I} : ∀ {k : Nat} {x : I}, x ∈ l → (z ∈ pre id par ord f l k x ↔ ∃ y n, z = f y ∧ y ∈ l ∧ n < k ∧ Anc id par l x y n)
  | 0, x, _ => by simp [pre]
  | k + 1, x, hx => by
    unfold pre;rw [List.mem_cons,List.mem_flatMap];constructor
    · rintro (rfl | ⟨c, hc, hz⟩)
      · exact ⟨x,0,rfl,hx,by omega,rfl⟩
      rw [mem_ord ho,mem_kidsOf] at hc;obtain⟨y,n,rfl,hy,hn,ha⟩:=(mem_pre hc.1).1 hz;exact⟨y,n+1,rfl,hy,by omega,ha.trans (n:=1) ⟨x,hx,hc.2.symm,rfl⟩⟩
    rintro ⟨y,n,rfl,hy,hn,ha⟩
    -- the chain's last step but one
    have key:∀ (n:Nat) (y:I),y ∈ l→Anc id par l x y (n+1)→∃ c,c ∈ l∧par c=id x∧Anc id par l c y n:=by
      intro n
      induction n with
      | zero =>
        rintro y hy ⟨p,hp,e,h0⟩;have:p=x:=h0;subst this
        exact ⟨y, hy, e.symm, rfl⟩
      | succ n ih =>
        rintro y hy ⟨p,hp,e,h0⟩;obtain⟨c,hc,e2,h1⟩:=ih p hp h0;exact⟨c,hc,e2,p,hp,e,h1⟩
    cases n with
    | zero =>
      have:y=x:=ha;subst this
      exact .inl rfl
    | succ n =>
      obtain⟨c,hc,e,h1⟩:=key n y hy ha;exact .inr ⟨c,(mem_ord ho).2 (mem_kidsOf.2 ⟨hc,e⟩),(mem_pre hc).2 ⟨y,n,rfl,hy,by omega,h1⟩⟩
theorem pre_nodup(hf:∀ x,id (f x)=id x)(h:Rooted id par l r):∀ {k:Nat} {x:I} {d:Nat},x ∈ l→Anc id par l r x d→((pre id par ord f l k x).map id).Nodup
  | 0, _, _, _, _ => by simp [pre]
  | k + 1, x, d, hx, hd => by
    unfold pre;rw [List.map_cons,List.nodup_cons,List.map_flatMap];have hkid:∀ c,c ∈ ord (kidsOf par l (id x))→c ∈ l∧Anc id par l r c (d+1):=by
      intro c hc;rw [mem_ord ho,mem_kidsOf] at hc;refine⟨hc.1,?_⟩;rw [Nat.add_comm];exact Anc.trans (m:=1) ⟨x,hx,hc.2.symm,rfl⟩ hd
    have hin:∀ c,c ∈ ord (kidsOf par l (id x))→∀ s,s ∈ (pre id par ord f l k c).map id→∃ y n,id y=s∧y ∈ l∧Anc id par l c y n∧Anc id par l r y (n+(d+1)):=by
      intro c hc s hs;obtain⟨z,hz,rfl⟩:=List.mem_map.1 hs;obtain⟨y,n,rfl,hy,_,ha⟩:=(mem_pre ho (hkid c hc).1).1 hz;exact⟨y,n,(hf y).symm,hy,ha,ha.trans (hkid c hc).2⟩
    refine⟨fun hm=>?_,?_⟩
    · rw [List.mem_flatMap] at hm
      obtain⟨c,hc,hs⟩:=hm;obtain⟨y,n,e,hy,_,hl⟩:=hin c hc _ hs;have:y=x:=id_inj h.nodup hy hx (e.trans (hf x));subst this;have:=h.level hd hl;omega
    refine nodup_flatMap' (fun c hc=>pre_nodup hf h (hkid c hc).1 (hkid c hc).2) ?_;have hnd:(ord (kidsOf par l (id x))).Nodup:=by
      rw [(ho _).nodup_iff];exact List.Pairwise.filter _ (nodup_of_map h.nodup)
    refine(List.Pairwise.and_mem.1 hnd).imp ?_;rintro a b ⟨ha,hb,hne⟩;intro s hsa hsb;obtain⟨y,n,e,hy,han,hl⟩:=hin a ha s hsa;obtain⟨y2,m,e2,hy2,ham,hl2⟩:=hin b hb s hsb;have:y=y2:=id_inj h.nodup hy hy2 (e.trans e2.symm);subst this;have hnm:=h.level hl hl2;have:n=m:=by omega
    subst this;exact hne (Anc.inj h.nodup han ham)
end
end
section
variable{I κ : Type}[DecidableEq κ]{id par : I → κ}{l : List I}{r : I}
theorem flatMap_one{α β : Type}{g : α → List β}{a : α} : ∀ {L : List α}, L.Nodup → a ∈ L → (∀ b ∈ L, b ≠ a → g b = []) → L.flatMap g = g a
  | [], _, h, _ => by cases h
  | b :: t, hn, h, hz => by
    rw [List.nodup_cons] at hn;rw [List.flatMap_cons];by_cases e:b=a
    · subst e
      have:t.flatMap g=[]:=by
        rw [List.flatMap_eq_nil_iff];exact fun c hc=>hz c (List.mem_cons_of_mem _ hc) (fun e=>hn.1 (e ▸ hc))
      rw [this,List.append_nil]
    rw [hz b List.mem_cons_self e,List.nil_append];have hat:a ∈ t:=by
      rcases List.mem_cons.1 h with h|h
      · exact absurd h.symm e
      exact h
    exact flatMap_one hn.2 hat (fun c hc=>hz c (List.mem_cons_of_mem _ hc))
theorem flatMap_singles{α β:Type}{g:α→List β}{f:α→β}:∀ {L:List α},(∀ a ∈ L,g a=[f a])→L.flatMap g=L.map f
  | [], _ => rfl
  | a :: t, h => by
    rw [List.flatMap_cons,h a List.mem_cons_self,flatMap_singles (fun b hb=>h b (List.mem_cons_of_mem _ hb))];rfl
theorem kidsOf_nil{s:κ}{L:List I}(h:∀ z ∈ L,par z≠s):kidsOf par L s=[]:=by
  unfold kidsOf;rw [List.filter_eq_nil_iff];exact fun z hz=>by simpa using h z hz
omit [DecidableEq κ] in
theorem Rooted.depth(h : Rooted id par l r) : ∀ {n : Nat} {y : I}, y ∈ l → Anc id par l r y n → n < l.length := by
  have key:∀ (n:Nat) (y:I),y ∈ l→Anc id par l r y n→∃ c:List I,c.length=n+1∧c.Nodup∧∀ z ∈ c,z ∈ l∧∃ m,m≤n∧Anc id par l r z m:=by
    intro n
    induction n with
    | zero => exact fun y hy ha => ⟨[y], rfl, by simp, fun z hz => by rw [List.mem_singleton.1 hz]; exact ⟨hy, 0, Nat.le_refl _, ha⟩⟩
    | succ n ih =>
      rintro y hy ⟨p,hp,e,ha⟩;obtain⟨c,hl,hn,hc⟩:=ih p hp ha;refine⟨y::c,by simp [hl],List.nodup_cons.2 ⟨fun hm=>?_,hn⟩,fun z hz=>?_⟩
      · obtain ⟨_, m, hm, h2⟩ := hc y hm
        have:=h.level h2 (show Anc id par l r y (n+1) from ⟨p,hp,e,ha⟩);omega
      rcases List.mem_cons.1 hz with rfl|hz
      · exact ⟨hy,n+1,Nat.le_refl _,p,hp,e,ha⟩
      obtain⟨h1,m,hm,h2⟩:=hc z hz;exact⟨h1,m,by omega,h2⟩
  intro n y hy ha;obtain⟨c,hl,hn,hc⟩:=key n y hy ha;have:=hn.length_le_of_subset (fun z hz=>(hc z hz).1);omega
section
variable{ord : List I → List I}(ho : IsOrd ord){f : I → I}(hf : ∀ x, id (f x) = id x)(hp : ∀ x, par (f x) = par x)
include ho hf hp
omit hf in
theorem kidsOf_pre(h : Rooted id par l r) : ∀ {n k d : Nat} {x y : I}, x ∈ l → y ∈ l → Anc id par l r x d → Anc id par l x y n → n + 1 < k → kidsOf par (pre id par ord f l k x) (id y) = (ord (kidsOf par l (id y))).map f
  | n, 0, _, _, _, _, _, _, _, hk => by omega
  | n, k + 1, d, x, y, hx, hy, hd, ha, hk => by
    have hkid:∀ c,c ∈ ord (kidsOf par l (id x))→c ∈ l∧par c=id x∧Anc id par l r c (d+1):=by
      intro c hc;rw [mem_ord ho,mem_kidsOf] at hc;refine⟨hc.1,hc.2,?_⟩;rw [Nat.add_comm];exact Anc.trans (m:=1) ⟨x,hx,hc.2.symm,rfl⟩ hd
    -- who stands below a kid,and right in y
    have hbelow:∀ c,c ∈ ord (kidsOf par l (id x))→∀ z,z ∈ pre id par ord f l k c→par z=id y→∃ w m,z=f w∧w ∈ l∧par w=id y∧Anc id par l c w m∧m+(d+1)=d+n+1:=by
      intro c hc z hz e;obtain⟨w,m,rfl,hw,_,hm⟩:=(mem_pre ho (hkid c hc).1).1 hz;rw [hp] at e;refine⟨w,m,rfl,hw,e,hm,?_⟩;have h1:=hm.trans (hkid c hc).2.2;have h2:Anc id par l r w (n+d+1):=⟨y,hy,e.symm,ha.trans hd⟩;have:=h.level h1 h2;omega
    have hfx:kidsOf par (f x::(ord (kidsOf par l (id x))).flatMap (pre id par ord f l k)) (id y)=kidsOf par ((ord (kidsOf par l (id x))).flatMap (pre id par ord f l k)) (id y):=by
      unfold kidsOf;rw [List.filter_cons,if_neg];simp only [decide_eq_true_eq,hp];intro e;have h2:Anc id par l r x (n+d+1):=⟨y,hy,e.symm,ha.trans hd⟩;have:=h.level hd h2;omega
    have hfm:kidsOf par ((ord (kidsOf par l (id x))).flatMap (pre id par ord f l k)) (id y)=(ord (kidsOf par l (id x))).flatMap (fun c=>kidsOf par (pre id par ord f l k c) (id y)):=by
      unfold kidsOf;exact List.filter_flatMap
    have hnd:(ord (kidsOf par l (id x))).Nodup:=by
      rw [(ho _).nodup_iff];exact List.Pairwise.filter _ (nodup_of_map h.nodup)
    unfold pre;rw [hfx,hfm]
    cases n with
    | zero =>
      have:y=x:=ha;subst this;refine flatMap_singles (fun c hc=>?_);obtain⟨k,rfl⟩:∃ m,k=m+1:=⟨k - 1,by omega⟩;unfold pre;have hc1:∀ L:List I,kidsOf par (f c::L) (id y)=f c::kidsOf par L (id y):=fun L=>by
        unfold kidsOf;rw [List.filter_cons,if_pos (by simp [hp,(hkid c hc).2.1])]
      rw [hc1]
      congr 1
      refine kidsOf_nil (fun z hz e=>?_);obtain⟨b,hb,hzb⟩:=List.mem_flatMap.1 hz;rw [mem_ord ho,mem_kidsOf] at hb;obtain⟨w,m,rfl,hw,_,hm⟩:=(mem_pre ho hb.1).1 hzb;rw [hp] at e;have hb1:Anc id par l r b (1+(d+1)):=Anc.trans (m:=1) ⟨c,(hkid c hc).1,hb.2.symm,rfl⟩ (hkid c hc).2.2;have h1:=hm.trans hb1;have h2:Anc id par l r w (d+1):=⟨y,hy,e.symm,hd⟩;have:=h.level h1 h2
      omega
    | succ n =>
      -- the kid through which y is reached
      have key:∀ (n:Nat) (y:I),y ∈ l→Anc id par l x y (n+1)→∃ c,c ∈ l∧par c=id x∧Anc id par l c y n:=by
        intro n
        induction n with
        | zero =>
          rintro y hy ⟨p,hp,e,h0⟩;have:p=x:=h0;subst this
          exact ⟨y, hy, e.symm, rfl⟩
        | succ n ih =>
          rintro y hy ⟨p,hp,e,h0⟩;obtain⟨c,hc,e2,h1⟩:=ih p hp h0;exact⟨c,hc,e2,p,hp,e,h1⟩
      obtain⟨c,hc,ec,hcy⟩:=key n y hy ha;have hcm:c ∈ ord (kidsOf par l (id x)):=(mem_ord ho).2 (mem_kidsOf.2 ⟨hc,ec⟩);rw [flatMap_one hnd hcm (fun b hb hne=>?_)]
      · exact kidsOf_pre h hc hy (hkid c hcm).2.2 hcy (by omega)
      refine kidsOf_nil (fun z hz e=>?_);obtain⟨w,m,rfl,hw,e2,hm,hmn⟩:=hbelow b hb z hz e;obtain⟨m,rfl⟩:∃ q,m=q+1:=⟨m - 1,by omega⟩;obtain⟨p,hpl,ep,hbp⟩:=hm;have:p=y:=id_inj h.nodup hpl hy (ep.trans e2);subst this;have:m=n:=by omega
      subst this;exact hne (Anc.inj h.nodup hbp hcy)
end
theorem pre_perm{ord:List I→List I}(ho:IsOrd ord){f:I→I}(hf:∀ x,id (f x)=id x)(h:Rooted id par l r){K:Nat}(hall:∀ y ∈ l,∃ n,n<K∧Anc id par l r y n):(pre id par ord f l K r).Perm (l.map f):=by
  have h1:((pre id par ord f l K r).map id).Nodup:=pre_nodup ho hf h h.mem (show Anc id par l r r 0 from rfl);have h2:((l.map f).map id).Nodup:=by
    rw [List.map_map];have:id ∘ f=id:=by funext x;exact hf x
    rw [this];exact h.nodup
  rw [List.perm_ext_iff_of_nodup (nodup_of_map h1) (nodup_of_map h2)];intro z;rw [mem_pre ho h.mem,List.mem_map];constructor
  · rintro ⟨y, n, rfl, hy, _, _⟩
    exact⟨y,hy,rfl⟩
  rintro ⟨y,hy,rfl⟩;obtain⟨n,hn,ha⟩:=hall y hy;exact⟨y,n,rfl,hy,hn,ha⟩
end
section
variable{I κ : Type}[DecidableEq κ](id par : I → κ)
inductive Forest:I→List I→Prop where
  | nil (p : I) : Forest p []
  | cons (p y:I) (A B:List I):par y=id p→Forest y A→Forest p B→Forest p (y::(A++B))
def popTo(q:κ):List I→List I
  | [] => []
  | p::ps=>if id p=q then p::ps else popTo q ps
def standsB(chk : List I → Bool) : List I → List I → Bool
  | _, [] => true
  | st, y :: t => match popTo id (par y) st with
    | [] => false
    | p::ps=>chk (p::ps)&&standsB chk (y::p::ps) t
variable{id par}{l : List I}{r : I}
end
section
variable{I κ : Type}[DecidableEq κ](id par : I → κ)
inductive Chain (l:List I) (r:I):List I→Prop where
  | top : Chain l r [r]
  | step (y p:I) (st:List I):y ∈ l→par y=id p→Chain l r (p::st)→Chain l r (y::p::st)
variable{id par}{l : List I}{r : I}
omit [DecidableEq κ] in
theorem Chain.mem_all(hr:r ∈ l){c:List I}(h:Chain id par l r c):∀ z ∈ c,z ∈ l:=by
  induction h with
  | top => intro z hz; rw [List.mem_singleton.1 hz]; exact hr
  | step y p st hy _ _ ih =>
    intro z hz;rcases List.mem_cons.1 hz with rfl|hz
    · exact hy
    exact ih z hz
omit [DecidableEq κ] in
theorem Chain.anc(hr:r ∈ l){c:List I}(h:Chain id par l r c):∀ {x:I} {st:List I},c=x::st→Anc id par l r x st.length:=by
  induction h with
  | top =>
    intro x st e;injection e with e1 e2;subst e1;subst e2
    exact rfl
  | step y p st hy e hc ih =>
    intro x st' e';injection e' with e1 e2;subst e1;subst e2;exact⟨p,hc.mem_all hr p List.mem_cons_self,e.symm,ih rfl⟩
omit [DecidableEq κ] in
theorem Chain.tail{x y:I}{st:List I}(h:Chain id par l r (x::y::st)):Chain id par l r (y::st):=by
  cases h with
  | step _ _ _ _ _ h=>exact h
omit [DecidableEq κ] in
theorem Chain.sub(hr:r ∈ l):∀ {c:List I},Chain id par l r c→∀ z ∈ c,∃ n,n<c.length∧Anc id par l r z n:=by
  intro c h
  induction h with
  | top => intro z hz; rw [List.mem_singleton.1 hz]; exact ⟨0, by simp, rfl⟩
  | step y p st hy e hc ih =>
    intro z hz;rcases List.mem_cons.1 hz with rfl|hz
    · exact ⟨st.length+1,by simp,(Chain.step z p st hy e hc).anc hr rfl⟩
    obtain⟨n,hn,ha⟩:=ih z hz;exact⟨n,by simp only [List.length_cons] at hn ⊢;omega,ha⟩
omit [DecidableEq κ] in
theorem Chain.uniq(h : Rooted id par l r) : ∀ {st st' : List I} {x : I}, Chain id par l r (x :: st) → Chain id par l r (x :: st') → st = st'
  | [], [], _, _, _ => rfl
  | [], y :: st', x, h1, h2 => by
    have:=h.level (h1.anc h.mem rfl) (h2.anc h.mem rfl)
    simp at this
  | y :: st, [], x, h1, h2 => by
    have:=h.level (h1.anc h.mem rfl) (h2.anc h.mem rfl)
    simp at this
  | y :: st, z :: st', x, h1, h2 => by
    have hy:=h1.tail.mem_all h.mem y List.mem_cons_self;have hz:=h2.tail.mem_all h.mem z List.mem_cons_self;have e:y=z:=by
      cases h1 with
      | step _ _ _ _ e1 _ =>
        cases h2 with
        | step _ _ _ _ e2 _=>exact id_inj h.nodup hy hz (e1.symm.trans e2)
    subst e;rw [Chain.uniq h h1.tail h2.tail]
theorem popTo_chain{q:κ}:∀ {st:List I},Chain id par l r st→∀ {p:I} {ps:List I},popTo id q st=p::ps→Chain id par l r (p::ps)∧id p=q:=by
  intro st h
  induction h with
  | top =>
    intro p ps e;unfold popTo at e
    split at e
    · injection e with e1 e2
      subst e1;subst e2;exact⟨.top,‹_›⟩
    simp [popTo] at e
  | step y p st hy e hc ih =>
    intro p' ps e';unfold popTo at e'
    split at e'
    · injection e' with e1 e2
      subst e1;subst e2;exact⟨.step _ _ _ hy e hc,‹_›⟩
    exact ih e'
theorem stands_chk(h:Rooted id par l r)(chk:List I→Bool):∀ {F:List I} {st:List I},Chain id par l r st→(∀ y ∈ F,y ∈ l)→standsB id par chk st F=true →
    ∀ y ∈ F, ∃ p ps, par y = id p ∧ Chain id par l r (p :: ps) ∧ chk (p :: ps) = true
  | [], _, _, _, _ => fun y hy => by cases hy
  | y :: t, st, hst, hF, hs => by
    unfold standsB at hs
    split at hs
    · cases hs
    rename_i p ps hp
    simp only [Bool.and_eq_true] at hs;obtain⟨hc,e⟩:=popTo_chain hst hp;intro z hz;rcases List.mem_cons.1 hz with rfl|hz
    · exact ⟨p,ps,e.symm,hc,hs.1⟩
    exact stands_chk h chk (.step y p ps (hF y List.mem_cons_self) e.symm hc) (fun w hw=>hF w (List.mem_cons_of_mem _ hw)) hs.2 z hz
def After(id par:I→κ)(chk:List I→Bool)(st T:List I):Prop:=∀ ext:List I,(∀ e ∈ ext,∀ s ∈ st,id e≠id s)→standsB id par chk (ext++st) T=true
theorem popTo_ext{ext st:List I}{x:I}(h:∀ e ∈ ext,id e≠id x):popTo id (id x) (ext++x::st)=x::st:=by
  induction ext with
  | nil => simp [popTo]
  | cons e t ih =>
    rw [List.cons_append,popTo,if_neg (h e List.mem_cons_self)];exact ih (fun z hz=>h z (List.mem_cons_of_mem _ hz))
section
variable{ord : List I → List I}(ho : IsOrd ord){f : I → I}(hf : ∀ x, id (f x) = id x)(hp : ∀ x, par (f x) = par x)(chk : List I → Bool)
include ho hf hp
theorem pre_after(h : Rooted id par l r)(hchk : ∀ x st c, Chain id par l r (x :: st) → c ∈ l → par c = id x → chk ((x :: st).map f) = true) :
    ∀ (k:Nat) (x:I) (st T:List I),Chain id par l r (x::st)→After id par chk ((x::st).map f) T→After id par chk ((x::st).map f) ((ord (kidsOf par l (id x))).flatMap (pre id par ord f l k)++T):=by
  intro k
  induction k with
  | zero =>
    intro x st T _ hT;have:(ord (kidsOf par l (id x))).flatMap (pre id par ord f l 0)=[]:=by
      rw [List.flatMap_eq_nil_iff];exact fun _ _=>rfl
    rw [this]; exact hT
  | succ k ih =>
    intro x st T hc hT;have key:∀ L:List I,(∀ c ∈ L,c ∈ l∧par c=id x)→After id par chk ((x::st).map f) (L.flatMap (pre id par ord f l (k+1))++T):=by
      intro L
      induction L with
      | nil => exact fun _ => hT
      | cons c L ihL =>
        intro hL;have hT':=ihL (fun b hb=>hL b (List.mem_cons_of_mem _ hb));obtain⟨hcl,hcp⟩:=hL c List.mem_cons_self;have hcc:Chain id par l r (c::x::st):=.step c x st hcl hcp hc;intro ext hext;rw [List.flatMap_cons,List.append_assoc];generalize L.flatMap (pre id par ord f l (k+1))++T=T' at hT';unfold pre;rw [List.cons_append];unfold standsB;have e1:popTo id (par (f c)) (ext++(x::st).map f)=(x::st).map f:=by
          rw [hp,hcp,← hf x,List.map_cons];exact popTo_ext (fun e he=>hext e he (f x) (by simp))
        rw [e1,List.map_cons];simp only [Bool.and_eq_true];refine⟨by have:=hchk x st c hc hcl hcp;rwa [List.map_cons] at this,?_⟩;have h2:After id par chk ((c::x::st).map f) T':=by
          intro ext' he';have:=hT' (ext' ++ [f c]) (fun e he s hs=>?_)
          · rw [List.append_assoc] at this
            rw [List.map_cons];exact this
          rcases List.mem_append.1 he with he|he
          · exact he' e he s (by rw [List.map_cons];exact List.mem_cons_of_mem _ hs)
          rw [List.mem_singleton.1 he];obtain⟨z,hz,rfl⟩:=List.mem_map.1 hs;rw [hf,hf];intro e2;have hzl:=hc.mem_all h.mem z hz;have:=id_inj h.nodup hcl hzl e2;subst this;obtain⟨n,hn,ha⟩:=hc.sub h.mem c hz;have:=h.level ha (hcc.anc h.mem rfl);simp only [List.length_cons] at hn this;omega
        have h3:=ih c (x::st) T' hcc h2 [] (fun e he=>by cases he)
        rwa [List.nil_append,List.map_cons,List.map_cons] at h3
    exact key _ (fun c hcm=>by rwa [mem_ord ho,mem_kidsOf] at hcm)
theorem pre_stands(h:Rooted id par l r)(hchk:∀ x st c,Chain id par l r (x::st)→c ∈ l→par c=id x→chk ((x::st).map f)=true)(k:Nat) :
    standsB id par chk [f r] ((ord (kidsOf par l (id r))).flatMap (pre id par ord f l k))=true:=by
  have:=pre_after ho hf hp chk h hchk k r [] [] .top (fun ext _=>rfl) [] (fun e he=>by cases he)
  rwa [List.append_nil,List.nil_append] at this
end
end
end Sn
namespace Go.Proofs.YtpbembafpnknhaaGreat.Pr
open Go.RowKit Go.Proofs.YtpbembafpnknhaaGreatW.PrintWords Go.Proofs.YtpbembafpnknhaaGreatW.PrintLast Go.Proofs.YtpbembafpnknhaaGreatW.PrintMore
open Go.Sort (HoldsK flatK putRowK Holds putRow grow get_flatK size_flatK putCells mapBlock onCells)
section
variable{α : Type}[Inhabited α]{enc : α → List Value}{k : Nat}
omit [Inhabited α] in
theorem flat_length(hk:∀ x,(enc x).length=k):∀ xs:List α,(xs.flatMap enc).length=xs.length * k
  | [] => by simp
  | x::r=>by rw [List.flatMap_cons,List.length_append,hk,flat_length hk r,List.length_cons,Nat.add_mul,Nat.one_mul,Nat.add_comm]
theorem flat_get(hk:∀ x,(enc x).length=k):∀ (xs:List α) (t:Nat),t<xs.length * k→(xs.flatMap enc)[t]? = some ((enc xs[t / k]!)[t % k]!)
  | [], t, h => by simp at h
  | x :: r, t, h => by
    have hk0:0<k:=by
      rcases Nat.eq_zero_or_pos k with h0|h0
      · subst h0;simp at h
      exact h0
    rw [List.flatMap_cons];by_cases ht:t<k
    · rw [List.getElem?_append_left (by rw [hk]; exact ht), Nat.div_eq_of_lt ht, Nat.mod_eq_of_lt ht]
      rw [List.getElem?_eq_getElem (by rw [hk];exact ht)];simp [hk,ht]
    rw [List.getElem?_append_right (by rw [hk];omega),hk];rw [List.length_cons,Nat.add_mul,Nat.one_mul] at h;rw [flat_get hk r (t - k) (by omega)];have e1:t / k=(t - k) / k+1:=by
      conv=>lhs;rw [show t=(t - k)+k by omega]
      exact Nat.add_div_right _ hk0
    have e2:t % k=(t - k) % k:=by
      conv=>lhs;rw [show t=(t - k)+k by omega]
      exact Nat.add_mod_right _ _
    rw [e1,e2];simp
theorem holdsK_of_own(hk:∀ x,(enc x).length=k){w:World}{base e n cap g:Nat}{xs:List α}(_hn:xs.length=n)(h:w.ownsRow base e k (.slice (some ⟨g,0,none⟩) n cap) n (xs.flatMap enc)):HoldsK enc k w g 0 xs.toArray:=by
  intro j hj;rw [size_flatK] at hj;simp only [List.size_toArray] at hj;have hg:=flat_get hk xs j hj;have h1:=h.cells (g:=g) rfl j _ hg;rw [add_plain] at h1;have e1:id (flatK enc k xs.toArray)[j]! = (enc xs[j / k]!)[j % k]!:=by
    show (flatK enc k xs.toArray)[j]! = _
    rw [get_flatK _ _ _ _ (by simpa using hj)];simp
  refine⟨by rw [e1,Nat.zero_add];exact h1,?_⟩;rcases h.2 with ⟨he,_⟩ | ⟨g',cap',cur,he,_,hh,_⟩
  · cases he
  injection he with he1;injection he1 with he1;injection he1 with he1;subst he1;simp [World.frozen?,hh]
theorem own_sorted(hk:∀ x,(enc x).length=k){w:World}{base e n cap g m:Nat}{xs:List α}{d':Array α}{os:Array Obj}(hd:d'.size=n)(h:w.ownsRow base e k (.slice (some ⟨g,0,none⟩) n cap) n (xs.flatMap enc)) :
    (sortWorldK enc k w g 0 m d' os).ownsRow base e k (.slice (some ⟨g,0,none⟩) n cap) n (d'.toList.flatMap enc)∧w.grownBy (sortWorldK enc k w g 0 m d' os) (some g)∧w.drawn≤(sortWorldK enc k w g 0 m d' os).drawn:=by
  obtain⟨hlen,h2⟩:=h;rcases h2 with ⟨he,_⟩ | ⟨g',cap',cur,he,hb,hh,hnc,hcm,hcs,htk⟩
  · cases he
  injection he with he1 he2 he3;injection he1 with he1;injection he1 with he1;subst he1;subst he3;have hlt:g<w.heap.size:=(Array.getElem?_eq_some_iff.1 hh).1;have hblk:(sortWorldK enc k w g 0 m d' os).heap[g]? = some (.cells (putCells id 0 (flatK enc k d') cur) e (0,0)):=by
    show ((w.heap.modify g (onCells (putCells id 0 (flatK enc k d'))))++os)[g]? = _
    rw [Array.getElem?_append_left (by simpa using hlt),Array.getElem?_modify,if_pos rfl,hh];rfl
  refine⟨⟨by rw [flat_length hk,Array.length_toList,hd],.inr ⟨g,cap,_,rfl,hb,hblk,hnc,hcm,by simp [putCells,hcs],?_⟩⟩,⟨rfl,rfl,rfl,?_,?_⟩,?_⟩
  · apply List.ext_getElem?
    intro t;by_cases ht:t<n * k
    · have hcn : n * k ≤ cap * k := Nat.mul_le_mul_right k hnc
      rw [List.getElem?_take_of_lt ht,flat_get hk _ _ (by rw [Array.length_toList,hd];exact ht)];rw [Array.getElem?_toList];simp only [putCells,Array.getElem?_mapIdx];have hc:cur[t]? = some cur[t]!:=by rw [Array.getElem?_eq_getElem (by omega),getElem!_pos cur t (by omega)]
      rw [hc];simp only [Option.map_some,size_flatK,hd];rw [if_pos ⟨Nat.zero_le _,by omega⟩,Nat.sub_zero,get_flatK _ _ _ _ (by rw [hd];exact ht)];have e3:d'.toList[t / k]! = d'[t / k]!:=by simp [Array.getElem!_eq_getD,Array.getD_eq_getD_getElem?]
      rw [e3];rfl
    rw [List.getElem?_eq_none (by simp;omega),List.getElem?_eq_none (by rw [flat_length hk,Array.length_toList,hd];omega)]
  · show w.heap.size ≤ (w.heap.modify g _ ++ os).size
    simp
  · intro i hi hne
    show (w.heap.modify g _++os)[i]? = _
    rw [Array.getElem?_append_left (by simpa using hi),Array.getElem?_modify,if_neg (fun e=>hne (by rw [e]))]
  show w.drawn≤w.drawn+m
  omega
end
end Go.Proofs.YtpbembafpnknhaaGreat.Pr
namespace Go.Proofs
open Go.Shelf
def Tryz.cloneStr_ren:Go.Shelf.Ren:=⟨fun|41=>78|n=>n,fun|22=>22|23=>9|4=>4|n=>n,fun|n=>n⟩
theorem Tryz.cloneStr:Go.Proofs.SlLaysE0.n41 Tryz.prog Tryz.cloneStr_ren:={
  mixed:=by kernel_rfl
  f41:=⟨Tryz.f78.name,by decide,Tryz.func78.trans (congrArg some (by kernel_rfl))⟩
  t4:=Tryz.underlying4
  a4:=Tryz.isAgg4
  z4:=Tryz.sizeOf4
  v4:=Tryz.zeroValue4
  t22:=Tryz.underlying22
  a22:=Tryz.isAgg22
  z22:=Tryz.sizeOf22
  v22:=Tryz.zeroValue22 }
def Tryz.cloneOn_ren:Go.Shelf.Ren:=⟨fun|41=>174|n=>n,fun|22=>26|23=>78|4=>4|n=>n,fun|n=>n⟩
theorem Tryz.cloneOn:Go.Proofs.SlLaysE0.n41 Tryz.prog Tryz.cloneOn_ren:={
  mixed:=by kernel_rfl
  f41:=⟨Tryz.f174.name,by decide,Tryz.func174.trans (congrArg some (by kernel_rfl))⟩
  t4:=Tryz.underlying4
  a4:=Tryz.isAgg4
  z4:=Tryz.sizeOf4
  v4:=Tryz.zeroValue4
  t22:=Tryz.underlying26
  a22:=Tryz.isAgg26
  z22:=Tryz.sizeOf26
  v22:=Tryz.zeroValue26 }
def Tryz.cloneIf_ren:Go.Shelf.Ren:=⟨fun|41=>175|n=>n,fun|22=>27|23=>93|4=>4|n=>n,fun|n=>n⟩
theorem Tryz.cloneIf:Go.Proofs.SlLaysE0.n41 Tryz.prog Tryz.cloneIf_ren:={
  mixed:=by kernel_rfl
  f41:=⟨Tryz.f175.name,by decide,Tryz.func175.trans (congrArg some (by kernel_rfl))⟩
  t4:=Tryz.underlying4
  a4:=Tryz.isAgg4
  z4:=Tryz.sizeOf4
  v4:=Tryz.zeroValue4
  t22:=Tryz.underlying27
  a22:=Tryz.isAgg27
  z22:=Tryz.sizeOf27
  v22:=Tryz.zeroValue27 }
def Tryz.sortOn_ren:Go.Shelf.Ren:=⟨fun|6=>176|15=>125|14=>218|28=>172|29=>173|20=>242|21=>243|22=>244|23=>245|24=>246|25=>247|26=>248|27=>249|46=>274|47=>214|48=>215|49=>275|50=>276|57=>284|n=>n,fun|22=>26|24=>78|25=>90|3=>3|39=>145|0=>0|53=>181|55=>183|4=>4|46=>173|45=>172|50=>178|5=>5|9=>9|66=>209|70=>213|76=>234|77=>235|n=>n,fun|n=>n⟩
theorem Tryz.sortOn:Go.Proofs.SlLaysF0.n6 Tryz.prog Tryz.sortOn_ren:={
  mixed:=by kernel_rfl
  f6:=⟨Tryz.f176.name,by decide,Tryz.func176.trans (congrArg some (by kernel_rfl))⟩
  f14:=⟨Tryz.f218.name,by decide,Tryz.func218.trans (congrArg some (by kernel_rfl))⟩
  f15:=Tryz.func125.trans (congrArg some (by kernel_rfl))
  f20:=⟨Tryz.f242.name,by decide,Tryz.func242.trans (congrArg some (by kernel_rfl))⟩
  f21:=⟨Tryz.f243.name,by decide,Tryz.func243.trans (congrArg some (by kernel_rfl))⟩
  f22:=⟨Tryz.f244.name,by decide,Tryz.func244.trans (congrArg some (by kernel_rfl))⟩
  f23:=⟨Tryz.f245.name,by decide,Tryz.func245.trans (congrArg some (by kernel_rfl))⟩
  f24:=⟨Tryz.f246.name,by decide,Tryz.func246.trans (congrArg some (by kernel_rfl))⟩
  f25:=⟨Tryz.f247.name,by decide,Tryz.func247.trans (congrArg some (by kernel_rfl))⟩
  f26:=⟨Tryz.f248.name,by decide,Tryz.func248.trans (congrArg some (by kernel_rfl))⟩
  f27:=⟨Tryz.f249.name,by decide,Tryz.func249.trans (congrArg some (by kernel_rfl))⟩
  f28:=Tryz.func172.trans (congrArg some (by kernel_rfl))
  f29:=Tryz.func173.trans (congrArg some (by kernel_rfl))
  f46:=⟨Tryz.f274.name,by decide,Tryz.func274.trans (congrArg some (by kernel_rfl))⟩
  f47:=Tryz.func214.trans (congrArg some (by kernel_rfl))
  f48:=Tryz.func215.trans (congrArg some (by kernel_rfl))
  f49:=⟨Tryz.f275.name,by decide,Tryz.func275.trans (congrArg some (by kernel_rfl))⟩
  f50:=⟨Tryz.f276.name,by decide,Tryz.func276.trans (congrArg some (by kernel_rfl))⟩
  f57:=⟨Tryz.f284.name,by decide,Tryz.func284.trans (congrArg some (by kernel_rfl))⟩
  t0:=Tryz.underlying0
  a0:=Tryz.isAgg0
  z0:=Tryz.sizeOf0
  v0:=Tryz.zeroValue0
  t3:=Tryz.underlying3
  a3:=Tryz.isAgg3
  z3:=Tryz.sizeOf3
  v3:=Tryz.zeroValue3
  t4:=Tryz.underlying4
  a4:=Tryz.isAgg4
  z4:=Tryz.sizeOf4
  v4:=Tryz.zeroValue4
  t5:=Tryz.underlying5
  a5:=Tryz.isAgg5
  z5:=Tryz.sizeOf5
  v5:=Tryz.zeroValue5
  t9:=Tryz.underlying9
  a9:=Tryz.isAgg9
  z9:=Tryz.sizeOf9
  v9:=Tryz.zeroValue9
  t22:=Tryz.underlying26
  a22:=Tryz.isAgg26
  z22:=Tryz.sizeOf26
  v22:=Tryz.zeroValue26
  t25:=Tryz.underlying90
  a25:=Tryz.isAgg90
  z25:=Tryz.sizeOf90
  v25:=Tryz.zeroValue90
  t39:=Tryz.underlying145
  a39:=Tryz.isAgg145
  z39:=Tryz.sizeOf145
  v39:=Tryz.zeroValue145
  t45:=Tryz.underlying172
  a45:=Tryz.isAgg172
  z45:=Tryz.sizeOf172
  v45:=Tryz.zeroValue172
  t46:=Tryz.underlying173
  a46:=Tryz.isAgg173
  z46:=Tryz.sizeOf173
  v46:=Tryz.zeroValue173
  t50:=Tryz.underlying178
  a50:=Tryz.isAgg178
  z50:=Tryz.sizeOf178
  v50:=Tryz.zeroValue178
  t53:=Tryz.underlying181
  a53:=Tryz.isAgg181
  z53:=Tryz.sizeOf181
  v53:=Tryz.zeroValue181
  t55:=Tryz.underlying183
  a55:=Tryz.isAgg183
  z55:=Tryz.sizeOf183
  v55:=Tryz.zeroValue183
  t66:=Tryz.underlying209
  a66:=Tryz.isAgg209
  z66:=Tryz.sizeOf209
  v66:=Tryz.zeroValue209
  t70:=Tryz.underlying213
  a70:=Tryz.isAgg213
  z70:=Tryz.sizeOf213
  v70:=Tryz.zeroValue213
  t76:=Tryz.underlying234
  a76:=Tryz.isAgg234
  z76:=Tryz.sizeOf234
  v76:=Tryz.zeroValue234
  t77:=Tryz.underlying235
  a77:=Tryz.isAgg235
  z77:=Tryz.sizeOf235
  v77:=Tryz.zeroValue235 }
def Tryz.sortIf_ren:Go.Shelf.Ren:=⟨fun|6=>177|15=>125|14=>219|28=>172|29=>173|20=>250|21=>251|22=>252|23=>253|24=>254|25=>255|26=>256|27=>257|46=>277|47=>214|48=>215|49=>278|50=>279|57=>285|n=>n,fun|22=>27|24=>93|25=>94|3=>3|39=>145|0=>0|53=>181|55=>183|4=>4|46=>173|45=>172|50=>178|5=>5|9=>9|66=>209|70=>213|76=>234|77=>235|n=>n,fun|n=>n⟩
theorem Tryz.sortIf:Go.Proofs.SlLaysF0.n6 Tryz.prog Tryz.sortIf_ren:={
  mixed:=by kernel_rfl
  f6:=⟨Tryz.f177.name,by decide,Tryz.func177.trans (congrArg some (by kernel_rfl))⟩
  f14:=⟨Tryz.f219.name,by decide,Tryz.func219.trans (congrArg some (by kernel_rfl))⟩
  f15:=Tryz.func125.trans (congrArg some (by kernel_rfl))
  f20:=⟨Tryz.f250.name,by decide,Tryz.func250.trans (congrArg some (by kernel_rfl))⟩
  f21:=⟨Tryz.f251.name,by decide,Tryz.func251.trans (congrArg some (by kernel_rfl))⟩
  f22:=⟨Tryz.f252.name,by decide,Tryz.func252.trans (congrArg some (by kernel_rfl))⟩
  f23:=⟨Tryz.f253.name,by decide,Tryz.func253.trans (congrArg some (by kernel_rfl))⟩
  f24:=⟨Tryz.f254.name,by decide,Tryz.func254.trans (congrArg some (by kernel_rfl))⟩
  f25:=⟨Tryz.f255.name,by decide,Tryz.func255.trans (congrArg some (by kernel_rfl))⟩
  f26:=⟨Tryz.f256.name,by decide,Tryz.func256.trans (congrArg some (by kernel_rfl))⟩
  f27:=⟨Tryz.f257.name,by decide,Tryz.func257.trans (congrArg some (by kernel_rfl))⟩
  f28:=Tryz.func172.trans (congrArg some (by kernel_rfl))
  f29:=Tryz.func173.trans (congrArg some (by kernel_rfl))
  f46:=⟨Tryz.f277.name,by decide,Tryz.func277.trans (congrArg some (by kernel_rfl))⟩
  f47:=Tryz.func214.trans (congrArg some (by kernel_rfl))
  f48:=Tryz.func215.trans (congrArg some (by kernel_rfl))
  f49:=⟨Tryz.f278.name,by decide,Tryz.func278.trans (congrArg some (by kernel_rfl))⟩
  f50:=⟨Tryz.f279.name,by decide,Tryz.func279.trans (congrArg some (by kernel_rfl))⟩
  f57:=⟨Tryz.f285.name,by decide,Tryz.func285.trans (congrArg some (by kernel_rfl))⟩
  t0:=Tryz.underlying0
  a0:=Tryz.isAgg0
  z0:=Tryz.sizeOf0
  v0:=Tryz.zeroValue0
  t3:=Tryz.underlying3
  a3:=Tryz.isAgg3
  z3:=Tryz.sizeOf3
  v3:=Tryz.zeroValue3
  t4:=Tryz.underlying4
  a4:=Tryz.isAgg4
  z4:=Tryz.sizeOf4
  v4:=Tryz.zeroValue4
  t5:=Tryz.underlying5
  a5:=Tryz.isAgg5
  z5:=Tryz.sizeOf5
  v5:=Tryz.zeroValue5
  t9:=Tryz.underlying9
  a9:=Tryz.isAgg9
  z9:=Tryz.sizeOf9
  v9:=Tryz.zeroValue9
  t22:=Tryz.underlying27
  a22:=Tryz.isAgg27
  z22:=Tryz.sizeOf27
  v22:=Tryz.zeroValue27
  t25:=Tryz.underlying94
  a25:=Tryz.isAgg94
  z25:=Tryz.sizeOf94
  v25:=Tryz.zeroValue94
  t39:=Tryz.underlying145
  a39:=Tryz.isAgg145
  z39:=Tryz.sizeOf145
  v39:=Tryz.zeroValue145
  t45:=Tryz.underlying172
  a45:=Tryz.isAgg172
  z45:=Tryz.sizeOf172
  v45:=Tryz.zeroValue172
  t46:=Tryz.underlying173
  a46:=Tryz.isAgg173
  z46:=Tryz.sizeOf173
  v46:=Tryz.zeroValue173
  t50:=Tryz.underlying178
  a50:=Tryz.isAgg178
  z50:=Tryz.sizeOf178
  v50:=Tryz.zeroValue178
  t53:=Tryz.underlying181
  a53:=Tryz.isAgg181
  z53:=Tryz.sizeOf181
  v53:=Tryz.zeroValue181
  t55:=Tryz.underlying183
  a55:=Tryz.isAgg183
  z55:=Tryz.sizeOf183
  v55:=Tryz.zeroValue183
  t66:=Tryz.underlying209
  a66:=Tryz.isAgg209
  z66:=Tryz.sizeOf209
  v66:=Tryz.zeroValue209
  t70:=Tryz.underlying213
  a70:=Tryz.isAgg213
  z70:=Tryz.sizeOf213
  v70:=Tryz.zeroValue213
  t76:=Tryz.underlying234
  a76:=Tryz.isAgg234
  z76:=Tryz.sizeOf234
  v76:=Tryz.zeroValue234
  t77:=Tryz.underlying235
  a77:=Tryz.isAgg235
  z77:=Tryz.sizeOf235
  v77:=Tryz.zeroValue235 }
def Tryz.sortSe_ren:Go.Shelf.Ren:=⟨fun|6=>179|15=>125|14=>220|28=>172|29=>173|20=>258|21=>259|22=>260|23=>261|24=>262|25=>263|26=>264|27=>265|46=>280|47=>214|48=>215|49=>281|50=>282|57=>286|n=>n,fun|22=>45|24=>29|25=>31|3=>3|39=>145|0=>0|53=>181|55=>183|4=>4|46=>173|45=>172|50=>178|5=>5|9=>9|66=>209|70=>213|76=>234|77=>235|n=>n,fun|n=>n⟩
theorem Tryz.sortSe:Go.Proofs.SlLaysF0.n6 Tryz.prog Tryz.sortSe_ren:={
  mixed:=by kernel_rfl
  f6:=⟨Tryz.f179.name,by decide,Tryz.func179.trans (congrArg some (by kernel_rfl))⟩
  f14:=⟨Tryz.f220.name,by decide,Tryz.func220.trans (congrArg some (by kernel_rfl))⟩
  f15:=Tryz.func125.trans (congrArg some (by kernel_rfl))
  f20:=⟨Tryz.f258.name,by decide,Tryz.func258.trans (congrArg some (by kernel_rfl))⟩
  f21:=⟨Tryz.f259.name,by decide,Tryz.func259.trans (congrArg some (by kernel_rfl))⟩
  f22:=⟨Tryz.f260.name,by decide,Tryz.func260.trans (congrArg some (by kernel_rfl))⟩
  f23:=⟨Tryz.f261.name,by decide,Tryz.func261.trans (congrArg some (by kernel_rfl))⟩
  f24:=⟨Tryz.f262.name,by decide,Tryz.func262.trans (congrArg some (by kernel_rfl))⟩
  f25:=⟨Tryz.f263.name,by decide,Tryz.func263.trans (congrArg some (by kernel_rfl))⟩
  f26:=⟨Tryz.f264.name,by decide,Tryz.func264.trans (congrArg some (by kernel_rfl))⟩
  f27:=⟨Tryz.f265.name,by decide,Tryz.func265.trans (congrArg some (by kernel_rfl))⟩
  f28:=Tryz.func172.trans (congrArg some (by kernel_rfl))
  f29:=Tryz.func173.trans (congrArg some (by kernel_rfl))
  f46:=⟨Tryz.f280.name,by decide,Tryz.func280.trans (congrArg some (by kernel_rfl))⟩
  f47:=Tryz.func214.trans (congrArg some (by kernel_rfl))
  f48:=Tryz.func215.trans (congrArg some (by kernel_rfl))
  f49:=⟨Tryz.f281.name,by decide,Tryz.func281.trans (congrArg some (by kernel_rfl))⟩
  f50:=⟨Tryz.f282.name,by decide,Tryz.func282.trans (congrArg some (by kernel_rfl))⟩
  f57:=⟨Tryz.f286.name,by decide,Tryz.func286.trans (congrArg some (by kernel_rfl))⟩
  t0:=Tryz.underlying0
  a0:=Tryz.isAgg0
  z0:=Tryz.sizeOf0
  v0:=Tryz.zeroValue0
  t3:=Tryz.underlying3
  a3:=Tryz.isAgg3
  z3:=Tryz.sizeOf3
  v3:=Tryz.zeroValue3
  t4:=Tryz.underlying4
  a4:=Tryz.isAgg4
  z4:=Tryz.sizeOf4
  v4:=Tryz.zeroValue4
  t5:=Tryz.underlying5
  a5:=Tryz.isAgg5
  z5:=Tryz.sizeOf5
  v5:=Tryz.zeroValue5
  t9:=Tryz.underlying9
  a9:=Tryz.isAgg9
  z9:=Tryz.sizeOf9
  v9:=Tryz.zeroValue9
  t22:=Tryz.underlying45
  a22:=Tryz.isAgg45
  z22:=Tryz.sizeOf45
  v22:=Tryz.zeroValue45
  t25:=Tryz.underlying31
  a25:=Tryz.isAgg31
  z25:=Tryz.sizeOf31
  v25:=Tryz.zeroValue31
  t39:=Tryz.underlying145
  a39:=Tryz.isAgg145
  z39:=Tryz.sizeOf145
  v39:=Tryz.zeroValue145
  t45:=Tryz.underlying172
  a45:=Tryz.isAgg172
  z45:=Tryz.sizeOf172
  v45:=Tryz.zeroValue172
  t46:=Tryz.underlying173
  a46:=Tryz.isAgg173
  z46:=Tryz.sizeOf173
  v46:=Tryz.zeroValue173
  t50:=Tryz.underlying178
  a50:=Tryz.isAgg178
  z50:=Tryz.sizeOf178
  v50:=Tryz.zeroValue178
  t53:=Tryz.underlying181
  a53:=Tryz.isAgg181
  z53:=Tryz.sizeOf181
  v53:=Tryz.zeroValue181
  t55:=Tryz.underlying183
  a55:=Tryz.isAgg183
  z55:=Tryz.sizeOf183
  v55:=Tryz.zeroValue183
  t66:=Tryz.underlying209
  a66:=Tryz.isAgg209
  z66:=Tryz.sizeOf209
  v66:=Tryz.zeroValue209
  t70:=Tryz.underlying213
  a70:=Tryz.isAgg213
  z70:=Tryz.sizeOf213
  v70:=Tryz.zeroValue213
  t76:=Tryz.underlying234
  a76:=Tryz.isAgg234
  z76:=Tryz.sizeOf234
  v76:=Tryz.zeroValue234
  t77:=Tryz.underlying235
  a77:=Tryz.isAgg235
  z77:=Tryz.sizeOf235
  v77:=Tryz.zeroValue235 }
def Tryz.sortInt_ren:Go.Shelf.Ren:=⟨fun|6=>128|15=>125|14=>182|28=>172|29=>173|20=>221|21=>222|22=>223|23=>224|24=>225|25=>226|26=>227|27=>228|46=>266|47=>214|48=>215|49=>267|50=>268|57=>283|n=>n,fun|22=>51|24=>3|25=>95|3=>3|39=>145|0=>0|53=>181|55=>183|4=>4|46=>173|45=>172|50=>178|5=>5|9=>9|66=>209|70=>213|76=>234|77=>235|n=>n,fun|n=>n⟩
theorem Tryz.sortInt:Go.Proofs.SlLaysF.n6 Tryz.prog Tryz.sortInt_ren:={
  mixed:=by kernel_rfl
  f6:=⟨Tryz.f128.name,by decide,Tryz.func128.trans (congrArg some (by kernel_rfl))⟩
  f14:=⟨Tryz.f182.name,by decide,Tryz.func182.trans (congrArg some (by kernel_rfl))⟩
  f15:=Tryz.func125.trans (congrArg some (by kernel_rfl))
  f20:=⟨Tryz.f221.name,by decide,Tryz.func221.trans (congrArg some (by kernel_rfl))⟩
  f21:=⟨Tryz.f222.name,by decide,Tryz.func222.trans (congrArg some (by kernel_rfl))⟩
  f22:=⟨Tryz.f223.name,by decide,Tryz.func223.trans (congrArg some (by kernel_rfl))⟩
  f23:=⟨Tryz.f224.name,by decide,Tryz.func224.trans (congrArg some (by kernel_rfl))⟩
  f24:=⟨Tryz.f225.name,by decide,Tryz.func225.trans (congrArg some (by kernel_rfl))⟩
  f25:=⟨Tryz.f226.name,by decide,Tryz.func226.trans (congrArg some (by kernel_rfl))⟩
  f26:=⟨Tryz.f227.name,by decide,Tryz.func227.trans (congrArg some (by kernel_rfl))⟩
  f27:=⟨Tryz.f228.name,by decide,Tryz.func228.trans (congrArg some (by kernel_rfl))⟩
  f28:=Tryz.func172.trans (congrArg some (by kernel_rfl))
  f29:=Tryz.func173.trans (congrArg some (by kernel_rfl))
  f46:=⟨Tryz.f266.name,by decide,Tryz.func266.trans (congrArg some (by kernel_rfl))⟩
  f47:=Tryz.func214.trans (congrArg some (by kernel_rfl))
  f48:=Tryz.func215.trans (congrArg some (by kernel_rfl))
  f49:=⟨Tryz.f267.name,by decide,Tryz.func267.trans (congrArg some (by kernel_rfl))⟩
  f50:=⟨Tryz.f268.name,by decide,Tryz.func268.trans (congrArg some (by kernel_rfl))⟩
  f57:=⟨Tryz.f283.name,by decide,Tryz.func283.trans (congrArg some (by kernel_rfl))⟩
  t0:=Tryz.underlying0
  a0:=Tryz.isAgg0
  z0:=Tryz.sizeOf0
  v0:=Tryz.zeroValue0
  t3:=Tryz.underlying3
  a3:=Tryz.isAgg3
  z3:=Tryz.sizeOf3
  v3:=Tryz.zeroValue3
  t4:=Tryz.underlying4
  a4:=Tryz.isAgg4
  z4:=Tryz.sizeOf4
  v4:=Tryz.zeroValue4
  t5:=Tryz.underlying5
  a5:=Tryz.isAgg5
  z5:=Tryz.sizeOf5
  v5:=Tryz.zeroValue5
  t9:=Tryz.underlying9
  a9:=Tryz.isAgg9
  z9:=Tryz.sizeOf9
  v9:=Tryz.zeroValue9
  t22:=Tryz.underlying51
  a22:=Tryz.isAgg51
  z22:=Tryz.sizeOf51
  v22:=Tryz.zeroValue51
  a24:=Tryz.isAgg3
  z24:=Tryz.sizeOf3
  t25:=Tryz.underlying95
  a25:=Tryz.isAgg95
  z25:=Tryz.sizeOf95
  v25:=Tryz.zeroValue95
  t39:=Tryz.underlying145
  a39:=Tryz.isAgg145
  z39:=Tryz.sizeOf145
  v39:=Tryz.zeroValue145
  t45:=Tryz.underlying172
  a45:=Tryz.isAgg172
  z45:=Tryz.sizeOf172
  v45:=Tryz.zeroValue172
  t46:=Tryz.underlying173
  a46:=Tryz.isAgg173
  z46:=Tryz.sizeOf173
  v46:=Tryz.zeroValue173
  t50:=Tryz.underlying178
  a50:=Tryz.isAgg178
  z50:=Tryz.sizeOf178
  v50:=Tryz.zeroValue178
  t53:=Tryz.underlying181
  a53:=Tryz.isAgg181
  z53:=Tryz.sizeOf181
  v53:=Tryz.zeroValue181
  t55:=Tryz.underlying183
  a55:=Tryz.isAgg183
  z55:=Tryz.sizeOf183
  v55:=Tryz.zeroValue183
  t66:=Tryz.underlying209
  a66:=Tryz.isAgg209
  z66:=Tryz.sizeOf209
  v66:=Tryz.zeroValue209
  t70:=Tryz.underlying213
  a70:=Tryz.isAgg213
  z70:=Tryz.sizeOf213
  v70:=Tryz.zeroValue213
  t76:=Tryz.underlying234
  a76:=Tryz.isAgg234
  z76:=Tryz.sizeOf234
  v76:=Tryz.zeroValue234
  t77:=Tryz.underlying235
  a77:=Tryz.isAgg235
  z77:=Tryz.sizeOf235
  v77:=Tryz.zeroValue235 }
def Tryz.sortStr_ren:Go.Shelf.Ren:=⟨fun|190=>79|125=>125|258=>124|128=>172|129=>173|302=>163|303=>164|304=>165|305=>166|306=>167|307=>168|308=>169|309=>170|310=>171|333=>213|329=>214|330=>215|334=>216|335=>217|336=>159|344=>241|n=>n,fun|31=>22|9=>9|3=>3|46=>145|0=>0|51=>181|53=>183|4=>4|183=>173|182=>172|131=>178|5=>5|218=>209|222=>213|228=>234|229=>235|n=>n,fun|n=>n⟩
theorem Tryz.sortStr:Go.Proofs.Lays.n190 Tryz.prog Tryz.sortStr_ren:={
  mixed:=by kernel_rfl
  f125:=Tryz.func125.trans (congrArg some (by kernel_rfl))
  f128:=Tryz.func172.trans (congrArg some (by kernel_rfl))
  f129:=Tryz.func173.trans (congrArg some (by kernel_rfl))
  f190:=Tryz.func79.trans (congrArg some (by kernel_rfl))
  f258:=Tryz.func124.trans (congrArg some (by kernel_rfl))
  f302:=Tryz.func163.trans (congrArg some (by kernel_rfl))
  f303:=Tryz.func164.trans (congrArg some (by kernel_rfl))
  f304:=Tryz.func165.trans (congrArg some (by kernel_rfl))
  f305:=Tryz.func166.trans (congrArg some (by kernel_rfl))
  f306:=Tryz.func167.trans (congrArg some (by kernel_rfl))
  f307:=Tryz.func168.trans (congrArg some (by kernel_rfl))
  f308:=Tryz.func169.trans (congrArg some (by kernel_rfl))
  f309:=Tryz.func170.trans (congrArg some (by kernel_rfl))
  f310:=Tryz.func171.trans (congrArg some (by kernel_rfl))
  f329:=Tryz.func214.trans (congrArg some (by kernel_rfl))
  f330:=Tryz.func215.trans (congrArg some (by kernel_rfl))
  f333:=Tryz.func213.trans (congrArg some (by kernel_rfl))
  f334:=Tryz.func216.trans (congrArg some (by kernel_rfl))
  f335:=Tryz.func217.trans (congrArg some (by kernel_rfl))
  f336:=Tryz.func159.trans (congrArg some (by kernel_rfl))
  f344:=Tryz.func241.trans (congrArg some (by kernel_rfl))
  t0:=Tryz.underlying0
  a0:=Tryz.isAgg0
  z0:=Tryz.sizeOf0
  v0:=Tryz.zeroValue0
  t3:=Tryz.underlying3
  a3:=Tryz.isAgg3
  z3:=Tryz.sizeOf3
  v3:=Tryz.zeroValue3
  t4:=Tryz.underlying4
  a4:=Tryz.isAgg4
  z4:=Tryz.sizeOf4
  v4:=Tryz.zeroValue4
  t5:=Tryz.underlying5
  a5:=Tryz.isAgg5
  z5:=Tryz.sizeOf5
  v5:=Tryz.zeroValue5
  t9:=Tryz.underlying9
  a9:=Tryz.isAgg9
  z9:=Tryz.sizeOf9
  v9:=Tryz.zeroValue9
  t31:=Tryz.underlying22
  a31:=Tryz.isAgg22
  z31:=Tryz.sizeOf22
  v31:=Tryz.zeroValue22
  t46:=Tryz.underlying145
  a46:=Tryz.isAgg145
  z46:=Tryz.sizeOf145
  v46:=Tryz.zeroValue145
  t51:=Tryz.underlying181
  a51:=Tryz.isAgg181
  z51:=Tryz.sizeOf181
  v51:=Tryz.zeroValue181
  t53:=Tryz.underlying183
  a53:=Tryz.isAgg183
  z53:=Tryz.sizeOf183
  v53:=Tryz.zeroValue183
  t131:=Tryz.underlying178
  a131:=Tryz.isAgg178
  z131:=Tryz.sizeOf178
  v131:=Tryz.zeroValue178
  t182:=Tryz.underlying172
  a182:=Tryz.isAgg172
  z182:=Tryz.sizeOf172
  v182:=Tryz.zeroValue172
  t183:=Tryz.underlying173
  a183:=Tryz.isAgg173
  z183:=Tryz.sizeOf173
  v183:=Tryz.zeroValue173
  t218:=Tryz.underlying209
  a218:=Tryz.isAgg209
  z218:=Tryz.sizeOf209
  v218:=Tryz.zeroValue209
  t222:=Tryz.underlying213
  a222:=Tryz.isAgg213
  z222:=Tryz.sizeOf213
  v222:=Tryz.zeroValue213
  t228:=Tryz.underlying234
  a228:=Tryz.isAgg234
  z228:=Tryz.sizeOf234
  v228:=Tryz.zeroValue234
  t229:=Tryz.underlying235
  a229:=Tryz.isAgg235
  z229:=Tryz.sizeOf235
  v229:=Tryz.zeroValue235 }
end Go.Proofs
namespace Go.Proofs
open Go.Shelf Go.RowKit Go.Lib
theorem Tryz.clone_any{P:Program}{ρ:Ren}(L:SlLaysE0.n41 P ρ)(i0:TypeInfo)(z:Value)(size bytes:Nat)(hi:P.info? (ρ.t 23)=some i0)(hz0:i0.zero=some z)(hz1:i0.size=size)(hz2:i0.bytes=bytes)(hzs:z.cells.size=size)(hsz:0<size)(z23:∀ w,(Go.sizeOf (ρ.t 23)).run P w = .ok size w)(ad:Addr)(n c:Nat)(news:List Value)(w:World)(hl:news.length=n * size)(hn:n≤maxLen)(hbig:n * bytes≤140737488355328)(hc:∀ j u,news[j]? = some u→w.cell? (ad.add j)=some u)(h1:∀ u ∈ news,u.oneCell'=true) :
    Calls P (ρ.f 41) #[.slice (some ad) n c] w fun e w' => ∃ v',e = .returned v'∧w'.ownsRow w.heap.size (ρ.t 23) size v' n news∧Below w.heap.size w w':=by
  have mixed:=L.mixed;have t4:=L.t4;have a4:=L.a4;have z4:=L.z4;have v4:=L.v4;have t22:=L.t22;have a22:=L.a22;have z22:=L.z22;have v22:=L.v22;have q22:∀ (w:World) (a:Option Addr) (n c n' c':Nat),(binOp .eql (ρ.t 22) (.slice a n c) (.slice none n' c')).run P w = .ok (.bool a.isNone) w:=fun w a n c n' c'=>Lib.run_eql_slice_nil w _ _ a n c n' c' L.t22
  have u22:∀ w,Sem.run P (underlying (ρ.t 22)) w = .ok (TypeDesc.slice (ρ.t 23)) w:=run_underlying t22;have A:=Lib.hid hc;clear hc;obtain⟨_,_,FG⟩:=L.f41;go_enter FG,SlBodyN.n41_ntmps ρ;go_wp2_with (at_builtin;refine wpList_append_own _ rfl _ _ (ρ.t 22) rfl w.heap.size (ρ.t 23) i0 z size bytes t22 hi hz0 hz1 hz2 hzs hsz _ _ _ rfl (World.ownsRow_made w #[] 0 (Nat.le_refl _) (Nat.zero_le _) (by simp)) ad n c news rfl ?qc1 ?qc2 ?qc3 ?qc4 ?qc5 ?qc6 ?_)
  case qc1=>exact hl
  case qc2=>exact fun j u hj=>Lib.cell?_alloc_some _ (A.out j u hj)
  case qc3=>exact h1
  case qc4=>rw [Nat.zero_add];exact hn
  case qc5=>rw [Nat.zero_add];exact hbig
  case qc6=>simp
  intro v' w1 hown hgrow _;go_wp2;go_ret;refine⟨v',rfl,by simpa using hown,?_⟩;exact((Below.refl _ w).alloc (Nat.le_refl _) _).grown hgrow (by simp) (by intro k hk;simp [Value.ownBlock] at hk;omega)
end Go.Proofs
namespace Go.Proofs.YtpbembafpnknhaaGreat.Pr
open Go.RowKit Go.Proofs.YtpbembafpnknhaaGreatW.PrintWords Go.Proofs.YtpbembafpnknhaaGreatW.PrintLast Go.Proofs.YtpbembafpnknhaaGreatW.PrintMore
theorem flat_row{α:Type}{d:Kd α}{w:World}{n:Nat}{xs:List α}{ad:Addr}(h:d.C w (some ad) n xs):∃ inner,Reps (d.K w) d.sz xs inner∧∀ j u,inner[j]? = some u→w.cell? (ad.add j)=some u:=ReadsRow.inner_ h
theorem clone_flat{α : Type}{d : Kd α}{e s fn bytes : Nat}{z : Value}{ρ : Go.Shelf.Ren}(L : SlLaysE0.n41 Tryz.prog ρ)(he : ρ.t 23 = e)(hf : ρ.f 41 = fn)(hinfo : (Tryz.prog.info? e).map (fun i => (i.zero, i.size, i.bytes)) = some (some z, s, bytes))(hzs : z.cells.size = s)(hs : 0 < s)(hds : d.sz = s)(z23:∀ w,(Go.sizeOf e).run Tryz.prog w = .ok s w)(hflat:∀ (w w':World) (base:Nat) (ok:Nat→Prop) (x:α) (cs:List Value),d.K w x cs→d.M w' base ok x cs)(A:Option Addr)(c:Nat)(xs:List α)(w:World)(hr:d.C w A xs.length xs)(hbig:xs.length * bytes≤140737488355328) :
    Calls Tryz.prog fn #[.slice A xs.length c] w fun e' w' => ∃ v:Value,e' = .returned v∧Kd.R d e w' w.heap.size (fun _=>True) v xs∧Below w.heap.size w w':=by
  obtain⟨i0,hi,hzz⟩:=Option.map_eq_some_iff.1 hinfo;simp only [Prod.mk.injEq] at hzz;obtain⟨hz0,hz1,hz2⟩:=hzz;subst he;subst hf
  cases A with
  | none =>
    have hn:xs=[]:=by
      rcases Nat.eq_zero_or_pos xs.length with h0|h0
      · exact List.eq_nil_of_length_eq_zero h0
      obtain⟨ad,h1,_⟩:=hr.2.2 h0;cases h1
    subst hn;refine(AnyE.slices_Clone_nil L 0 c w).mono ?_;rintro e w' ⟨rfl,rfl⟩
    exact ⟨_, rfl, Kd.R_nil _ _ _ _ _, Below.refl _ _⟩
  | some ad =>
    obtain⟨inner,hrep,hcell⟩:=flat_row hr;refine(Tryz.clone_any L i0 z s bytes hi hz0 hz1 hz2 hzs hs z23 ad xs.length c inner w (by rw [hrep.1,hds]) hr.2.1 hbig hcell ?_).mono ?_
    · intro u hu
      obtain⟨j,hj,rfl⟩:=List.mem_iff_getElem.1 hu;have hs0:0<d.sz:=by omega
      have hjl:j / d.sz<xs.length:=by
        rw [hrep.1] at hj;exact Nat.div_lt_of_lt_mul (by rwa [Nat.mul_comm])
      have hk:=hrep.2 (j / d.sz) _ (List.getElem?_eq_getElem hjl);refine d.K_one hk _ ?_;rw [List.mem_iff_getElem?];refine⟨j % d.sz,?_⟩;have hm:=Nat.mod_lt j hs0;rw [List.getElem?_take_of_lt hm,List.getElem?_drop,Nat.mul_comm,Nat.div_add_mod];exact List.getElem?_eq_getElem hj
    rintro e w' ⟨v,rfl,hown,hb⟩;exact⟨v,rfl,⟨fun _ _=>trivial,inner,by rw [hds];exact hown,hrep.imp_ (fun x cs hk=>hflat w w' _ _ x cs hk)⟩,hb⟩
end Go.Proofs.YtpbembafpnknhaaGreat.Pr
namespace Go.Proofs.YtpbembafpnknhaaGreat.Pr
open Go.RowKit Sn Go.Proofs.YtpbembafpnknhaaGreatW.PrintWords Go.Proofs.YtpbembafpnknhaaGreatW.PrintLast Go.Proofs.YtpbembafpnknhaaGreatW.PrintMore
open Go.Sort (SWO grow)
theorem swo_of{α:Type}{cf:α→α→Int}(h:IsCmp cf):SWO (ltOf cf) where
  irrefl x:=by unfold ltOf;rw [h.self];simp
  trans x y z h1 h2:=by
    unfold ltOf at *;rw [decide_eq_true_eq] at *;have r1:=h.rng x y;have r2:=h.rng y z;have:=h.tr x y z (by omega) (by omega);omega
  ntrans x y z h1 h2:=by
    unfold ltOf at *;rw [decide_eq_false_iff_not] at *;intro h3;have r3:=h.rng x z;have r1:=h.rng x y;have r2:=h.rng y z;rcases h.trichotomy x y with h4|h4|h4
    · omega
    · subst h4;omega
    have:=h.tr y x z h4 (by omega);omega
theorem mergeSort_sortL{α:Type}{cf:α→α→Int}(h:IsCmp cf)(l:List α):(l.mergeSort fun x y => !(ltOf cf) y x)=sortL cf l:=by
  refine rises_eq h ?_ (sortL_rises h l) ((List.mergeSort_perm l _).trans (sortL_perm l).symm);have hs:=List.pairwise_mergeSort (le:=fun x y => !(ltOf cf) y x) (fun a b c h1 h2=>by
    simp only [Bool.not_eq_true',ltOf,decide_eq_false_iff_not] at *;intro h3;have r3:=h.rng c a;have r1:=h.rng b a;have r2:=h.rng c b;rcases h.trichotomy b a with h4|h4|h4
    · omega
    · subst h4;omega
    · have := h.tr c a b (by omega) h4
      omega) (fun a b=>by
    simp only [ltOf,Bool.or_eq_true,Bool.not_eq_true',decide_eq_false_iff_not];have:=h.anti a b;have:=h.rng a b
    omega) l
  refine hs.imp (fun {a b} hab=>?_);simp only [Bool.not_eq_true',ltOf,decide_eq_false_iff_not] at hab;have:=h.anti a b;omega
theorem flat_inner{α:Type}[Inhabited α]{R:α→List Value→Prop}{enc:α→List Value}{k:Nat}(hk:∀ x,(enc x).length=k){xs:List α}{inner:List Value}(h:Reps R k xs inner)(he:∀ x cs,R x cs→cs=enc x):inner=xs.flatMap enc:=by
  apply List.ext_getElem?;intro t;by_cases ht:t<xs.length * k
  · have hk0 : 0 < k := by
      rcases Nat.eq_zero_or_pos k with h0|h0
      · subst h0;simp at ht
      exact h0
    have hj:t / k<xs.length:=Nat.div_lt_of_lt_mul (by rwa [Nat.mul_comm]);have h1:=he _ _ (h.2 (t / k) _ (List.getElem?_eq_getElem hj));have hm:=Nat.mod_lt t hk0;rw [flat_get hk xs t ht];have h2:inner[t]? = ((inner.drop (t / k * k)).take k)[t % k]?:=by
      rw [List.getElem?_take_of_lt hm,List.getElem?_drop,Nat.mul_comm,Nat.div_add_mod]
    rw [h2,h1,List.getElem?_eq_getElem (by rw [hk];exact hm)];simp [hj,hk,hm]
  rw [List.getElem?_eq_none (by rw [h.1];omega),List.getElem?_eq_none (by rw [flat_length hk];omega)]
theorem reps_flat{α : Type}[Inhabited α]{R : α → List Value → Prop}{enc : α → List Value}{k : Nat}(hk : ∀ x, (enc x).length = k)(xs : List α)(hR : ∀ x, R x (enc x)) : Reps R k xs (xs.flatMap enc) := by
  refine⟨flat_length hk xs,fun j p hj=>?_⟩;have hjl:j<xs.length:=(List.getElem?_eq_some_iff.1 hj).1;have hjp:=(List.getElem?_eq_some_iff.1 hj).2;have:((xs.flatMap enc).drop (j * k)).take k=enc p:=by
    apply List.ext_getElem?;intro t;by_cases ht:t<k
    · have hlt : j * k + t < xs.length * k := by
        have:=Nat.mul_le_mul_right k (show j+1≤xs.length from hjl);rw [Nat.add_mul,Nat.one_mul] at this;omega
      rw [List.getElem?_take_of_lt ht,List.getElem?_drop,flat_get hk xs _ hlt,Nat.mul_comm j k,Nat.mul_add_div (by omega),Nat.div_eq_of_lt ht,Nat.add_zero,Nat.mul_add_mod,Nat.mod_eq_of_lt ht];have e1:xs[j]! = p:=by rw [getElem!_pos xs j hjl];exact hjp
      rw [e1,List.getElem?_eq_getElem (by rw [hk];exact ht),getElem!_pos (enc p) t (by rw [hk];exact ht)]
    rw [List.getElem?_eq_none (by simp;omega),List.getElem?_eq_none (by rw [hk];omega)]
  rw [this];exact hR p
theorem sort_flat{α:Type}[Inhabited α]{d:Kd α}{enc:α→List Value}{e k fn g:Nat}{ρ:Go.Shelf.Ren}(L:SlLaysF0.n6 Tryz.prog ρ)(he:ρ.t 24=e)(hf:ρ.f 6=fn)(aE:∀ w,(isAgg e).run Tryz.prog w = .ok true w)(zE:∀ w,(Go.sizeOf e).run Tryz.prog w = .ok k w)(hds:d.sz=k)(hk:∀ x,(enc x).length=k)(h1:∀ x,∀ v ∈ enc x,v.oneCell'=true)(hM:∀ w base ok x cs,d.M w base ok x cs→cs=enc x)(hM':∀ w base ok x,d.M w base ok x (enc x)){cf:α→α→Int}(hc:IsCmp cf)(eg:∀ args w,(callFunc g args).run Tryz.prog w = .ok (.enter g args) w)(hcall:∀ x y w,Calls Tryz.prog g #[.agg (enc x).toArray,.agg (enc y).toArray] w fun e' w'=>e' = .returned (.int .i64 (cf x y))∧∃ q os,w'=grow (w.drewN q) os)(P_:Nat→Prop)(u:Value)(l:List α)(w0 w:World)(hB:Below w0.heap.size w0 w)(ho:Kd.R d e w w0.heap.size P_ u l)(hsz:l.length<4611686018427387904) :
    Calls Tryz.prog fn #[u,.func (.func g) #[] #[]] w fun e' w'=>e' = .returned (.tuple #[])∧Kd.R d e w' w0.heap.size P_ u (sortL cf l)∧Below w0.heap.size w0 w'∧Kept w w' (fun k_=>P_ k_):=by
  subst he;subst hf;obtain⟨hP,inner,hown,hrep⟩:=ho;rw [hds] at hown hrep;obtain rfl:=flat_inner hk hrep (fun x cs h=>hM _ _ _ x cs h);by_cases h0:l=[]
  · subst h0
    obtain⟨A,c,rfl⟩:=own_slice hown;refine(AnyF.slices_SortFunc_none L A c _ w).mono ?_;rintro e' w' ⟨rfl,rfl⟩;refine⟨rfl,⟨hP,_,by rw [hds];exact hown,?_⟩,hB,Kept.refl _ _⟩;exact⟨by simp [sortL],fun j p hj=>by simp [sortL] at hj⟩
  have hpos:0<l.length:=List.length_pos_iff.2 h0;obtain⟨g',cap,rfl,hb,hlt⟩:=hown.form hpos;have hH:=holdsK_of_own hk rfl hown;have hl:l.toArray.size=l.length:=by simp
  have hcon:=AnyQ.slices_SortFunc_total L k aE zE enc hk h1 cf (swo_of hc) g #[] g' 0 cap l.toArray w eg (fun m os dk _ x y=>hcall x y _) hH hlt (by rw [hl];exact hsz) (fun x y h2 h3=>by
    unfold ltOf at h2 h3;rw [decide_eq_false_iff_not] at h2 h3;rcases hc.trichotomy x y with h4|h4|h4
    · omega
    · exact h4
    omega)
  rw [hl] at hcon;refine hcon.mono ?_;rintro e' w' ⟨rfl,n,os,rfl⟩;have hms:=mergeSort_sortL hc l;have hds':(l.mergeSort fun x y => !(ltOf cf) y x).toArray.size=l.length:=by rw [hms];simpa using (sortL_perm l).length_eq
  obtain⟨hown',hgr,_⟩:=own_sorted (m:=n) (os:=os) hk (d':=(l.mergeSort fun x y => !(ltOf cf) y x).toArray) hds' hown;rw [hms] at hown' hgr ⊢;have hll:(sortL cf l).length=l.length:=(sortL_perm l).length_eq;refine⟨rfl,⟨hP,_,by rw [hds,hll];exact hown',by rw [hds];exact reps_flat hk _ (fun x=>hM' _ _ _ x)⟩,?_,?_⟩
  · exact pw_below_grown hB (some g') (Nat.le_trans hB.size (Nat.le_refl _)) hgr (fun k_ hk_=>by injection hk_ with hk_;rw [← hk_];exact hb)
  exact Kept.of_grown hgr (Kept.refl _ _) (fun k_ hk_=>.inl (hP k_ (by simpa [Value.ownBlock] using hk_)))
theorem own_sorted1{α:Type}[Inhabited α]{enc:α→Value}{w:World}{base e n cap g m:Nat}{xs:List α}{d':Array α}{os:Array Obj}(hd:d'.size=n)(h:w.ownsRow base e 1 (.slice (some ⟨g,0,none⟩) n cap) n (xs.map enc)) :
    (grow (Go.Sort.putRow enc (Go.Sort.ahead w m) g 0 d') os).ownsRow base e 1 (.slice (some ⟨g,0,none⟩) n cap) n (d'.toList.map enc)∧w.grownBy (grow (Go.Sort.putRow enc (Go.Sort.ahead w m) g 0 d') os) (some g):=by
  obtain⟨hlen,h2⟩:=h;rcases h2 with ⟨he,_⟩ | ⟨g',cap',cur,he,hb,hh,hnc,hcm,hcs,htk⟩
  · cases he
  injection he with he1 he2 he3;injection he1 with he1;injection he1 with he1;subst he1;subst he3;have hlt:g<w.heap.size:=(Array.getElem?_eq_some_iff.1 hh).1;have hblk:(grow (Go.Sort.putRow enc (Go.Sort.ahead w m) g 0 d') os).heap[g]? = some (.cells (Go.Sort.putCells enc 0 d' cur) e (0,0)):=by
    show ((w.heap.modify g (Go.Sort.onCells (Go.Sort.putCells enc 0 d')))++os)[g]? = _
    rw [Array.getElem?_append_left (by simpa using hlt),Array.getElem?_modify,if_pos rfl,hh];rfl
  refine⟨⟨by simp [hd],.inr ⟨g,cap,_,rfl,hb,hblk,hnc,hcm,by simp [Go.Sort.putCells,hcs],?_⟩⟩,⟨rfl,rfl,rfl,?_,?_⟩⟩
  · apply List.ext_getElem?
    intro t;rw [Nat.mul_one];by_cases ht:t<n
    · rw [List.getElem?_take_of_lt ht, Array.getElem?_toList]
      simp only [Go.Sort.putCells,Array.getElem?_mapIdx];have hc:cur[t]? = some cur[t]!:=by rw [Array.getElem?_eq_getElem (by omega),getElem!_pos cur t (by omega)]
      rw [hc];simp only [Option.map_some,hd];rw [if_pos ⟨Nat.zero_le _,by omega⟩,Nat.sub_zero,List.getElem?_map,Array.getElem?_toList,Array.getElem?_eq_getElem (by omega),getElem!_pos d' t (by omega)];rfl
    rw [List.getElem?_eq_none (by simp;omega),List.getElem?_eq_none (by simp;omega)]
  · show w.heap.size ≤ (w.heap.modify g _ ++ os).size
    simp
  intro i hi hne
  show (w.heap.modify g _++os)[i]? = _
  rw [Array.getElem?_append_left (by simpa using hi),Array.getElem?_modify,if_neg (fun e=>hne (by rw [e]))]
theorem holds_of_own1{α:Type}[Inhabited α]{enc:α→Value}{w:World}{base e n cap g:Nat}{xs:List α}(_hn:xs.length=n)(h:w.ownsRow base e 1 (.slice (some ⟨g,0,none⟩) n cap) n (xs.map enc)):Go.Sort.Holds enc w g 0 xs.toArray:=by
  intro j hj;simp only [List.size_toArray] at hj;have h1:=h.cells (g:=g) rfl j (enc xs[j]!) (by rw [List.getElem?_map,List.getElem?_eq_getElem hj,getElem!_pos xs j hj];rfl);rw [add_plain] at h1;refine⟨by rw [Nat.zero_add];simpa using h1,?_⟩;rcases h.2 with ⟨he,_⟩ | ⟨g',cap',cur,he,_,hh,_⟩
  · cases he
  injection he with he1;injection he1 with he1;injection he1 with he1;subst he1;simp [World.frozen?,hh]
instance:Inhabited S78:=⟨z78⟩
instance:Inhabited S93:=⟨z93⟩
instance:Inhabited S29:=⟨z29⟩
instance:Inhabited S47:=⟨z47⟩
instance:Inhabited ByteArray:=⟨ByteArray.empty⟩
def enc78(x:S78):List Value:=[.string x.f0,.int .i64 x.f1]
def enc93(x:S93):List Value:=[.string x.f0,.string x.f1,.int .i64 x.f2]
def slices_Clone_string_string.f(l0:List ByteArray):Option (List ByteArray):=if l0.length * 16≤140737488355328 then some l0 else none
theorem slices_Clone_string_string.calls(A0:Option Addr)(c0:Nat)(l0:List ByteArray)(r:List ByteArray)(w:World)(hr0:Kd.C Kd.string w A0 l0.length l0)(_hc0:l0.length≤c0)(h:slices_Clone_string_string.f l0=some r) :
  Calls Tryz.prog 78 #[.slice A0 l0.length c0] w fun e w' => ∃ v0_:Value,e = .returned (v0_)∧Kd.R Kd.string 9 w' w.heap.size (fun _=>True) v0_ r∧Below w.heap.size w w':=by
 unfold slices_Clone_string_string.f at h
 split at h
 ·
  obtain rfl:=Qd h;exact clone_flat Tryz.cloneStr rfl rfl info9 rfl (by decide) rfl Tryz.sizeOf9 (fun _ _ _ _ _ _ h=>h) A0 c0 l0 w hr0 ‹_›
 cases h
def api_On_174.f(l0:List S78):Option (List S78):=if l0.length * 24≤140737488355328 then some l0 else none
theorem api_On_174.calls(A0:Option Addr)(c0:Nat)(l0:List S78)(r:List S78)(w:World)(hr0:Kd.C k78 w A0 l0.length l0)(_hc0:l0.length≤c0)(h:api_On_174.f l0=some r) :
  Calls Tryz.prog 174 #[.slice A0 l0.length c0] w fun e w' => ∃ v0_:Value,e = .returned (v0_)∧Kd.R k78 78 w' w.heap.size (fun _=>True) v0_ r∧Below w.heap.size w w':=by
 unfold api_On_174.f at h
 split at h
 ·
  obtain rfl:=Qd h;exact clone_flat Tryz.cloneOn rfl rfl info78 rfl (by decide) rfl Tryz.sizeOf78 (fun w w' b ok x cs h=>by rw [k78_open h];exact k78_mkM w' b ok x) A0 c0 l0 w hr0 ‹_›
 cases h
def api_Cond_175.f(l0:List S93):Option (List S93):=if l0.length * 40≤140737488355328 then some l0 else none
theorem api_Cond_175.calls(A0:Option Addr)(c0:Nat)(l0:List S93)(r:List S93)(w:World)(hr0:Kd.C k93 w A0 l0.length l0)(_hc0:l0.length≤c0)(h:api_Cond_175.f l0=some r) :
  Calls Tryz.prog 175 #[.slice A0 l0.length c0] w fun e w' => ∃ v0_:Value,e = .returned (v0_)∧Kd.R k93 93 w' w.heap.size (fun _=>True) v0_ r∧Below w.heap.size w w':=by
 unfold api_Cond_175.f at h
 split at h
 ·
  obtain rfl:=Qd h;exact clone_flat Tryz.cloneIf rfl rfl info93 rfl (by decide) rfl Tryz.sizeOf93 (fun w w' b ok x cs h=>by rw [k93_open h];exact k93_mkM w' b ok x) A0 c0 l0 w hr0 ‹_›
 cases h
theorem cmpOn_calls(x y:S78)(w:World):Calls Tryz.prog 66 #[.agg (enc78 x).toArray,.agg (enc78 y).toArray] w fun e w'=>e = .returned (.int .i64 (cmpOn x y))∧∃ q os,w'=grow (w.drewN q) os:=
  (PrD.norm_cmpOn.calls 3 x.f0 x.f1 y.f0 y.f1 (cmpOn x y) w (PrD.cmpOn_f 0 x y)).mono fun _ _ h=>⟨h.1,h.2.grows⟩
theorem cmpIf_calls(x y:S93)(w:World):Calls Tryz.prog 68 #[.agg (enc93 x).toArray,.agg (enc93 y).toArray] w fun e w'=>e = .returned (.int .i64 (cmpIf x y))∧∃ q os,w'=grow (w.drewN q) os:=
  (PrD.norm_cmpIf.calls 4 x.f0 x.f1 x.f2 y.f0 y.f1 y.f2 (cmpIf x y) w (PrD.cmpIf_f 0 x y)).mono fun _ _ h=>⟨h.1,h.2.grows⟩
def slices_SortFunc_cmpOn.f(l0:List S78):Option (List S78):=if l0.length<4611686018427387904 then some (sortL cmpOn l0) else none
theorem slices_SortFunc_cmpOn.calls(P0_:Nat→Prop)(u9000_:Value)(l0:List S78)(r:List S78)(w0 w:World)(hB:Below w0.heap.size w0 w)(ho0:Kd.R k78 78 w w0.heap.size P0_ u9000_ l0)(h:slices_SortFunc_cmpOn.f l0=some r) :
  Calls Tryz.prog 176 #[u9000_,(.func (.func 66) #[] #[])] w fun e w'=>e = .returned (.tuple #[])∧Kd.R k78 78 w' w0.heap.size (fun k_=>(P0_ k_∨w.heap.size≤k_)) u9000_ r∧Below w0.heap.size w0 w'∧Kept w w' (fun k_=>P0_ k_):=by
 unfold slices_SortFunc_cmpOn.f at h
 split at h
 ·
  obtain rfl:=Qd h;refine(sort_flat Tryz.sortOn (enc:=enc78) (e:=78) (k:=2) rfl rfl Tryz.isAgg78 Tryz.sizeOf78 rfl (fun _=>rfl) (fun x v hv=>?_) (fun w b ok x cs h=>k78_openM h) (fun w b ok x=>k78_mkM w b ok x) isCmp_on (enters_of Tryz.func66 (by kernel_rfl) rfl) cmpOn_calls P0_ u9000_ l0 w0 w hB ho0 ‹_›).mono ?_
  ·
   simp only [enc78,List.mem_cons,List.not_mem_nil,or_false] at hv;rcases hv with rfl|rfl <;> rfl
  rintro e w' ⟨rfl,h1,h2,h3⟩;exact⟨rfl,Kd.R_mono h1 (fun _ hk=>.inl hk),h2,h3⟩
 cases h
def slices_SortFunc_cmpIf.f(l0:List S93):Option (List S93):=if l0.length<4611686018427387904 then some (sortL cmpIf l0) else none
theorem slices_SortFunc_cmpIf.calls(P0_:Nat→Prop)(u9000_:Value)(l0:List S93)(r:List S93)(w0 w:World)(hB:Below w0.heap.size w0 w)(ho0:Kd.R k93 93 w w0.heap.size P0_ u9000_ l0)(h:slices_SortFunc_cmpIf.f l0=some r) :
  Calls Tryz.prog 177 #[u9000_,(.func (.func 68) #[] #[])] w fun e w'=>e = .returned (.tuple #[])∧Kd.R k93 93 w' w0.heap.size (fun k_=>(P0_ k_∨w.heap.size≤k_)) u9000_ r∧Below w0.heap.size w0 w'∧Kept w w' (fun k_=>P0_ k_):=by
 unfold slices_SortFunc_cmpIf.f at h
 split at h
 ·
  obtain rfl:=Qd h;refine(sort_flat Tryz.sortIf (enc:=enc93) (e:=93) (k:=3) rfl rfl Tryz.isAgg93 Tryz.sizeOf93 rfl (fun _=>rfl) (fun x v hv=>?_) (fun w b ok x cs h=>k93_openM h) (fun w b ok x=>k93_mkM w b ok x) isCmp_if (enters_of Tryz.func68 (by kernel_rfl) rfl) cmpIf_calls P0_ u9000_ l0 w0 w hB ho0 ‹_›).mono ?_
  ·
   simp only [enc93,List.mem_cons,List.not_mem_nil,or_false] at hv;rcases hv with rfl|rfl|rfl <;> rfl
  rintro e w' ⟨rfl,h1,h2,h3⟩;exact⟨rfl,Kd.R_mono h1 (fun _ hk=>.inl hk),h2,h3⟩
 cases h
theorem merge_bs(l:List ByteArray):(l.map fun b=>b.data.toList).mergeSort (fun x y=>decide (x≤y))=(sortL cmpS l).map fun b=>b.data.toList:=by
  have hl:=sortL_perm (c:=cmpS) l;have hperm:((l.map fun b=>b.data.toList).mergeSort (fun x y=>decide (x≤y))).Perm ((sortL cmpS l).map fun b=>b.data.toList):=(List.mergeSort_perm _ _).trans (hl.map _).symm;refine rises_eq isCmp_bs ?_ ?_ hperm
  · have hs := List.pairwise_mergeSort (le := fun x y : List UInt8 => decide (x ≤ y)) (fun a b c h1 h2 => by
      rw [decide_eq_true_eq] at *;exact List.le_trans h1 h2) (fun a b=>by
      rw [Bool.or_eq_true,decide_eq_true_eq,decide_eq_true_eq];exact List.le_total a b) (l.map fun b=>b.data.toList)
    refine hs.imp (fun {a b} hab=>?_);rw [decide_eq_true_eq] at hab;unfold cmpBs;by_cases h1:a<b
    · rw [if_pos h1];decide
    rw [if_neg h1,if_neg (List.not_lt.2 hab)];decide
  have h2:=sortL_rises isCmp_s l;unfold Rises at h2 ⊢;rw [List.pairwise_map];refine h2.imp (fun {a b} hab=>?_);unfold cmpS at hab
  rwa [ByteArray.toList_eq,ByteArray.toList_eq] at hab
def slices_Sort_string_string.f(l0:List ByteArray):Option (List ByteArray):=if l0.length<4611686018427387904 then some (sortL cmpS l0) else none
theorem slices_Sort_string_string.calls(P0_:Nat→Prop)(u9000_:Value)(l0:List ByteArray)(r:List ByteArray)(w0 w:World)(hB:Below w0.heap.size w0 w)(ho0:Kd.R Kd.string 9 w w0.heap.size P0_ u9000_ l0)(h:slices_Sort_string_string.f l0=some r) :
  Calls Tryz.prog 79 #[u9000_] w fun e w'=>e = .returned (.tuple #[])∧Kd.R Kd.string 9 w' w0.heap.size (fun k_=>(P0_ k_∨w.heap.size≤k_)) u9000_ r∧Below w0.heap.size w0 w'∧Kept w w' (fun k_=>P0_ k_):=by
 unfold slices_Sort_string_string.f at h
 split at h
 ·
  rename_i hsz
  obtain rfl:=Qd h;obtain⟨hP,inner,hown,hrep⟩:=ho0;have e1:inner=l0.map Value.string:=by
   have:=flat_inner (enc:=fun x:ByteArray=>[Value.string x]) (k:=1) (fun _=>rfl) hrep (fun x cs h=>h);rw [this];exact flatMap_singles (fun _ _=>rfl)
  subst e1;by_cases h0:l0=[]
  ·
   subst h0;obtain⟨A,c,rfl⟩:=own_slice hown;refine(Any.slices_Sort_string_none Tryz.sortStr A c w).mono ?_;rintro e' w' ⟨rfl,rfl⟩;refine⟨rfl,⟨fun k_ hk_=>.inl (hP k_ hk_),_,hown,?_⟩,hB,Kept.refl _ _⟩;exact⟨by simp [sortL],fun j p hj=>by simp [sortL] at hj⟩
  have hpos:0<l0.length:=List.length_pos_iff.2 h0;obtain⟨g',cap,rfl,hb,hlt⟩:=hown.form hpos;have hmap:l0.map Value.string=(l0.map fun b=>b.data.toList).map encStr:=by
   rw [List.map_map];rfl
  have hown2:=hown;rw [hmap] at hown2;have hH:=holds_of_own1 (enc:=encStr) (xs:=l0.map fun b=>b.data.toList) (by simp) hown2;have hcon:=Any.slices_Sort_string Tryz.sortStr g' 0 cap (l0.map fun b=>b.data.toList) w hH hlt (by simpa using hsz);rw [List.length_map] at hcon;refine hcon.mono ?_;rintro e' w' ⟨rfl,n,os,rfl⟩;rw [merge_bs];have hll:(sortL cmpS l0).length=l0.length:=(sortL_perm l0).length_eq;obtain⟨hown',hgr⟩:=own_sorted1 (m:=n) (os:=os) (enc:=encStr) (d':=((sortL cmpS l0).map fun b=>b.data.toList).toArray) (by simp [hll]) hown2;have hmap':((sortL cmpS l0).map fun b=>b.data.toList).toArray.toList.map encStr=(sortL cmpS l0).flatMap fun x=>[Value.string x]:=by
   rw [flatMap_singles (f:=Value.string) (fun _ _=>rfl)];simp only [List.map_map];rfl
  rw [hmap'] at hown';refine⟨rfl,⟨fun k_ hk_=>.inl (hP k_ hk_),_,by rw [hll];exact hown',reps_flat (enc:=fun x:ByteArray=>[Value.string x]) (k:=1) (fun _=>rfl) _ (fun x=>rfl)⟩,?_,?_⟩
  · exact pw_below_grown hB (some g') (Nat.le_trans hB.size (Nat.le_refl _)) hgr (fun k_ hk_=>by injection hk_ with hk_;rw [← hk_];exact hb)
  exact Kept.of_grown hgr (Kept.refl _ _) (fun k_ hk_=>.inl (hP k_ (by simpa [Value.ownBlock] using hk_)))
 cases h
end Go.Proofs.YtpbembafpnknhaaGreat.Pr
namespace Go.Proofs.YtpbembafpnknhaaGreat.Pr
open Go.RowKit Go.Proofs.YtpbembafpnknhaaGreatW.PrintWords Go.Proofs.YtpbembafpnknhaaGreatW.PrintLast Go.Proofs.YtpbembafpnknhaaGreatW.PrintMore
attribute [local go_sem] max2_int min2_int max_two min_two max_three min_three max_four min_four
theorem eqA93(d:Nat)(w:World)(x0 y0:ByteArray)(x1 y1:ByteArray)(x2 y2:Int) :
    (Op.equalIn (d+2) 93 (.agg #[.string x0,.string x1,.int .i64 x2]) (.agg #[.string y0,.string y1,.int .i64 y2])).run Tryz.prog w = .ok (x0.toList == y0.toList&&(x1.toList == y1.toList&&(x2 == y2))) w:=by
  refine eqA_of Tryz.underlying93 (by kernel_rfl) ?_;refine eqf_cons (by rfl) (by go_simp;rfl) (by go_simp;rfl) (by go_simp) ?_;refine eqf_cons (by rfl) (by go_simp;rfl) (by go_simp;rfl) (by go_simp) ?_;exact eqf_last (by rfl) (by go_simp;rfl) (by go_simp;rfl) (by go_simp)
end Go.Proofs.YtpbembafpnknhaaGreat.Pr
namespace Go.Proofs.YtpbembafpnknhaaGreat.Pr
open Go.RowKit Sn Go.Proofs.YtpbembafpnknhaaGreatW.PrintWords Go.Proofs.YtpbembafpnknhaaGreatW.PrintLast Go.Proofs.YtpbembafpnknhaaGreatW.PrintMore
theorem run_clear_slice{P:Program}{W:World}{T e:Nat}{z:Value}{g off n c:Nat}{zs:List Value}(hT:P.underlying T=some (.slice e))(hz:∀ w,(zeroValue e).run P w = .ok z w)(hn:0<n)(hzs:(Builtin.zeroCells z.cells n).toList=zs)(hcell:∀ j,j<zs.length→(W.cell? ⟨g,off+j,none⟩).isSome=true)(hfr:∀ j,j<zs.length→W.frozen? ⟨g,off+j,none⟩=false)(h1:∀ v ∈ zs,v.oneCell'=true) :
    Sem.run P (Builtin.clear_ #[T] 0 #[.slice (some ⟨g,off,none⟩) n c]) W = .ok (.tuple #[]) (W.setCells g off zs):=by
  have hs:=run_storeCells_cells (P:=P) g off zs 0 W (by simpa using hcell) (by simpa using hfr) h1;obtain⟨m,rfl⟩:∃ m,n=m+1:=⟨n - 1,by omega⟩;subst hzs;unfold Builtin.clear_;have hu:=fun w=>run_underlying (P:=P) (w:=w) hT
  simp [hu,hz,hs]
theorem setCells_block(g:Nat)(e:TypeId)(fr:Nat × Nat):∀ (vs:List Value) (o:Nat) (w:World) (cur:Array Value),w.heap[g]? = some (.cells cur e fr) →
    ∃ cur', (w.setCells g o vs).heap[g]? = some (.cells cur' e fr) ∧ cur'.size = cur.size ∧ ∀ t, t < o → cur'[t]? = cur[t]?
  | [], _, _, cur, h => ⟨cur, h, rfl, fun _ _ => rfl⟩
  | v :: r, o, w, cur, h => by
    have h2:(w.setCell ⟨g,o,none⟩ v).heap[g]? = some (.cells (cur.setIfInBounds o v) e fr):=by
      show (w.heap.modify g _)[g]? = _
      rw [Array.getElem?_modify,if_pos rfl,h];rfl
    obtain⟨cur',h3,h4,h5⟩:=setCells_block g e fr r (o+1) _ _ h2;refine⟨cur',h3,by rw [h4];simp,fun t ht=>?_⟩;rw [h5 t (by omega),Array.getElem?_setIfInBounds_ne (by omega)]
theorem grown_setCells(w:World)(g:Nat):∀ (vs:List Value) (o:Nat),w.grownBy (w.setCells g o vs) (some g):=fun vs o =>
  ⟨World.os_setCells w g o vs,by
    induction vs generalizing w o with
    | nil => rfl
    | cons v r ih=>exact ih (w.setCell ⟨g,o,none⟩ v) (o+1),World.output_setCells w g o vs,by
    induction vs generalizing w o with
    | nil => exact Nat.le_refl _
    | cons v r ih=>exact Nat.le_trans (by simp [World.setCell]) (ih (w.setCell ⟨g,o,none⟩ v) (o+1)),fun i hi hne=>World.heap_setCells_other w g o vs hi (fun e=>hne (by rw [e]))⟩
theorem own_cut{w:World}{base e k n n' cap g o:Nat}{inner vs:List Value}(h:w.ownsRow base e k (.slice (some ⟨g,0,none⟩) n cap) n inner)(hn:n'≤n)(ho:n' * k≤o) :
    (w.setCells g o vs).ownsRow base e k (.slice (some ⟨g,0,none⟩) n' cap) n' (inner.take (n' * k)):=by
  obtain⟨hlen,h2⟩:=h;rcases h2 with ⟨he,_⟩ | ⟨g',cap',cur,he,hb,hh,hnc,hcm,hcs,htk⟩
  · cases he
  injection he with he1 he2 he3;injection he1 with he1;injection he1 with he1;subst he1;subst he3;obtain⟨cur',h3,h4,h5⟩:=setCells_block g e (0,0) vs o w cur hh;have hle:n' * k≤n * k:=Nat.mul_le_mul_right k hn;refine⟨by rw [List.length_take];omega,.inr ⟨g,cap,cur',rfl,hb,h3,by omega,hcm,by rw [h4];exact hcs,?_⟩⟩;rw [← htk,List.take_take,Nat.min_eq_left hle];apply List.ext_getElem?;intro t;by_cases ht:t<n' * k
  · rw [List.getElem?_take_of_lt ht, List.getElem?_take_of_lt ht, Array.getElem?_toList, Array.getElem?_toList]
    exact h5 t (by omega)
  rw [List.getElem?_eq_none (by rw [List.length_take];omega),List.getElem?_eq_none (by rw [List.length_take];omega)]
def compactFrom{α:Type}(eq:α→α→Bool)(x:α):List α→List α
  | [] => [x]
  | y::r=>if eq y x then compactFrom eq x r else x::compactFrom eq y r
def compactL{α:Type}(eq:α→α→Bool):List α→List α
  | [] => []
  | x::r=>compactFrom eq x r
def eqIf(y x:S93):Bool:=y.f0.toList == x.f0.toList&&(y.f1.toList == x.f1.toList&&(y.f2 == x.f2))
theorem eqIf_iff{y x:S93}:eqIf y x=true↔y=x:=by
  unfold eqIf;simp only [Bool.and_eq_true,beq_iff_eq];refine⟨fun ⟨h1,h2,h3⟩=>?_,fun h=>by rw [h];exact⟨rfl,rfl,rfl⟩⟩;have g1:=bs_inj h1;have g2:=bs_inj h2;clear h1 h2;cases y;cases x;simp only at g1 g2 h3;subst g1;subst g2;subst h3;rfl
attribute [local go_sem high] eqA93
theorem compact_short(A:Option Addr)(n cap:Nat)(w:World)(hn:n<2):Calls Tryz.prog 178 #[.slice A n cap] w fun e w'=>e = .returned (.slice A n cap)∧w=w':=by
  have h2:(n:Int)<2:=by omega
  go_enter Tryz.func178,Tryz.ntmps178;go_wp2;go_ret;exact⟨rfl,rfl⟩
theorem compact_same(x y:S93)(g cap:Nat)(w:World)(hcap:2≤cap)(hm:cap≤9223372036854775807)(c0:w.cell? ⟨g,0,none⟩=some (.string x.f0))(c1:w.cell? ⟨g,1,none⟩=some (.string x.f1))(c2:w.cell? ⟨g,2,none⟩=some (.int .i64 x.f2))(c3:w.cell? ⟨g,3,none⟩=some (.string y.f0))(c4:w.cell? ⟨g,4,none⟩=some (.string y.f1))(c5:w.cell? ⟨g,5,none⟩=some (.int .i64 y.f2))(f3:w.frozen? ⟨g,3,none⟩=false)(f4:w.frozen? ⟨g,4,none⟩=false)(f5:w.frozen? ⟨g,5,none⟩=false)(he:(y.f0.toList == x.f0.toList&&(y.f1.toList == x.f1.toList&&(y.f2 == x.f2)))=true) :
    Calls Tryz.prog 178 #[.slice (some ⟨g,0,none⟩) 2 cap] w fun e w'=>e = .returned (.slice (some ⟨g,0,none⟩) 1 cap)∧∃ nq,w'=(w.drewN nq).setCells g 3 [.string ⟨#[]⟩,.string ⟨#[]⟩,.int .i64 0]:=by
  have hcl:∀ nq c,Sem.run Tryz.prog (Builtin.clear_ #[27] 0 #[.slice (some ⟨g,3,none⟩) 1 c]) (w.drewN nq) = .ok (.tuple #[]) ((w.drewN nq).setCells g 3 [.string ⟨#[]⟩,.string ⟨#[]⟩,.int .i64 0]):=fun nq c =>
    run_clear_slice (z:=.agg #[.string ⟨#[]⟩,.string ⟨#[]⟩,.int .i64 0]) (n:=1) Tryz.underlying27 Tryz.zeroValue93 (by decide) (by kernel_rfl) (fun j hj=>by
      have hj:j<3:=hj
      match j, hj with
      | 0, _ => simp [c3]
      | 1, _ => simp [c4]
      | 2,_=>simp [c5]) (fun j hj=>by
      have hj:j<3:=hj
      match j, hj with
      | 0, _ => simpa using f3
      | 1, _ => simpa using f4
      | 2,_=>simpa using f5) (fun v hv=>by
      have hv:v ∈ [Value.string ⟨#[]⟩,Value.string ⟨#[]⟩,Value.int .i64 0]:=hv;simp only [List.mem_cons,List.not_mem_nil,or_false] at hv;rcases hv with rfl|rfl|rfl <;> rfl)
  clear f3 f4 f5;go_enter Tryz.func178,Tryz.ntmps178;go_wp2;refine wp_loop_rounds 2 ?_;rw [rounds_succ];go_wp2;go_quiet (fail)
  go_wp2;refine wp_loop_rounds 1 ?_;rw [rounds_succ];go_wp2;go_ret;exact⟨rfl,_,rfl⟩
theorem compact_other(x y:S93)(g cap:Nat)(w:World)(c0:w.cell? ⟨g,0,none⟩=some (.string x.f0))(c1:w.cell? ⟨g,1,none⟩=some (.string x.f1))(c2:w.cell? ⟨g,2,none⟩=some (.int .i64 x.f2))(c3:w.cell? ⟨g,3,none⟩=some (.string y.f0))(c4:w.cell? ⟨g,4,none⟩=some (.string y.f1))(c5:w.cell? ⟨g,5,none⟩=some (.int .i64 y.f2))(he:(y.f0.toList == x.f0.toList&&(y.f1.toList == x.f1.toList&&(y.f2 == x.f2)))=false) :
    Calls Tryz.prog 178 #[.slice (some ⟨g,0,none⟩) 2 cap] w fun e w'=>e = .returned (.slice (some ⟨g,0,none⟩) 2 cap)∧∃ nq,w'=w.drewN nq:=by
  go_enter Tryz.func178,Tryz.ntmps178;go_wp2;refine wp_loop_rounds 2 ?_;rw [rounds_succ];go_wp2;go_quiet (fail)
  go_wp2;rw [rounds_succ];go_wp2;go_ret;exact⟨rfl,_,rfl⟩
def api_Cond_178.f(l0:List S93):Option (List S93):=if l0.length≤2 then some (compactL eqIf l0) else none
theorem api_Cond_178.calls(P0_:Nat→Prop)(u9000_:Value)(l0:List S93)(r:List S93)(w0 w:World)(hB:Below w0.heap.size w0 w)(ho0:Kd.R k93 93 w w0.heap.size P0_ u9000_ l0)(h:api_Cond_178.f l0=some r) :
  Calls Tryz.prog 178 #[u9000_] w fun e w' => ∃ v0_:Value,e = .returned (v0_)∧Kd.R k93 93 w' w0.heap.size (fun k_=>(P0_ k_∨w.heap.size≤k_)) v0_ r∧Below w0.heap.size w0 w'∧Kept w w' (fun k_=>P0_ k_):=by
 unfold api_Cond_178.f at h
 split at h
 ·
  rename_i hsz
  obtain rfl:=Qd h;obtain⟨hP,inner,hown,hrep⟩:=ho0;obtain rfl:=flat_inner (enc:=enc93) (k:=3) (fun _=>rfl) hrep (fun x cs h=>k93_openM h);by_cases h2:l0.length<2
  ·
   obtain⟨A,c,rfl⟩:=own_slice hown;refine(compact_short A l0.length c w h2).mono ?_;rintro e' w' ⟨rfl,rfl⟩;have hc:compactL eqIf l0=l0:=by
    match l0, h2 with
    | [], _ => rfl
    | [x],_=>rfl
   rw [hc];exact⟨_,rfl,⟨fun k_ hk_=>.inl (hP k_ hk_),_,hown,reps_flat (enc:=enc93) (k:=3) (fun _=>rfl) _ (fun x=>k93_mkM _ _ _ x)⟩,hB,Kept.refl _ _⟩
  obtain⟨x,y,rfl⟩:∃ x y,l0=[x,y]:=by
   match l0, hsz, h2 with
   | [x, y], _, _ => exact ⟨x, y, rfl⟩
   | [], _, h2 => exact absurd (by simp) h2
   | [_], _, h2 => exact absurd (by simp) h2
   | _::_::_::_,hsz,_=>exact absurd hsz (by simp)
  obtain⟨g',cap,rfl,hb,hlt⟩:=hown.form (by simp);have hle:=own_le hown;have hcells:=fun j u=>hown.cells (g:=g') rfl j u
  simp only [add_plain] at hcells;have hfr:∀ j,w.frozen? ⟨g',j,none⟩=false:=by
   intro j;obtain⟨cells,hcb⟩:=own_typed hown g' (by simp [Value.ownBlock]);simp [World.frozen?,hcb]
  have hcm:cap≤9223372036854775807:=by
   rcases hown.2 with ⟨he,_⟩ | ⟨_,_,_,he,_,_,_,hcm,_⟩
   · cases he
   injection he with _ _ he3;subst he3;exact hcm
  by_cases he:eqIf y x=true
  ·
   refine(compact_same x y g' cap w hle hcm (hcells 0 _ rfl) (hcells 1 _ rfl) (hcells 2 _ rfl) (hcells 3 _ rfl) (hcells 4 _ rfl) (hcells 5 _ rfl) (hfr _) (hfr _) (hfr _) he).mono ?_;rintro e' w' ⟨rfl,nq,rfl⟩;have hr:compactL eqIf [x,y]=[x]:=by simp [compactL,compactFrom,he]
   rw [hr];have hg:=grown_setCells (w.drewN nq) g' [.string ⟨#[]⟩,.string ⟨#[]⟩,.int .i64 0] 3;refine⟨_,rfl,⟨fun k_ hk_=>.inl (hP k_ hk_),_,own_cut (n':=1) (k:=3) (o:=3) (pw_own_drewN hown nq) (by simp) (by decide),?_⟩,?_,?_⟩
   · exact reps_flat (enc:=enc93) (k:=3) (fun _=>rfl) [x] (fun x=>k93_mkM _ _ _ x)
   · exact pw_below_grown (pw_below_drewN hB nq) (some g') hB.size hg (fun k_ hk_=>by injection hk_ with hk_;rw [← hk_];exact hb)
   exact Kept.of_grown hg ((Kept.refl w _).drewN nq) (fun k_ hk_=>.inl (hP k_ (by simpa [Value.ownBlock] using hk_)))
  have he:eqIf y x=false:=by simpa using he
  refine(compact_other x y g' cap w (hcells 0 _ rfl) (hcells 1 _ rfl) (hcells 2 _ rfl) (hcells 3 _ rfl) (hcells 4 _ rfl) (hcells 5 _ rfl) he).mono ?_;rintro e' w' ⟨rfl,nq,rfl⟩;have hr:compactL eqIf [x,y]=[x,y]:=by simp [compactL,compactFrom,he]
  rw [hr];exact⟨_,rfl,⟨fun k_ hk_=>.inl (hP k_ hk_),_,pw_own_drewN hown nq,reps_flat (enc:=enc93) (k:=3) (fun _=>rfl) _ (fun x=>k93_mkM _ _ _ x)⟩,pw_below_drewN hB nq,(Kept.refl w _).drewN nq⟩
 cases h
open Go.Sort (SWO grow PermIn SortedIn)
theorem flat_chunk{α:Type}[Inhabited α]{enc:α→List Value}{k:Nat}(hk:∀ x,(enc x).length=k)(xs:List α)(j:Nat)(hj:j<xs.length):((xs.flatMap enc).drop (j * k)).take k=enc xs[j]:=by
  apply List.ext_getElem?;intro t;by_cases ht:t<k
  · have hlt : j * k + t < xs.length * k := by
      have:=Nat.mul_le_mul_right k (show j+1≤xs.length from hj);rw [Nat.add_mul,Nat.one_mul] at this;omega
    rw [List.getElem?_take_of_lt ht,List.getElem?_drop,flat_get hk xs _ hlt,Nat.mul_comm j k,Nat.mul_add_div (by omega),Nat.div_eq_of_lt ht,Nat.add_zero,Nat.mul_add_mod,Nat.mod_eq_of_lt ht];have e1:xs[j]! = xs[j]:=getElem!_pos xs j hj;rw [e1,List.getElem?_eq_getElem (by rw [hk];exact ht),getElem!_pos (enc xs[j]) t (by rw [hk];exact ht)]
  rw [List.getElem?_eq_none (by simp;omega),List.getElem?_eq_none (by rw [hk];omega)]
theorem reps_flat_at{α β:Type}[Inhabited α]{R:β→List Value→Prop}{enc:α→List Value}{k:Nat}(hk:∀ x,(enc x).length=k)(xs:List α)(zs:List β)(hl:zs.length=xs.length)(hR:∀ (j:Nat) (h:j<xs.length) (z:β),zs[j]? = some z→R z (enc xs[j])):Reps R k zs (xs.flatMap enc):=by
  refine⟨by rw [flat_length hk,hl],fun j z hz=>?_⟩;have hj:j<xs.length:=by rw [← hl];exact(List.getElem?_eq_some_iff.1 hz).1
  rw [flat_chunk hk xs j hj];exact hR j hj z hz
theorem packs{β:Type}{R:β→List Value→Prop}{k:Nat}:∀ (zs:List β) (inner:List Value),Reps R k zs inner→∃ ps:List { p:β × List Value // R p.1 p.2 },ps.map (fun p=>p.1.1)=zs∧ps.flatMap (fun p=>p.1.2)=inner
  | [], inner, h => ⟨[], rfl, by
    have:=h.1;simp at this
    exact (List.flatMap_nil).trans this.symm⟩
  | z :: zs, inner, h => by
    have h0:=h.2 0 z rfl;rw [Nat.zero_mul,List.drop_zero] at h0;have ht:Reps R k zs (inner.drop k):=by
      refine⟨by rw [List.length_drop,h.1,List.length_cons,Nat.add_mul,Nat.one_mul,Nat.add_sub_cancel],fun j p hj=>?_⟩;have:=h.2 (j+1) p (by simpa using hj);rw [List.drop_drop]
      rwa [Nat.add_mul,Nat.one_mul,Nat.add_comm] at this
    obtain⟨ps,h1,h2⟩:=packs zs _ ht;refine⟨⟨(z,inner.take k),h0⟩ :: ps,by rw [List.map_cons,h1],?_⟩;rw [List.flatMap_cons,h2];exact List.take_append_drop k inner
section
variable{α : Type}[Inhabited α]{enc : α → List Value}{val : α → S29}{oka : α → Nat → Prop}{w : World}{base g n cap : Nat}
theorem cmpSe_lays(hM:∀ x:α,k29.M w base (oka x) (val x) (enc x))(hng:∀ x k,oka x k→k≠g){ps:List α}(hk:∀ x,(enc x).length=2)(hpl:ps.length=n)(hown:w.ownsRow base 29 2 (.slice (some ⟨g,0,none⟩) n cap) n (ps.flatMap enc)) :
    CmpLays Tryz.prog 32 #[] enc 2 (fun p q=>cmpSe (val p) (val q)) g 0 ps.toArray.size w:=by
  intro m os dk hdk p q;have hdk':dk.size=n:=by rw [hdk];simpa using hpl
  have hmv:∀ x k,oka x k→k<w.heap.size→(sortWorldK enc 2 w g 0 m dk os).heap[k]? = w.heap[k]?:=fun x k hk' hkl =>
    (own_sorted (m:=m) (os:=os) hk (d':=dk) hdk' hown).2.1.block k hkl (fun e=>hng x k hk' (Qd e))
  have hKp:=k29.K_of_M (Kd.M_step (hM p) (fun k hk' hkl=>hmv p k hk' hkl));have hKq:=k29.K_of_M (Kd.M_step (hM q) (fun k hk' hkl=>hmv q k hk' hkl));generalize sortWorldK enc 2 w g 0 m dk os=W at hKp hKq;obtain⟨A0,c0,A1,c1,e1,l0,r0,l1,r1⟩:=k29_open hKp;obtain⟨B0,d0,B1,d1,e2,m0,s0,m1,s1⟩:=k29_open hKq;rw [e1,e2];have hc:=(PrD.norm_CmpSentry.calls ((val p).f0.length+(val p).f1.length+9) A0 c0 (val p).f0 A1 c1 (val p).f1 B0 d0 (val q).f0 B1 d1 (val q).f1 (cmpSe (val p) (val q)) _ r0 l0 r1 l1 s0 m0 s1 m1 (PrD.cmpSe_f _ _ _ r0.2.1 r1.2.1 (Nat.le_refl _)));refine hc.mono ?_;rintro e' w' ⟨rfl,hd⟩;exact⟨rfl,hd.grows⟩
omit [Inhabited α] in
theorem swo_val:SWO (ltOf fun p q:α=>cmpSe (val p) (val q)):=by
  have h:=swo_of isCmp_se;exact⟨fun x=>h.irrefl _,fun x y z=>h.trans _ _ _,fun x y z=>h.ntrans _ _ _⟩
theorem sortSe_core(hM:∀ x:α,k29.M w base (oka x) (val x) (enc x))(hng:∀ x k,oka x k→k≠g){ps:List α}(hpl:ps.length=n)(hown:w.ownsRow base 29 2 (.slice (some ⟨g,0,none⟩) n cap) n (ps.flatMap enc))(hlt:g<w.heap.size)(hsz:n<4611686018427387904) :
    Calls Tryz.prog 179 #[.slice (some ⟨g,0,none⟩) n cap,.func (.func 32) #[] #[]] w fun e w'=>e = .returned (.tuple #[])∧∃ d:List α,d.Perm ps∧d.map val=sortL cmpSe (ps.map val) ∧
      w'.ownsRow base 29 2 (.slice (some ⟨g,0,none⟩) n cap) n (d.flatMap enc)∧w.grownBy w' (some g):=by
  have hk:∀ x:α,(enc x).length=2:=fun x=>k29.K_len (k29.K_of_M (hM x))
  have h1:∀ x:α,∀ v ∈ enc x,v.oneCell'=true:=fun x=>k29.K_one (k29.K_of_M (hM x))
  have hcon:=AnyQ.slices_SortFunc Tryz.sortSe 2 Tryz.isAgg29 Tryz.sizeOf29 enc hk h1 (fun p q=>cmpSe (val p) (val q)) swo_val 32 #[] g 0 cap ps.toArray w (enters_of Tryz.func32 (by kernel_rfl) rfl)
    (cmpSe_lays hM hng hk hpl hown) (holdsK_of_own hk hpl hown) hlt (by simpa [hpl] using hsz)
  have hsz':ps.toArray.size=n:=by simpa using hpl
  rw [hsz'] at hcon;refine hcon.mono ?_;rintro e' w' ⟨rfl,d',n',os,hperm,hsorted,rfl⟩;have hds:d'.size=n:=by rw [hperm.1];exact hsz'
  have hpl':d'.toList.Perm ps:=by
    have h3:=hperm.2.2;have e1:d'.extract 0 n=d':=by rw [← hds];exact Array.extract_size
    have e2:ps.toArray.extract 0 n=ps.toArray:=by rw [← hsz'];exact Array.extract_size
    first
      | (rw [e1, e2] at h3; exact h3)
      | (simp only [Nat.zero_add] at h3;rw [e1,e2] at h3;exact h3)
  obtain⟨hown',hgr,_⟩:=own_sorted (m:=n') (os:=os) hk (d':=d') hds hown;refine⟨rfl,d'.toList,hpl',?_,hown',hgr⟩;refine rises_eq isCmp_se ?_ (sortL_rises isCmp_se _) ((hpl'.map val).trans (sortL_perm _).symm);unfold Rises;rw [List.pairwise_map,List.pairwise_iff_getElem];intro i j hi hj hij;have h3:=hsorted i j (Nat.zero_le _) hij (by rw [← hds];simpa using hj);have hi':i<d'.size:=by simpa using hi
  have hj':j<d'.size:=by simpa using hj
  rw [getElem!_pos d' i hi',getElem!_pos d' j hj'] at h3;unfold ltOf at h3;rw [decide_eq_false_iff_not] at h3;simp only [Array.getElem_toList];have h3:¬ cmpSe (val d'[j]) (val d'[i])<0:=h3;intro h4;have:=isCmp_se.gt.1 h4;omega
end
theorem ownBlock_row(g n cap:Nat):(Value.slice (some ⟨g,0,none⟩) n cap).ownBlock=some g:=rfl
theorem sortSe_calls{base:Nat}{ok:Nat→Prop}{v:Value}{xs:List S29}{w:World}(hS:Kd.S k29 29 w base ok v xs)(hsz:xs.length<4611686018427387904) :
    Calls Tryz.prog 179 #[v,.func (.func 32) #[] #[]] w fun e w'=>e = .returned (.tuple #[])∧Kd.S k29 29 w' base ok v (sortL cmpSe xs)∧w.grownBy w' v.ownBlock:=by
  by_cases h0:xs=[]
  · subst h0
    obtain⟨A,c,rfl⟩:=Kd.S_slice hS;refine(AnyF.slices_SortFunc_none Tryz.sortSe A c _ w).mono ?_;rintro e' w' ⟨rfl,rfl⟩;exact⟨rfl,hS,World.grownBy.refl _ _⟩
  have hpos:0<xs.length:=List.length_pos_iff.2 h0;obtain⟨f,hP,inner,hown,hrep⟩:=hS;rw [List.length_zipIdx] at hown;obtain⟨g,cap,rfl,hb,hlt⟩:=hown.form hpos;rw [ownBlock_row] at hP;obtain⟨ps,hps1,rfl⟩:=packs _ _ hrep;have hpl:ps.length=xs.length:=by have:=congrArg List.length hps1;simpa using this
  have hval:ps.map (fun p=>p.1.1.1)=xs:=by
    have:=congrArg (List.map Prod.fst) hps1;rw [List.map_map] at this;simpa [Function.comp_def] using this
  have hidx0:ps.map (fun p=>p.1.1.2)=List.range xs.length:=by
    have:=congrArg (List.map Prod.snd) hps1;rw [List.map_map] at this;have h5:xs.zipIdx.map Prod.snd=List.range xs.length:=by rw [List.zipIdx_map_snd];simp [List.range_eq_range']
    rw [h5] at this;simpa [Function.comp_def] using this
  have hne:Nonempty { p:(S29 × Nat) × List Value // (Kd.tag f k29).M w base (fun k=>ok k∧some k≠(Value.slice (some ⟨g,0,none⟩) xs.length cap).ownBlock) p.1 p.2 }:=by
    cases ps with
    | nil => simp at hpl; omega
    | cons p _=>exact ⟨p⟩
  have hown:w.ownsRow base 29 2 (.slice (some ⟨g,0,none⟩) xs.length cap) xs.length (ps.flatMap fun p=>p.1.2):=hown
  -- over an abstract type
  obtain⟨α,hα,enc,val,idx,ps',hM,hown',hv',hi',hl'⟩:∃ (α:Type) (_:Inhabited α) (enc:α→List Value) (val:α→S29) (idx:α→Nat) (ps':List α),
      (∀ x,k29.M w base (fun k=>(ok k∧k≠g)∧f k=idx x) (val x) (enc x))∧w.ownsRow base 29 2 (.slice (some ⟨g,0,none⟩) xs.length cap) xs.length (ps'.flatMap enc)∧ps'.map val=xs∧ps'.map idx=List.range xs.length∧ps'.length=xs.length:=by
    refine⟨_,⟨Classical.choice hne⟩,fun p=>p.1.2,fun p=>p.1.1.1,fun p=>p.1.1.2,ps,fun x=>?_,hown,hval,hidx0,hpl⟩;refine k29.M_mono (fun k hk=>⟨⟨hk.1.1,fun e=>hk.1.2 ?_⟩,hk.2⟩) x.2;rw [ownBlock_row,e]
  refine(sortSe_core (val:=val) hM (fun x k h=>h.1.2) hl' hown' hlt hsz).mono ?_;rintro e' w' ⟨rfl,d,hperm,hsort,hown2,hgr⟩;rw [hv'] at hsort;have hdl:d.length=xs.length:=by rw [hperm.length_eq,hl']
  have hnd:(d.map idx).Nodup:=by
    rw [(hperm.map idx).nodup_iff,hi'];exact List.nodup_range
  refine⟨rfl,?_,hgr⟩;rw [← hsort];refine⟨fun k=>(d.map idx).idxOf (f k),?_,d.flatMap enc,?_,?_⟩
  · rw [ownBlock_row];exact hP
  · rw [List.length_zipIdx,List.length_map,hdl];exact hown2
  refine reps_flat_at (fun x=>k29.K_len (k29.K_of_M (hM x))) _ _ (by simp) (fun j hj z hz=>?_);have hz':z=(val (d[j]),j):=by
    rw [List.getElem?_zipIdx,List.getElem?_map,List.getElem?_eq_getElem hj] at hz;simpa using hz.symm
  subst hz';have hM2:=Kd.M_step (hM d[j]) (fun k hk' hkl=>hgr.block k hkl (fun e=>hk'.1.2 (Qd e)));refine k29.M_mono (fun k hk'=>⟨⟨hk'.1.1,fun e=>hk'.1.2 (Qd e)⟩,?_⟩) hM2
  show (d.map idx).idxOf (f k)=j
  rw [hk'.2];have hj2:j<(d.map idx).length:=by simpa using hj
  have h5:idx d[j]=(d.map idx)[j]:=by simp
  rw [h5];exact hnd.idxOf_getElem j hj2
end Go.Proofs.YtpbembafpnknhaaGreat.Pr
namespace Go.Proofs.YtpbembafpnknhaaGreat.Pr
open Go.RowKit Go.Proofs.YtpbembafpnknhaaGreatW.PrintWords Go.Proofs.YtpbembafpnknhaaGreatW.PrintLast Go.Proofs.YtpbembafpnknhaaGreatW.PrintMore
def norm_CmpSentry.f(k:Nat)(l0_0:List (S78))(l0_1:List (S93))(l1_0:List (S78))(l1_1:List (S93)):Option (Int):=PrD.norm_CmpSentry.f k l0_0 l0_1 l1_0 l1_1
theorem norm_CmpSentry.calls(k:Nat)(A0_0:Option Addr)(c0_0:Nat)(l0_0:List (S78))(A0_1:Option Addr)(c0_1:Nat)(l0_1:List (S93))(A1_0:Option Addr)(c1_0:Nat)(l1_0:List (S78))(A1_1:Option Addr)(c1_1:Nat)(l1_1:List (S93))(r:Int)(w:World)(hr0_0:Kd.C k78 w A0_0 l0_0.length l0_0)(hc0_0:l0_0.length≤c0_0)(hr0_1:Kd.C k93 w A0_1 l0_1.length l0_1)(hc0_1:l0_1.length≤c0_1)(hr1_0:Kd.C k78 w A1_0 l1_0.length l1_0)(hc1_0:l1_0.length≤c1_0)(hr1_1:Kd.C k93 w A1_1 l1_1.length l1_1)(hc1_1:l1_1.length≤c1_1)(h:norm_CmpSentry.f k l0_0 l0_1 l1_0 l1_1=some r) :
 Calls Tryz.prog 32 #[.agg #[.slice A0_0 l0_0.length c0_0,.slice A0_1 l0_1.length c0_1],.agg #[.slice A1_0 l1_0.length c1_0,.slice A1_1 l1_1.length c1_1]] w fun e w'=>e = .returned (.int .i64 r)∧Below w.heap.size w w':=
 (PrD.norm_CmpSentry.calls k A0_0 c0_0 l0_0 A0_1 c0_1 l0_1 A1_0 c1_0 l1_0 A1_1 c1_1 l1_1 r w hr0_0 hc0_0 hr0_1 hc0_1 hr1_0 hc1_0 hr1_1 hc1_1 h).mono fun _ _ h=>⟨h.1,h.2.below⟩
end Go.Proofs.YtpbembafpnknhaaGreat.Pr
namespace Go.Proofs.YtpbembafpnknhaaGreat.Pr
open Go.RowKit Sn Go.Proofs.YtpbembafpnknhaaGreatW.PrintWords Go.Proofs.YtpbembafpnknhaaGreatW.PrintLast Go.Proofs.YtpbembafpnknhaaGreatW.PrintMore
def eqSe(y x:S29):Bool:=cmpSe y x == 0
theorem eqSe_iff{y x:S29}:eqSe y x=true↔y=x:=by
  unfold eqSe;rw [beq_iff_eq];exact isCmp_se.eq0 _ _
theorem eqSe_calls{A0 A1 B0 B1:Option Addr}{c0 c1 d0 d1:Nat}{x y:S29}{w:World}(l0:x.f0.length≤c0)(r0:Kd.C k78 w A0 x.f0.length x.f0)(l1:x.f1.length≤c1)(r1:Kd.C k93 w A1 x.f1.length x.f1)(m0:y.f0.length≤d0)(s0:Kd.C k78 w B0 y.f0.length y.f0)(m1:y.f1.length≤d1)(s1:Kd.C k93 w B1 y.f1.length y.f1) :
    Calls Tryz.prog 181 #[.agg #[.slice A0 x.f0.length c0,.slice A1 x.f1.length c1],.agg #[.slice B0 y.f0.length d0,.slice B1 y.f1.length d1]] w fun e w'=>e = .returned (.bool (eqSe x y))∧Below w.heap.size w w':=by
  have hc:∀ W,Below w.heap.size w W→Calls Tryz.prog 32 #[.agg #[.slice A0 x.f0.length c0,.slice A1 x.f1.length c1],.agg #[.slice B0 y.f0.length d0,.slice B1 y.f1.length d1]] W fun e w'=>e = .returned (.int .i64 (cmpSe x y))∧Below w.heap.size w w':=fun W hW =>
    (PrD.norm_CmpSentry.calls (x.f0.length+x.f1.length+9) A0 c0 x.f0 A1 c1 x.f1 B0 d0 y.f0 B1 d1 y.f1 (cmpSe x y) W (Kd.C_below r0 hW) l0 (Kd.C_below r1 hW) l1 (Kd.C_below s0 hW) m0 (Kd.C_below s1 hW) m1 (PrD.cmpSe_f _ _ _ r0.2.1 r1.2.1 (Nat.le_refl _))).mono
      (fun _ _ h=>⟨h.1,below_step hW h.2.below⟩)
  have HB:=am (Below.refl w.heap.size w);go_enter Tryz.func181,Tryz.ntmps181;go_wp2_with (first|((with_reducible refine gc_ 32 ?_);refine goesL_ (some 7) rfl rfl Tryz.func32 (by kernel_rfl) rfl #[.agg #[.slice A0 x.f0.length c0,.slice A1 x.f1.length c1],.agg #[.slice B0 y.f0.length d0,.slice B1 y.f1.length d1]] rfl (by (try simp only [List.map_toArray,List.map_cons,List.map_nil]);first|done|rfl) ?_;refine(hc _ (zb)).mono ?_;rintro e w7 ⟨rfl,hb⟩;refine⟨_,rfl,?_⟩))
  go_ret;exact⟨rfl,hb⟩
section
variable{g : Nat}{w : World}{A0 A1 B0 B1 D0 D1 : Option Addr}{m0 m1 n0 n1 q0 q1 c0 c1 d0 d1 e0 e1 : Nat}
theorem compactSe_2n(cap:Nat)(hg:g<w.heap.size)(hcap:2≤cap)(hm:cap≤9223372036854775807)(k0:w.cell? ⟨g,0,none⟩=some (.slice A0 m0 c0))(k1:w.cell? ⟨g,1,none⟩=some (.slice A1 m1 c1))(k2:w.cell? ⟨g,2,none⟩=some (.slice B0 n0 d0))(k3:w.cell? ⟨g,3,none⟩=some (.slice B1 n1 d1))(hc0:∀ W,Below w.heap.size w W→Calls Tryz.prog 181 #[.agg #[.slice B0 n0 d0,.slice B1 n1 d1],.agg #[.slice A0 m0 c0,.slice A1 m1 c1]] W fun e w'=>e = .returned (.bool false)∧Below w.heap.size w w') :
    Calls Tryz.prog 180 #[.slice (some ⟨g,0,none⟩) 2 cap,.func (.func 181) #[] #[]] w fun e w'=>e = .returned (.slice (some ⟨g,0,none⟩) 2 cap)∧Below w.heap.size w w':=by
  have HB:=am (Below.refl w.heap.size w);have HC0:=am hc0;clear hc0;have kk0:=k0;have kk1:=k1;have kk2:=k2;have kk3:=k3;have hW0:IntKind.i64.wrap 0=0:=by decide
  have hW1:IntKind.i64.wrap 1=1:=by decide
  go_enter Tryz.func180,Tryz.ntmps180;go_wp2;refine wp_loop_rounds 2 ?_;rw [rounds_succ];go_wp2;go_still_tail 10,(by kernel_rfl)
  change wpList _ _ _ _ _ w.drew
  go_wp2_with (first|((with_reducible refine gate_callee_d (f:=181) rfl ?_);refine goesLd_ _ rfl rfl Tryz.func181 (by kernel_rfl) rfl #[.agg #[.slice B0 n0 d0,.slice B1 n1 d1],.agg #[.slice A0 m0 c0,.slice A1 m1 c1]] rfl (by (try simp only [List.map_toArray,List.map_cons,List.map_nil]);first|done|rfl) ?_;refine(HC0.out _ (zb)).mono ?_;rintro e w7 ⟨rfl,hb⟩;refine⟨_,rfl,?_⟩;clear HB;have HB:=am hb;replace k0:=(hb.cell (Qk w _ kk0)).trans kk0;replace k1:=(hb.cell (Qk w _ kk1)).trans kk1;replace k2:=(hb.cell (Qk w _ kk2)).trans kk2;replace k3:=(hb.cell (Qk w _ kk3)).trans kk3;clear hb))
  rw [rounds_succ];go_wp2;go_ret;exact⟨rfl,HB.out⟩
theorem compactSe_3nn(cap:Nat)(hg:g<w.heap.size)(hcap:3≤cap)(hm:cap≤9223372036854775807)(k0:w.cell? ⟨g,0,none⟩=some (.slice A0 m0 c0))(k1:w.cell? ⟨g,1,none⟩=some (.slice A1 m1 c1))(k2:w.cell? ⟨g,2,none⟩=some (.slice B0 n0 d0))(k3:w.cell? ⟨g,3,none⟩=some (.slice B1 n1 d1))(k4:w.cell? ⟨g,4,none⟩=some (.slice D0 q0 e0))(k5:w.cell? ⟨g,5,none⟩=some (.slice D1 q1 e1))(hc0:∀ W,Below w.heap.size w W→Calls Tryz.prog 181 #[.agg #[.slice B0 n0 d0,.slice B1 n1 d1],.agg #[.slice A0 m0 c0,.slice A1 m1 c1]] W fun e w'=>e = .returned (.bool false)∧Below w.heap.size w w')(hc1:∀ W,Below w.heap.size w W→Calls Tryz.prog 181 #[.agg #[.slice D0 q0 e0,.slice D1 q1 e1],.agg #[.slice B0 n0 d0,.slice B1 n1 d1]] W fun e w'=>e = .returned (.bool false)∧Below w.heap.size w w') :
    Calls Tryz.prog 180 #[.slice (some ⟨g,0,none⟩) 3 cap,.func (.func 181) #[] #[]] w fun e w'=>e = .returned (.slice (some ⟨g,0,none⟩) 3 cap)∧Below w.heap.size w w':=by
  have HB:=am (Below.refl w.heap.size w);have HC0:=am hc0;clear hc0;have HC1:=am hc1;clear hc1;have kk0:=k0;have kk1:=k1;have kk2:=k2;have kk3:=k3;have kk4:=k4;have kk5:=k5;have hW0:IntKind.i64.wrap 0=0:=by decide
  have hW1:IntKind.i64.wrap 1=1:=by decide
  go_enter Tryz.func180,Tryz.ntmps180;go_wp2;refine wp_loop_rounds 3 ?_;rw [rounds_succ];go_wp2;go_still_tail 10,(by kernel_rfl)
  change wpList _ _ _ _ _ w.drew
  go_wp2_with (first|((with_reducible refine gate_callee_d (f:=181) rfl ?_);refine goesLd_ _ rfl rfl Tryz.func181 (by kernel_rfl) rfl #[.agg #[.slice B0 n0 d0,.slice B1 n1 d1],.agg #[.slice A0 m0 c0,.slice A1 m1 c1]] rfl (by (try simp only [List.map_toArray,List.map_cons,List.map_nil]);first|done|rfl) ?_;refine(HC0.out _ (zb)).mono ?_;rintro e w7 ⟨rfl,hb⟩;refine⟨_,rfl,?_⟩;clear HB;have HB:=am hb;replace k0:=(hb.cell (Qk w _ kk0)).trans kk0;replace k1:=(hb.cell (Qk w _ kk1)).trans kk1;replace k2:=(hb.cell (Qk w _ kk2)).trans kk2;replace k3:=(hb.cell (Qk w _ kk3)).trans kk3;replace k4:=(hb.cell (Qk w _ kk4)).trans kk4;replace k5:=(hb.cell (Qk w _ kk5)).trans kk5;clear hb))
  rw [rounds_succ];go_wp2;go_still_tail 10,(by kernel_rfl)
  change wpList _ _ _ _ _ w7.drew
  go_wp2_with (first|((with_reducible refine gate_callee_d (f:=181) rfl ?_);refine goesLd_ _ rfl rfl Tryz.func181 (by kernel_rfl) rfl #[.agg #[.slice D0 q0 e0,.slice D1 q1 e1],.agg #[.slice B0 n0 d0,.slice B1 n1 d1]] rfl (by (try simp only [List.map_toArray,List.map_cons,List.map_nil]);first|done|rfl) ?_;refine(HC1.out _ (zb)).mono ?_;rintro e w8 ⟨rfl,hb⟩;refine⟨_,rfl,?_⟩;clear HB;have HB:=am hb;replace k0:=(hb.cell (Qk w _ kk0)).trans kk0;replace k1:=(hb.cell (Qk w _ kk1)).trans kk1;replace k2:=(hb.cell (Qk w _ kk2)).trans kk2;replace k3:=(hb.cell (Qk w _ kk3)).trans kk3;replace k4:=(hb.cell (Qk w _ kk4)).trans kk4;replace k5:=(hb.cell (Qk w _ kk5)).trans kk5;clear hb))
  rw [rounds_succ];go_wp2;go_ret;exact⟨rfl,HB.out⟩
theorem compactSe_2y(cap:Nat)(hg:g<w.heap.size)(hcap:2≤cap)(hm:cap≤9223372036854775807)(k0:w.cell? ⟨g,0,none⟩=some (.slice A0 m0 c0))(k1:w.cell? ⟨g,1,none⟩=some (.slice A1 m1 c1))(k2:w.cell? ⟨g,2,none⟩=some (.slice B0 n0 d0))(k3:w.cell? ⟨g,3,none⟩=some (.slice B1 n1 d1))(f2:w.frozen? ⟨g,2,none⟩=false)(f3:w.frozen? ⟨g,3,none⟩=false)(hc0:∀ W,Below w.heap.size w W→Calls Tryz.prog 181 #[.agg #[.slice B0 n0 d0,.slice B1 n1 d1],.agg #[.slice A0 m0 c0,.slice A1 m1 c1]] W fun e w'=>e = .returned (.bool true)∧Below w.heap.size w w') :
    Calls Tryz.prog 180 #[.slice (some ⟨g,0,none⟩) 2 cap,.func (.func 181) #[] #[]] w fun e w'=>e = .returned (.slice (some ⟨g,0,none⟩) 1 cap)∧∃ W,Below w.heap.size w W∧w'=W.setCells g 2 [.slice none 0 0,.slice none 0 0]:=by
  have HB:=am (Below.refl w.heap.size w);have HC0:=am hc0;clear hc0;have kk0:=k0;have kk1:=k1;have kk2:=k2;have kk3:=k3;have ff2:=f2;have ff3:=f3;have hW0:IntKind.i64.wrap 0=0:=by decide
  have hW1:IntKind.i64.wrap 1=1:=by decide
  have hcl:∀ W,Below w.heap.size w W→∀ c,Sem.run Tryz.prog (Builtin.clear_ #[45] 0 #[.slice (some ⟨g,2,none⟩) 1 c]) W = .ok (.tuple #[]) (W.setCells g 2 [.slice none 0 0,.slice none 0 0]):=fun W hW c =>
    run_clear_slice (z:=.agg #[.slice none 0 0,.slice none 0 0]) (n:=1) Tryz.underlying45 Tryz.zeroValue29 (by decide) (by kernel_rfl) (fun j hj=>by
      have hj:j<2:=hj;have hx:∀ p:Addr,p.block=g→W.cell? p=w.cell? p:=fun p hp=>hW.cell (by rw [hp];exact hg)
      match j, hj with
      | 0, _ => rw [hx _ rfl]; simp [k2]
      | 1,_=>rw [hx _ rfl];simp [k3]
      ) (fun j hj=>by
      have hj:j<2:=hj;have hx:∀ p:Addr,p.block=g→W.frozen? p=w.frozen? p:=fun p hp=>hW.frozen (by rw [hp];exact hg)
      match j, hj with
      | 0, _ => rw [hx _ rfl]; simpa using f2
      | 1,_=>rw [hx _ rfl];simpa using f3
      ) (fun v hv=>by
      have hv:v ∈ [Value.slice none 0 0,Value.slice none 0 0]:=hv;simp only [List.mem_cons,List.not_mem_nil,or_false] at hv;rcases hv with rfl|rfl <;> rfl)
  go_enter Tryz.func180,Tryz.ntmps180;go_wp2;refine wp_loop_rounds 2 ?_;rw [rounds_succ];go_wp2;go_still_tail 10,(by kernel_rfl)
  change wpList _ _ _ _ _ w.drew
  go_wp2_with (first|((with_reducible refine gate_callee_d (f:=181) rfl ?_);refine goesLd_ _ rfl rfl Tryz.func181 (by kernel_rfl) rfl #[.agg #[.slice B0 n0 d0,.slice B1 n1 d1],.agg #[.slice A0 m0 c0,.slice A1 m1 c1]] rfl (by (try simp only [List.map_toArray,List.map_cons,List.map_nil]);first|done|rfl) ?_;refine(HC0.out _ (zb)).mono ?_;rintro e w7 ⟨rfl,hb⟩;refine⟨_,rfl,?_⟩;clear HB;have HB:=am hb;replace k0:=(hb.cell (Qk w _ kk0)).trans kk0;replace k1:=(hb.cell (Qk w _ kk1)).trans kk1;replace k2:=(hb.cell (Qk w _ kk2)).trans kk2;replace k3:=(hb.cell (Qk w _ kk3)).trans kk3;clear hb))
  have hcl':=fun c=>hcl w7 HB.out c
  go_wp2;refine wp_loop_rounds 1 ?_;rw [rounds_succ];go_wp2;go_ret;exact⟨rfl,w7,HB.out,rfl⟩
theorem compactSe_3ny(cap:Nat)(hg:g<w.heap.size)(hcap:3≤cap)(hm:cap≤9223372036854775807)(k0:w.cell? ⟨g,0,none⟩=some (.slice A0 m0 c0))(k1:w.cell? ⟨g,1,none⟩=some (.slice A1 m1 c1))(k2:w.cell? ⟨g,2,none⟩=some (.slice B0 n0 d0))(k3:w.cell? ⟨g,3,none⟩=some (.slice B1 n1 d1))(k4:w.cell? ⟨g,4,none⟩=some (.slice D0 q0 e0))(k5:w.cell? ⟨g,5,none⟩=some (.slice D1 q1 e1))(f2:w.frozen? ⟨g,2,none⟩=false)(f3:w.frozen? ⟨g,3,none⟩=false)(f4:w.frozen? ⟨g,4,none⟩=false)(f5:w.frozen? ⟨g,5,none⟩=false)(hc0:∀ W,Below w.heap.size w W→Calls Tryz.prog 181 #[.agg #[.slice B0 n0 d0,.slice B1 n1 d1],.agg #[.slice A0 m0 c0,.slice A1 m1 c1]] W fun e w'=>e = .returned (.bool false)∧Below w.heap.size w w')(hc1:∀ W,Below w.heap.size w W→Calls Tryz.prog 181 #[.agg #[.slice D0 q0 e0,.slice D1 q1 e1],.agg #[.slice B0 n0 d0,.slice B1 n1 d1]] W fun e w'=>e = .returned (.bool true)∧Below w.heap.size w w') :
    Calls Tryz.prog 180 #[.slice (some ⟨g,0,none⟩) 3 cap,.func (.func 181) #[] #[]] w fun e w'=>e = .returned (.slice (some ⟨g,0,none⟩) 2 cap)∧∃ W,Below w.heap.size w W∧w'=W.setCells g 4 [.slice none 0 0,.slice none 0 0]:=by
  have HB:=am (Below.refl w.heap.size w);have HC0:=am hc0;clear hc0;have HC1:=am hc1;clear hc1;have kk0:=k0;have kk1:=k1;have kk2:=k2;have kk3:=k3;have kk4:=k4;have kk5:=k5;have ff2:=f2;have ff3:=f3;have ff4:=f4;have ff5:=f5;have hW0:IntKind.i64.wrap 0=0:=by decide
  have hW1:IntKind.i64.wrap 1=1:=by decide
  have hcl:∀ W,Below w.heap.size w W→∀ c,Sem.run Tryz.prog (Builtin.clear_ #[45] 0 #[.slice (some ⟨g,4,none⟩) 1 c]) W = .ok (.tuple #[]) (W.setCells g 4 [.slice none 0 0,.slice none 0 0]):=fun W hW c =>
    run_clear_slice (z:=.agg #[.slice none 0 0,.slice none 0 0]) (n:=1) Tryz.underlying45 Tryz.zeroValue29 (by decide) (by kernel_rfl) (fun j hj=>by
      have hj:j<2:=hj;have hx:∀ p:Addr,p.block=g→W.cell? p=w.cell? p:=fun p hp=>hW.cell (by rw [hp];exact hg)
      match j, hj with
      | 0, _ => rw [hx _ rfl]; simp [k4]
      | 1,_=>rw [hx _ rfl];simp [k5]
      ) (fun j hj=>by
      have hj:j<2:=hj;have hx:∀ p:Addr,p.block=g→W.frozen? p=w.frozen? p:=fun p hp=>hW.frozen (by rw [hp];exact hg)
      match j, hj with
      | 0, _ => rw [hx _ rfl]; simpa using f4
      | 1,_=>rw [hx _ rfl];simpa using f5
      ) (fun v hv=>by
      have hv:v ∈ [Value.slice none 0 0,Value.slice none 0 0]:=hv;simp only [List.mem_cons,List.not_mem_nil,or_false] at hv;rcases hv with rfl|rfl <;> rfl)
  go_enter Tryz.func180,Tryz.ntmps180;go_wp2;refine wp_loop_rounds 3 ?_;rw [rounds_succ];go_wp2;go_still_tail 10,(by kernel_rfl)
  change wpList _ _ _ _ _ w.drew
  go_wp2_with (first|((with_reducible refine gate_callee_d (f:=181) rfl ?_);refine goesLd_ _ rfl rfl Tryz.func181 (by kernel_rfl) rfl #[.agg #[.slice B0 n0 d0,.slice B1 n1 d1],.agg #[.slice A0 m0 c0,.slice A1 m1 c1]] rfl (by (try simp only [List.map_toArray,List.map_cons,List.map_nil]);first|done|rfl) ?_;refine(HC0.out _ (zb)).mono ?_;rintro e w7 ⟨rfl,hb⟩;refine⟨_,rfl,?_⟩;clear HB;have HB:=am hb;replace k0:=(hb.cell (Qk w _ kk0)).trans kk0;replace k1:=(hb.cell (Qk w _ kk1)).trans kk1;replace k2:=(hb.cell (Qk w _ kk2)).trans kk2;replace k3:=(hb.cell (Qk w _ kk3)).trans kk3;replace k4:=(hb.cell (Qk w _ kk4)).trans kk4;replace k5:=(hb.cell (Qk w _ kk5)).trans kk5;clear hb))
  rw [rounds_succ];go_wp2;go_still_tail 10,(by kernel_rfl)
  change wpList _ _ _ _ _ w7.drew
  go_wp2_with (first|((with_reducible refine gate_callee_d (f:=181) rfl ?_);refine goesLd_ _ rfl rfl Tryz.func181 (by kernel_rfl) rfl #[.agg #[.slice D0 q0 e0,.slice D1 q1 e1],.agg #[.slice B0 n0 d0,.slice B1 n1 d1]] rfl (by (try simp only [List.map_toArray,List.map_cons,List.map_nil]);first|done|rfl) ?_;refine(HC1.out _ (zb)).mono ?_;rintro e w8 ⟨rfl,hb⟩;refine⟨_,rfl,?_⟩;clear HB;have HB:=am hb;replace k0:=(hb.cell (Qk w _ kk0)).trans kk0;replace k1:=(hb.cell (Qk w _ kk1)).trans kk1;replace k2:=(hb.cell (Qk w _ kk2)).trans kk2;replace k3:=(hb.cell (Qk w _ kk3)).trans kk3;replace k4:=(hb.cell (Qk w _ kk4)).trans kk4;replace k5:=(hb.cell (Qk w _ kk5)).trans kk5;clear hb))
  have hcl':=fun c=>hcl w8 HB.out c
  go_wp2;refine wp_loop_rounds 1 ?_;rw [rounds_succ];go_wp2;go_ret;exact⟨rfl,w8,HB.out,rfl⟩
theorem compactSe_3yy(cap:Nat)(hg:g<w.heap.size)(hcap:3≤cap)(hm:cap≤9223372036854775807)(k0:w.cell? ⟨g,0,none⟩=some (.slice A0 m0 c0))(k1:w.cell? ⟨g,1,none⟩=some (.slice A1 m1 c1))(k2:w.cell? ⟨g,2,none⟩=some (.slice B0 n0 d0))(k3:w.cell? ⟨g,3,none⟩=some (.slice B1 n1 d1))(k4:w.cell? ⟨g,4,none⟩=some (.slice D0 q0 e0))(k5:w.cell? ⟨g,5,none⟩=some (.slice D1 q1 e1))(f2:w.frozen? ⟨g,2,none⟩=false)(f3:w.frozen? ⟨g,3,none⟩=false)(f4:w.frozen? ⟨g,4,none⟩=false)(f5:w.frozen? ⟨g,5,none⟩=false)(hc0:∀ W,Below w.heap.size w W→Calls Tryz.prog 181 #[.agg #[.slice B0 n0 d0,.slice B1 n1 d1],.agg #[.slice A0 m0 c0,.slice A1 m1 c1]] W fun e w'=>e = .returned (.bool true)∧Below w.heap.size w w')(hc1:∀ W,Below w.heap.size w W→Calls Tryz.prog 181 #[.agg #[.slice D0 q0 e0,.slice D1 q1 e1],.agg #[.slice B0 n0 d0,.slice B1 n1 d1]] W fun e w'=>e = .returned (.bool true)∧Below w.heap.size w w') :
    Calls Tryz.prog 180 #[.slice (some ⟨g,0,none⟩) 3 cap,.func (.func 181) #[] #[]] w fun e w'=>e = .returned (.slice (some ⟨g,0,none⟩) 1 cap)∧∃ W,Below w.heap.size w W∧w'=W.setCells g 2 [.slice none 0 0,.slice none 0 0,.slice none 0 0,.slice none 0 0]:=by
  have HB:=am (Below.refl w.heap.size w);have HC0:=am hc0;clear hc0;have HC1:=am hc1;clear hc1;have kk0:=k0;have kk1:=k1;have kk2:=k2;have kk3:=k3;have kk4:=k4;have kk5:=k5;have ff2:=f2;have ff3:=f3;have ff4:=f4;have ff5:=f5;have hW0:IntKind.i64.wrap 0=0:=by decide
  have hW1:IntKind.i64.wrap 1=1:=by decide
  have hcl:∀ W,Below w.heap.size w W→∀ c,Sem.run Tryz.prog (Builtin.clear_ #[45] 0 #[.slice (some ⟨g,2,none⟩) 2 c]) W = .ok (.tuple #[]) (W.setCells g 2 [.slice none 0 0,.slice none 0 0,.slice none 0 0,.slice none 0 0]):=fun W hW c =>
    run_clear_slice (z:=.agg #[.slice none 0 0,.slice none 0 0]) (n:=2) Tryz.underlying45 Tryz.zeroValue29 (by decide) (by kernel_rfl) (fun j hj=>by
      have hj:j<4:=hj;have hx:∀ p:Addr,p.block=g→W.cell? p=w.cell? p:=fun p hp=>hW.cell (by rw [hp];exact hg)
      match j, hj with
      | 0, _ => rw [hx _ rfl]; simp [k2]
      | 1, _ => rw [hx _ rfl]; simp [k3]
      | 2, _ => rw [hx _ rfl]; simp [k4]
      | 3,_=>rw [hx _ rfl];simp [k5]
      ) (fun j hj=>by
      have hj:j<4:=hj;have hx:∀ p:Addr,p.block=g→W.frozen? p=w.frozen? p:=fun p hp=>hW.frozen (by rw [hp];exact hg)
      match j, hj with
      | 0, _ => rw [hx _ rfl]; simpa using f2
      | 1, _ => rw [hx _ rfl]; simpa using f3
      | 2, _ => rw [hx _ rfl]; simpa using f4
      | 3,_=>rw [hx _ rfl];simpa using f5
      ) (fun v hv=>by
      have hv:v ∈ [Value.slice none 0 0,Value.slice none 0 0,Value.slice none 0 0,Value.slice none 0 0]:=hv;simp only [List.mem_cons,List.not_mem_nil,or_false] at hv;rcases hv with rfl|rfl|rfl|rfl <;> rfl)
  go_enter Tryz.func180,Tryz.ntmps180;go_wp2;refine wp_loop_rounds 3 ?_;rw [rounds_succ];go_wp2;go_still_tail 10,(by kernel_rfl)
  change wpList _ _ _ _ _ w.drew
  go_wp2_with (first|((with_reducible refine gate_callee_d (f:=181) rfl ?_);refine goesLd_ _ rfl rfl Tryz.func181 (by kernel_rfl) rfl #[.agg #[.slice B0 n0 d0,.slice B1 n1 d1],.agg #[.slice A0 m0 c0,.slice A1 m1 c1]] rfl (by (try simp only [List.map_toArray,List.map_cons,List.map_nil]);first|done|rfl) ?_;refine(HC0.out _ (zb)).mono ?_;rintro e w7 ⟨rfl,hb⟩;refine⟨_,rfl,?_⟩;clear HB;have HB:=am hb;replace k0:=(hb.cell (Qk w _ kk0)).trans kk0;replace k1:=(hb.cell (Qk w _ kk1)).trans kk1;replace k2:=(hb.cell (Qk w _ kk2)).trans kk2;replace k3:=(hb.cell (Qk w _ kk3)).trans kk3;replace k4:=(hb.cell (Qk w _ kk4)).trans kk4;replace k5:=(hb.cell (Qk w _ kk5)).trans kk5;clear hb))
  go_wp2;refine wp_loop_rounds 2 ?_;rw [rounds_succ];go_wp2;go_still_tail 10,(by kernel_rfl)
  change wpList _ _ _ _ _ w7.drew
  go_wp2_with (first|((with_reducible refine gate_callee_d (f:=181) rfl ?_);refine goesLd_ _ rfl rfl Tryz.func181 (by kernel_rfl) rfl #[.agg #[.slice D0 q0 e0,.slice D1 q1 e1],.agg #[.slice B0 n0 d0,.slice B1 n1 d1]] rfl (by (try simp only [List.map_toArray,List.map_cons,List.map_nil]);first|done|rfl) ?_;refine(HC1.out _ (zb)).mono ?_;rintro e w8 ⟨rfl,hb⟩;refine⟨_,rfl,?_⟩;clear HB;have HB:=am hb;replace k0:=(hb.cell (Qk w _ kk0)).trans kk0;replace k1:=(hb.cell (Qk w _ kk1)).trans kk1;replace k2:=(hb.cell (Qk w _ kk2)).trans kk2;replace k3:=(hb.cell (Qk w _ kk3)).trans kk3;replace k4:=(hb.cell (Qk w _ kk4)).trans kk4;replace k5:=(hb.cell (Qk w _ kk5)).trans kk5;clear hb))
  have hcl':=fun c=>hcl w8 HB.out c
  rw [rounds_succ];go_wp2;go_ret;exact⟨rfl,w8,HB.out,rfl⟩
theorem compactSe_3yn(cap:Nat)(hg:g<w.heap.size)(hcap:3≤cap)(hm:cap≤9223372036854775807)(k0:w.cell? ⟨g,0,none⟩=some (.slice A0 m0 c0))(k1:w.cell? ⟨g,1,none⟩=some (.slice A1 m1 c1))(k2:w.cell? ⟨g,2,none⟩=some (.slice B0 n0 d0))(k3:w.cell? ⟨g,3,none⟩=some (.slice B1 n1 d1))(k4:w.cell? ⟨g,4,none⟩=some (.slice D0 q0 e0))(k5:w.cell? ⟨g,5,none⟩=some (.slice D1 q1 e1))(f2:w.frozen? ⟨g,2,none⟩=false)(f3:w.frozen? ⟨g,3,none⟩=false)(f4:w.frozen? ⟨g,4,none⟩=false)(f5:w.frozen? ⟨g,5,none⟩=false)(hc0:∀ W,Below w.heap.size w W→Calls Tryz.prog 181 #[.agg #[.slice B0 n0 d0,.slice B1 n1 d1],.agg #[.slice A0 m0 c0,.slice A1 m1 c1]] W fun e w'=>e = .returned (.bool true)∧Below w.heap.size w w')(hc1:∀ W,Below w.heap.size w W→Calls Tryz.prog 181 #[.agg #[.slice D0 q0 e0,.slice D1 q1 e1],.agg #[.slice B0 n0 d0,.slice B1 n1 d1]] W fun e w'=>e = .returned (.bool false)∧Below w.heap.size w w') :
    Calls Tryz.prog 180 #[.slice (some ⟨g,0,none⟩) 3 cap,.func (.func 181) #[] #[]] w fun e w'=>e = .returned (.slice (some ⟨g,0,none⟩) 2 cap)∧∃ W,Below w.heap.size w W∧w'=(W.setCells g 2 [.slice D0 q0 e0,.slice D1 q1 e1]).setCells g 4 [.slice none 0 0,.slice none 0 0]:=by
  have HB:=am (Below.refl w.heap.size w);have HC0:=am hc0;clear hc0;have HC1:=am hc1;clear hc1;have kk0:=k0;have kk1:=k1;have kk2:=k2;have kk3:=k3;have kk4:=k4;have kk5:=k5;have ff2:=f2;have ff3:=f3;have ff4:=f4;have ff5:=f5;have hW0:IntKind.i64.wrap 0=0:=by decide
  have hW1:IntKind.i64.wrap 1=1:=by decide
  have hcl:∀ W:World,W.cell? ⟨g,4,none⟩=some (.slice D0 q0 e0)→W.cell? ⟨g,5,none⟩=some (.slice D1 q1 e1)→W.frozen? ⟨g,4,none⟩=false→W.frozen? ⟨g,5,none⟩=false→∀ c,Sem.run Tryz.prog (Builtin.clear_ #[45] 0 #[.slice (some ⟨g,4,none⟩) 1 c]) W = .ok (.tuple #[]) (W.setCells g 4 [.slice none 0 0,.slice none 0 0]):=fun W h4 h5 i4 i5 c =>
    run_clear_slice (z:=.agg #[.slice none 0 0,.slice none 0 0]) (n:=1) Tryz.underlying45 Tryz.zeroValue29 (by decide) (by kernel_rfl) (fun j hj=>by
      have hj:j<2:=hj
      match j, hj with
      | 0, _ => simp [h4]
      | 1,_=>simp [h5]
      ) (fun j hj=>by
      have hj:j<2:=hj
      match j, hj with
      | 0, _ => simpa using i4
      | 1,_=>simpa using i5
      ) (fun v hv=>by
      have hv:v ∈ [Value.slice none 0 0,Value.slice none 0 0]:=hv;simp only [List.mem_cons,List.not_mem_nil,or_false] at hv;rcases hv with rfl|rfl <;> rfl)
  go_enter Tryz.func180,Tryz.ntmps180;go_wp2;refine wp_loop_rounds 3 ?_;rw [rounds_succ];go_wp2;go_still_tail 10,(by kernel_rfl)
  change wpList _ _ _ _ _ w.drew
  go_wp2_with (first|((with_reducible refine gate_callee_d (f:=181) rfl ?_);refine goesLd_ _ rfl rfl Tryz.func181 (by kernel_rfl) rfl #[.agg #[.slice B0 n0 d0,.slice B1 n1 d1],.agg #[.slice A0 m0 c0,.slice A1 m1 c1]] rfl (by (try simp only [List.map_toArray,List.map_cons,List.map_nil]);first|done|rfl) ?_;refine(HC0.out _ (zb)).mono ?_;rintro e w7 ⟨rfl,hb⟩;refine⟨_,rfl,?_⟩;clear HB;have HB:=am hb;replace k0:=(hb.cell (Qk w _ kk0)).trans kk0;replace k1:=(hb.cell (Qk w _ kk1)).trans kk1;replace k2:=(hb.cell (Qk w _ kk2)).trans kk2;replace k3:=(hb.cell (Qk w _ kk3)).trans kk3;replace k4:=(hb.cell (Qk w _ kk4)).trans kk4;replace k5:=(hb.cell (Qk w _ kk5)).trans kk5;clear hb))
  go_wp2;refine wp_loop_rounds 2 ?_;rw [rounds_succ];go_wp2;go_still_tail 10,(by kernel_rfl)
  change wpList _ _ _ _ _ w7.drew
  go_wp2_with (first|((with_reducible refine gate_callee_d (f:=181) rfl ?_);refine goesLd_ _ rfl rfl Tryz.func181 (by kernel_rfl) rfl #[.agg #[.slice D0 q0 e0,.slice D1 q1 e1],.agg #[.slice B0 n0 d0,.slice B1 n1 d1]] rfl (by (try simp only [List.map_toArray,List.map_cons,List.map_nil]);first|done|rfl) ?_;refine(HC1.out _ (zb)).mono ?_;rintro e w8 ⟨rfl,hb⟩;refine⟨_,rfl,?_⟩;clear HB;have HB:=am hb;replace k0:=(hb.cell (Qk w _ kk0)).trans kk0;replace k1:=(hb.cell (Qk w _ kk1)).trans kk1;replace k2:=(hb.cell (Qk w _ kk2)).trans kk2;replace k3:=(hb.cell (Qk w _ kk3)).trans kk3;replace k4:=(hb.cell (Qk w _ kk4)).trans kk4;replace k5:=(hb.cell (Qk w _ kk5)).trans kk5;replace f2:=(hb.frozen (p:=⟨g,2,none⟩) hg).trans ff2;replace f3:=(hb.frozen (p:=⟨g,3,none⟩) hg).trans ff3;replace f4:=(hb.frozen (p:=⟨g,4,none⟩) hg).trans ff4;replace f5:=(hb.frozen (p:=⟨g,5,none⟩) hg).trans ff5;clear hb))
  have hcl':=fun c=>hcl ((w8.setCell ⟨g,2,none⟩ (.slice D0 q0 e0)).setCell ⟨g,3,none⟩ (.slice D1 q1 e1)) (by go_simp) (by go_simp) (by go_simp) (by go_simp) c
  go_wp2;rw [rounds_succ];go_wp2;go_ret;exact⟨rfl,w8,HB.out,rfl⟩
end
theorem own_put{w:World}{base e k n cap g o:Nat}{inner:List Value}{u:Value}(h:w.ownsRow base e k (.slice (some ⟨g,0,none⟩) n cap) n inner) :
    (w.setCell ⟨g,o,none⟩ u).ownsRow base e k (.slice (some ⟨g,0,none⟩) n cap) n (inner.set o u):=by
  obtain⟨hlen,h2⟩:=h;rcases h2 with ⟨he,_⟩ | ⟨g',cap',cur,he,hb,hh,hnc,hcm,hcs,htk⟩
  · cases he
  injection he with he1 he2 he3;injection he1 with he1;injection he1 with he1;subst he1;subst he3;have h3:(w.setCell ⟨g,o,none⟩ u).heap[g]? = some (.cells (cur.setIfInBounds o u) e (0,0)):=by
    show (w.heap.modify g _)[g]? = _
    rw [Array.getElem?_modify,if_pos rfl,hh];rfl
  refine⟨by rw [List.length_set];exact hlen,.inr ⟨g,cap,_,rfl,hb,h3,hnc,hcm,by simpa using hcs,?_⟩⟩;rw [Array.toList_setIfInBounds,← htk,List.take_set]
theorem S_packs{base:Nat}{ok:Nat→Prop}{v:Value}{xs:List S29}{w:World}(hS:Kd.S k29 29 w base ok v xs)(h0:xs ≠ []) :
    ∃ (g cap : Nat) (f : Nat → Nat) (α : Type) (_ : Inhabited α) (enc : α → List Value) (val : α → S29) (idx : α → Nat) (ps : List α),
      v = .slice (some ⟨g,0,none⟩) xs.length cap∧base≤g∧g<w.heap.size∧ok g ∧
      (∀ x,k29.M w base (fun k=>(ok k∧k≠g)∧f k=idx x) (val x) (enc x))∧w.ownsRow base 29 2 (.slice (some ⟨g,0,none⟩) xs.length cap) xs.length (ps.flatMap enc) ∧
      ps.map val=xs∧ps.map idx=List.range xs.length∧ps.length=xs.length:=by
  have hpos:0<xs.length:=List.length_pos_iff.2 h0;obtain⟨f,hP,inner,hown,hrep⟩:=hS;rw [List.length_zipIdx] at hown;obtain⟨g,cap,rfl,hb,hlt⟩:=hown.form hpos;rw [ownBlock_row] at hP;obtain⟨ps,hps1,rfl⟩:=packs _ _ hrep;have hpl:ps.length=xs.length:=by have:=congrArg List.length hps1;simpa using this
  have hval:ps.map (fun p=>p.1.1.1)=xs:=by
    have:=congrArg (List.map Prod.fst) hps1;rw [List.map_map] at this;simpa [Function.comp_def] using this
  have hidx0:ps.map (fun p=>p.1.1.2)=List.range xs.length:=by
    have:=congrArg (List.map Prod.snd) hps1;rw [List.map_map] at this;have h5:xs.zipIdx.map Prod.snd=List.range xs.length:=by rw [List.zipIdx_map_snd];simp [List.range_eq_range']
    rw [h5] at this;simpa [Function.comp_def] using this
  have hne:Nonempty { p:(S29 × Nat) × List Value // (Kd.tag f k29).M w base (fun k=>ok k∧some k≠(Value.slice (some ⟨g,0,none⟩) xs.length cap).ownBlock) p.1 p.2 }:=by
    cases ps with
    | nil => simp at hpl; omega
    | cons p _=>exact ⟨p⟩
  have hown:w.ownsRow base 29 2 (.slice (some ⟨g,0,none⟩) xs.length cap) xs.length (ps.flatMap fun p=>p.1.2):=hown;refine⟨g,cap,f,_,⟨Classical.choice hne⟩,fun p=>p.1.2,fun p=>p.1.1.1,fun p=>p.1.1.2,ps,rfl,hb,hlt,hP g rfl,fun x=>?_,hown,hval,hidx0,hpl⟩;refine k29.M_mono (fun k hk=>⟨⟨hk.1.1,fun e=>hk.1.2 ?_⟩,hk.2⟩) x.2;rw [ownBlock_row,e]
theorem S_of_packs{base g cap:Nat}{ok:Nat→Prop}{f:Nat→Nat}{w w':World}{α:Type}[Inhabited α]{enc:α→List Value}{val:α→S29}{idx:α→Nat}(hM:∀ x,k29.M w base (fun k=>(ok k∧k≠g)∧f k=idx x) (val x) (enc x)){d:List α}(hnd:(d.map idx).Nodup){n:Nat}(hn:d.length=n)(hown:w'.ownsRow base 29 2 (.slice (some ⟨g,0,none⟩) n cap) n (d.flatMap enc))(hgr:w.grownBy w' (some g))(hg:ok g) :
    Kd.S k29 29 w' base ok (.slice (some ⟨g,0,none⟩) n cap) (d.map val):=by
  subst hn;refine⟨fun k=>(d.map idx).idxOf (f k),?_,d.flatMap enc,?_,?_⟩
  · rw [ownBlock_row];rintro k e;injection e with e;rw [← e];exact hg
  · rw [List.length_zipIdx,List.length_map];exact hown
  refine reps_flat_at (fun x=>k29.K_len (k29.K_of_M (hM x))) _ _ (by simp) (fun j hj z hz=>?_);have hz':z=(val (d[j]),j):=by
    rw [List.getElem?_zipIdx,List.getElem?_map,List.getElem?_eq_getElem hj] at hz;simpa using hz.symm
  subst hz';have hM2:=Kd.M_step (hM d[j]) (fun k hk' hkl=>hgr.block k hkl (fun e=>hk'.1.2 (Qd e)));refine k29.M_mono (fun k hk'=>⟨⟨hk'.1.1,fun e=>hk'.1.2 (Qd e)⟩,?_⟩) hM2
  show (d.map idx).idxOf (f k)=j
  rw [hk'.2];have hj2:j<(d.map idx).length:=by simpa using hj
  have h5:idx d[j]=(d.map idx)[j]:=by simp
  rw [h5];exact hnd.idxOf_getElem j hj2
theorem compactSe_short(A:Option Addr)(n cap:Nat)(w:World)(hn:n<2):Calls Tryz.prog 180 #[.slice A n cap,.func (.func 181) #[] #[]] w fun e w'=>e = .returned (.slice A n cap)∧w=w':=by
  have h2:(n:Int)<2:=by omega
  go_enter Tryz.func180,Tryz.ntmps180;go_wp2;go_ret;exact⟨rfl,rfl⟩
section
variable{α : Type}[Inhabited α]{enc : α → List Value}{val : α → S29}{oka : α → Nat → Prop}{w : World}{base g cap : Nat}
omit [Inhabited α] in
theorem eqSe_packs(hM:∀ x:α,k29.M w base (oka x) (val x) (enc x))(x y:α):∃ A0 m0 c0 A1 m1 c1 B0 n0 d0 B1 n1 d1,enc x=[.slice A0 m0 c0,.slice A1 m1 c1]∧enc y=[.slice B0 n0 d0,.slice B1 n1 d1] ∧
    ∀ W,Below w.heap.size w W→Calls Tryz.prog 181 #[.agg #[.slice A0 m0 c0,.slice A1 m1 c1],.agg #[.slice B0 n0 d0,.slice B1 n1 d1]] W fun e w'=>e = .returned (.bool (eqSe (val x) (val y)))∧Below w.heap.size w w':=by
  obtain⟨A0,c0,A1,c1,e1,l0,r0,l1,r1⟩:=k29_open (k29.K_of_M (hM x));obtain⟨B0,d0,B1,d1,e2,m0,s0,m1,s1⟩:=k29_open (k29.K_of_M (hM y));refine⟨A0,_,c0,A1,_,c1,B0,_,d0,B1,_,d1,e1,e2,fun W hW=>?_⟩;refine(eqSe_calls l0 (Kd.C_below r0 hW) l1 (Kd.C_below r1 hW) m0 (Kd.C_below s0 hW) m1 (Kd.C_below s1 hW)).mono ?_;rintro e w' ⟨h1,h2⟩;exact⟨h1,below_step hW h2⟩
theorem grown_step{w W w':World}{g:Nat}(h:Below w.heap.size w W)(h2:W.grownBy w' (some g)):w.grownBy w' (some g):=(grown_of_below h (some g)).trans h2
omit [Inhabited α] in
theorem compactSe_core(hM : ∀ x : α, k29.M w base (oka x) (val x) (enc x))(ps : List α)(hsz : ps.length ≤ 3)(h0 : ps ≠ [])(hown:w.ownsRow base 29 2 (.slice (some ⟨g,0,none⟩) ps.length cap) ps.length (ps.flatMap enc))(hlt:g<w.heap.size) :
    Calls Tryz.prog 180 #[.slice (some ⟨g,0,none⟩) ps.length cap,.func (.func 181) #[] #[]] w fun e w' => ∃ d:List α,e = .returned (.slice (some ⟨g,0,none⟩) d.length cap)∧d.Sublist ps∧d.map val=compactL eqSe (ps.map val) ∧
      w'.ownsRow base 29 2 (.slice (some ⟨g,0,none⟩) d.length cap) d.length (d.flatMap enc)∧w.grownBy w' (some g):=by
  have hcap:=own_le hown;have hcm:cap≤9223372036854775807:=by
    rcases hown.2 with ⟨he,_⟩ | ⟨_,_,_,he,_,_,_,hcm,_⟩
    · cases he
    injection he with _ _ he3;subst he3;exact hcm
  have hcells:=fun j u=>hown.cells (g:=g) rfl j u
  simp only [add_plain] at hcells;have hfr:∀ j,w.frozen? ⟨g,j,none⟩=false:=by
    intro j;obtain⟨cells,hcb⟩:=own_typed hown g (by simp [Value.ownBlock]);simp [World.frozen?,hcb]
  match ps, hsz, h0 with
  | [x], _, _ =>
    refine(compactSe_short _ _ _ w (by simp)).mono ?_;rintro e' w' ⟨rfl,rfl⟩
    exact ⟨[x], rfl, List.Sublist.refl _, rfl, hown, World.grownBy.refl _ _⟩
  | [x, y], _, _ =>
    obtain⟨B0,n0,d0,B1,n1,d1,A0,m0,c0,A1,m1,c1,ey,ex,hc⟩:=eqSe_packs hM y x;simp only [List.flatMap_cons,List.flatMap_nil,ex,ey,List.cons_append,List.nil_append,List.append_nil] at hcells
    cases hb : eqSe (val y) (val x) with
    | false =>
      rw [hb] at hc;refine(compactSe_2n cap hlt hcap hcm (hcells 0 _ rfl) (hcells 1 _ rfl) (hcells 2 _ rfl) (hcells 3 _ rfl) hc).mono ?_;rintro e' w' ⟨rfl,hW⟩
      exact ⟨[x, y], rfl, List.Sublist.refl _, by simp [compactL, compactFrom, hb], pw_own_below hown hW, grown_of_below hW _⟩
    | true =>
      rw [hb] at hc;refine(compactSe_2y cap hlt hcap hcm (hcells 0 _ rfl) (hcells 1 _ rfl) (hcells 2 _ rfl) (hcells 3 _ rfl) (hfr _) (hfr _) hc).mono ?_;rintro e' w' ⟨rfl,W,hW,rfl⟩;refine⟨[x],rfl,by simp,by simp [compactL,compactFrom,hb],?_,grown_step hW (grown_setCells _ _ _ _)⟩;have h:=own_cut (n':=1) (o:=2) (vs:=[.slice none 0 0,.slice none 0 0]) (pw_own_below hown hW) (by simp) (by decide)
      simpa [ex] using h
  | [x, y, z], _, _ =>
    obtain⟨B0,n0,d0,B1,n1,d1,A0,m0,c0,A1,m1,c1,ey,ex,hc⟩:=eqSe_packs hM y x;obtain⟨D0,q0,e0,D1,q1,e1,B0',n0',d0',B1',n1',d1',ez,ey',hc2⟩:=eqSe_packs hM z y;rw [ey] at ey';injection ey' with ey1 ey';injection ey' with ey2 _;injection ey1 with a1 a2 a3;injection ey2 with a4 a5 a6;subst a1;subst a2;subst a3;subst a4;subst a5;subst a6;simp only [List.flatMap_cons,List.flatMap_nil,ex,ey,ez,List.cons_append,List.nil_append,List.append_nil] at hcells
    cases hb : eqSe (val y) (val x) with
    | false =>
      rw [hb] at hc
      cases hb2 : eqSe (val z) (val y) with
      | false =>
        rw [hb2] at hc2;refine(compactSe_3nn cap hlt hcap hcm (hcells 0 _ rfl) (hcells 1 _ rfl) (hcells 2 _ rfl) (hcells 3 _ rfl) (hcells 4 _ rfl) (hcells 5 _ rfl) hc hc2).mono ?_;rintro e' w' ⟨rfl,hW⟩
        exact ⟨[x, y, z], rfl, List.Sublist.refl _, by simp [compactL, compactFrom, hb, hb2], pw_own_below hown hW, grown_of_below hW _⟩
      | true =>
        rw [hb2] at hc2;refine(compactSe_3ny cap hlt hcap hcm (hcells 0 _ rfl) (hcells 1 _ rfl) (hcells 2 _ rfl) (hcells 3 _ rfl) (hcells 4 _ rfl) (hcells 5 _ rfl) (hfr _) (hfr _) (hfr _) (hfr _) hc hc2).mono ?_;rintro e' w' ⟨rfl,W,hW,rfl⟩;refine⟨[x,y],rfl,by simp,by simp [compactL,compactFrom,hb,hb2],?_,grown_step hW (grown_setCells _ _ _ _)⟩;have h:=own_cut (n':=2) (o:=4) (vs:=[.slice none 0 0,.slice none 0 0]) (pw_own_below hown hW) (by simp) (by decide)
        simpa [ex, ey, ez] using h
    | true =>
      rw [hb] at hc
      cases hb2 : eqSe (val z) (val y) with
      | false =>
        rw [hb2] at hc2;refine(compactSe_3yn cap hlt hcap hcm (hcells 0 _ rfl) (hcells 1 _ rfl) (hcells 2 _ rfl) (hcells 3 _ rfl) (hcells 4 _ rfl) (hcells 5 _ rfl) (hfr _) (hfr _) (hfr _) (hfr _) hc hc2).mono ?_;rintro e' w' ⟨rfl,W,hW,rfl⟩;refine⟨[x,z],rfl,by simp,by have hb3:=hb2;rw [eqSe_iff.1 hb] at hb3;simp [compactL,compactFrom,hb,hb3],?_,grown_step hW (((grown_setCells _ _ _ _)).trans (grown_setCells _ _ _ _))⟩;have h1:(W.setCells g 2 [.slice D0 q0 e0,.slice D1 q1 e1]).ownsRow base 29 2 _ _ _:=own_put (o:=3) (u:=.slice D1 q1 e1) (own_put (o:=2) (u:=.slice D0 q0 e0) (pw_own_below hown hW));have h:=own_cut (n':=2) (o:=4) (vs:=[.slice none 0 0,.slice none 0 0]) h1 (by simp) (by decide)
        simpa [ex, ey, ez] using h
      | true =>
        rw [hb2] at hc2;refine(compactSe_3yy cap hlt hcap hcm (hcells 0 _ rfl) (hcells 1 _ rfl) (hcells 2 _ rfl) (hcells 3 _ rfl) (hcells 4 _ rfl) (hcells 5 _ rfl) (hfr _) (hfr _) (hfr _) (hfr _) hc hc2).mono ?_;rintro e' w' ⟨rfl,W,hW,rfl⟩;refine⟨[x],rfl,by simp,by have hb3:=hb2;rw [eqSe_iff.1 hb] at hb3;simp [compactL,compactFrom,hb,hb3],?_,grown_step hW (grown_setCells _ _ _ _)⟩;have h:=own_cut (n':=1) (o:=2) (vs:=[.slice none 0 0,.slice none 0 0,.slice none 0 0,.slice none 0 0]) (pw_own_below hown hW) (by simp) (by decide);simpa [ex,ey,ez] using h
end
theorem compactSe_calls{base:Nat}{ok:Nat→Prop}{v:Value}{xs:List S29}{w:World}(hS:Kd.S k29 29 w base ok v xs)(hsz:xs.length≤3) :
    Calls Tryz.prog 180 #[v,.func (.func 181) #[] #[]] w fun e w' => ∃ v',e = .returned v'∧Kd.S k29 29 w' base ok v' (compactL eqSe xs)∧w.grownBy w' v.ownBlock∧v'.ownBlock=v.ownBlock:=by
  by_cases h0:xs=[]
  · subst h0
    obtain⟨A,c,rfl⟩:=Kd.S_slice hS;refine(compactSe_short A _ c w (by simp)).mono ?_;rintro e' w' ⟨rfl,rfl⟩;exact⟨_,rfl,hS,World.grownBy.refl _ _,rfl⟩
  obtain⟨g,cap,f,α,hα,enc,val,idx,ps,rfl,hb,hlt,hok,hM,hown,hv',hi',hl'⟩:=S_packs hS h0;have hown':=hown;rw [← hl'] at hown' ⊢;refine(compactSe_core hM ps (by omega) (fun e=>h0 (by rw [← hv',e];rfl)) hown' hlt).mono ?_;rintro e' w' ⟨d,rfl,hsub,hd,hown2,hgr⟩;refine⟨_,rfl,?_,hgr,rfl⟩;rw [hv'] at hd;rw [← hd];refine S_of_packs hM ?_ rfl hown2 hgr hok;have:=hsub.map idx;rw [hi'] at this;exact this.nodup List.nodup_range
end Go.Proofs.YtpbembafpnknhaaGreat.Pr
