/- Proof texts of one seat,in one file: the walks of functions and the lemmas under them,printed by programs and typed by hand. Put together by wip/bundle.py. -/
import Derived.Test.YtpbembafpnknhaaGreatRows
import Derived.ArgAppend
import Derived.Below
import Derived.BigQuiet
import Derived.ChangeArms
import Derived.ChangeOld
import Derived.ChangeSlices
import Derived.Deep.AppendLies
import Derived.Deep.CutBlock
import Derived.Deep.DeepCutAuto
import Derived.Deep.Draws
import Derived.Deep.LoopGhost
import Derived.Deep.OwnRows
import Derived.Deep.QuietTactic
import Derived.Deep.RegionHeld3
import Derived.Deep.RegionLawGrows
import Derived.Deep.Upon
import Derived.Ground.Names2Prog
import Derived.Ground.SlgfProg
import Derived.Ground.SlgnProg
import Derived.Ground.SlsfProg
import Derived.JoinedOf
import Derived.KernelRfl
import Derived.Laws.BitsLemmas
import Derived.Laws.BytesArg
import Derived.Laws.IdiomCopy
import Derived.Laws.MakeOwn
import Derived.Laws.OwnMore
import Derived.Laws.Rows
import Derived.Laws.Slices
import Derived.Laws.StructEq
import Derived.Lib.AppendStr
import Derived.Lib.ConvBytes
import Derived.Lib.Hide
import Derived.Maps.AppendAt
import Derived.OpenShut
import Derived.OrdersHeld
import Derived.OwnWalk
import Derived.ProofKit
import Derived.RowKit
import Derived.RowKit3
import Derived.Shelf.GgSortFunc.InsertionK
import Derived.Shelf.SlGeneric
import Derived.Shelf.SlSortCmp.NoneTotal
import Derived.Shelf.Slices.In.SortNone
import Derived.Shelf.SlicesE.Clone
import Derived.Shelf.SlicesQ.IndexFunc
import Derived.Shelf.Sort.Plain
import Derived.ShutString
import Derived.SizedLaws
import Derived.Sort.Grow
import Derived.Sort.Walk0
import Derived.StillTailTactics
import Derived.Tactics
import Derived.WalkKit
import Derived.WalkSpells
import Derived.WideLaws
import Derived.Test.YtpbembafpnknhaaGreatBNormOnce0
import Derived.Test.YtpbembafpnknhaaGreatBNormOnce1
import Derived.Test.YtpbembafpnknhaaGreatBNormOnce2
set_option maxHeartbeats 8000000
set_option maxRecDepth 100000
set_option linter.unusedVariables false
set_option linter.unusedSimpArgs false
set_option linter.unusedSectionVars false
namespace Go.Proofs.YtpbembafpnknhaaGreat.Pr
open Go.RowKit Go.Proofs.YtpbembafpnknhaaGreatW.PrintWords Go.Proofs.YtpbembafpnknhaaGreatW.PrintLast Go.Proofs.YtpbembafpnknhaaGreatW.PrintMore
def isL(c:Int):Bool:=(name_isLetter.f c).getD false
def isM(c:Int):Bool:=(name_isMore.f c).getD false
theorem isL_f(c:Int):name_isLetter.f c=some (isL c):=by
  unfold isL name_isLetter.f
  repeat' split
  all_goals rfl
theorem isM_f(c:Int):name_isMore.f c=some (isM c):=by
  unfold isM name_isMore.f;rw [isL_f];simp only [Option.bind_some]
  repeat' split
  all_goals rfl
theorem isL_calls(a:Int)(w:World):Calls Tryz.prog 208 #[.int .u8 a] w fun e w'=>e = .returned (.bool (isL a))∧Drawn0 w w':=name_isLetter.calls a _ w (isL_f a)
theorem isM_calls(a:Int)(w:World):Calls Tryz.prog 209 #[.int .u8 a] w fun e w'=>e = .returned (.bool (isM a))∧Drawn0 w w':=name_isMore.calls a _ w (isM_f a)
theorem size0{s:ByteArray}:s.toList=[]↔s.size=0:=by
  rw [ByteArray.toList_eq];exact⟨fun h=>by have:=congrArg List.length h;simpa using this,fun h=>List.eq_nil_of_length_eq_zero (by simpa using h)⟩
theorem nameIs_none(s:ByteArray)(w:World)(h0:s.size=0):Calls Tryz.prog 154 #[.string s] w fun e w'=>e = .returned (.bool false)∧Below w.heap.size w w':=by
  have he:s.toList=[]:=size0.2 h0;go_enter Tryz.func154,Tryz.ntmps154;go_wp2;go_ret;exact⟨rfl,Below.refl _ _⟩
theorem nameIs_long(s:ByteArray)(w:World)(h0:¬ s.size=0)(h1:12<s.size):Calls Tryz.prog 154 #[.string s] w fun e w'=>e = .returned (.bool false)∧Below w.heap.size w w':=by
  have h2:((12:Int)<(s.size:Int)):=by omega
  have he:¬ s.toList=[]:=fun h=>h0 (size0.1 h)
  go_enter Tryz.func154,Tryz.ntmps154;go_wp2;go_ret;exact⟨rfl,Below.refl _ _⟩
theorem nameIs_first(s:ByteArray)(w:World)(h0:¬ s.size=0)(h1:¬ 12<s.size)(h3:isL (bt s 0)=false):Calls Tryz.prog 154 #[.string s] w fun e w'=>e = .returned (.bool false)∧Below w.heap.size w w':=by
  have h2a:decide ((12:Int)<(s.size:Int))=false:=Qc (by omega);have h2b:decide (12<s.size)=false:=Qc (by omega);have he:s.toList.isEmpty=false:=by
    cases h : s.toList with
    | nil => exact absurd (size0.1 h) h0
    | cons _ _=>rfl
  have q6:0<s.size:=by omega
  have qi6:(0<(s.size:Int))=True:=eq_true (by omega);have hx6:∀ h:0<s.size,((s[0]'h).toNat:Int)=bt s 0:=bt_at s 0;replace q6:=eq_true q6;clear h0 h1;go_enter Tryz.func154,Tryz.ntmps154;go_wp2_with (first|(go_at_call 208;refine(isL_calls (bt s 0) _).mono ?_;rintro e w' ⟨rfl,⟨nd,rfl⟩⟩))
  go_ret;exact⟨rfl,pw_below_drewN (Below.refl _ _) _⟩
theorem bytes_below(w:World)(nd:Nat)(s:ByteArray):Below w.heap.size w (Lib.bytesWorld (w.drewN nd) 5 s) where
  os:=rfl
  tape:=rfl
  output:=rfl
  size:=by rw [Lib.bytesWorld_size];exact Nat.le_succ _
  block:=fun k hk=>Lib.bytesWorld_at_old (w.drewN nd) 5 s k hk
theorem bytes_cells(w:World)(s:ByteArray)(j:Nat)(hj:j<s.size):(Lib.bytesCells w 5 s)[j]? = some (.int .u8 (bt s j)):=by
  unfold Lib.bytesCells;rw [Array.getElem?_append_left (by simpa using hj)];simp [bt,hj];rfl
theorem all_bytes(s:ByteArray):(s.data.toList.all fun c=>isM c.toNat)=true↔∀ j:Nat,j<s.size→isM (bt s j)=true:=by
  rw [List.all_eq_true];constructor
  · intro h j hj
    have h2:=h s.data[j] (by simp);have e:bt s j=(s.data[j].toNat:Int):=by simp [bt,hj];rfl
    rw [e];exact h2
  intro h c hc;obtain⟨j,hj,rfl⟩:=List.getElem_of_mem hc;have hj:j<s.size:=by simpa using hj
  have:=h j hj;have e:bt s j=(s.data[j].toNat:Int):=by simp [bt,hj];rfl
  rw [e] at this;simpa using this
theorem nameIs_rest(s : ByteArray)(w : World)(h0 : ¬ s.size = 0)(h1 : ¬ 12 < s.size)(h3 : isL (bt s 0) = true) : Calls Tryz.prog 154 #[.string s] w fun e w' => e = .returned (.bool (s.data.toList.all fun c => isM c.toNat)) ∧ Below w.heap.size w w' := by
  have h2a:decide ((12:Int)<(s.size:Int))=false:=Qc (by omega);have h2b:decide (12<s.size)=false:=Qc (by omega);have he:s.toList.isEmpty=false:=by
    cases h : s.toList with
    | nil => exact absurd (size0.1 h) h0
    | cons _ _=>rfl
  have q6:0<s.size:=by omega
  have qi6:(0<(s.size:Int))=True:=eq_true (by omega);have hx6:∀ h:0<s.size,((s[0]'h).toNat:Int)=bt s 0:=bt_at s 0;replace q6:=eq_true q6;clear h0 h1;have hcv:=fun W:World=>Go.Lib.run_convert_string_bytes (P:=Tryz.prog) W 9 207 5 s Tryz.underlying9 Tryz.underlying207 Tryz.underlying5
  go_enter Tryz.func154,Tryz.ntmps154;go_wp2_with (first|(go_at_call 208;refine(isL_calls (bt s 0) _).mono ?_;rintro e w' ⟨rfl,⟨nd,rfl⟩⟩))
  have HB:=am (bytes_below w nd s);have HK:=am (show (Lib.bytesWorld (w.drewN nd) 5 s).heap[w.heap.size]? = _ from Lib.bytesWorld_at_new (w.drewN nd) 5 s);have HC:=am (bytes_cells (w.drewN nd) s);generalize Lib.bytesWorld (w.drewN nd) 5 s=W0 at HB HK ⊢;generalize Lib.bytesCells (w.drewN nd) 5 s=cs at HK HC;generalize grownCap (w.drewN nd) s.size 0 5=cap;clear hcv;go_loopg [21] s.size (fun gk v21 w' => ∃ i:Nat,v21 = .int .i64 (i:Int)∧Aside0 (i≤s.size∧s.size - i≤gk)∧Aside0 (∀ j:Nat,j<i→isM (bt s j)=true)∧Aside0 (w'.heap[w.heap.size]? = some (.cells cs 5 (cs.size,cs.size+1)))∧Aside0 (Below w.heap.size w w'))
  case atStart=>exact ⟨0,rfl,⟨⟨Nat.zero_le _,by omega⟩⟩,⟨fun j hj=>absurd hj (by omega)⟩,HK,HB⟩
  case round =>
    clear HK HB;obtain⟨i,rfl,HI,HM,HK,HB⟩:=hrel;by_cases hi:i<s.size
    · have c0 : decide ((i : Int) < (s.size : Int)) = true := Qb (by omega)
      have c0b:decide (i<s.size)=true:=Qb hi;have c1:(0:Int)≤(i:Int):=by omega
      have c2:(i:Int)<(s.size:Int):=by omega
      have hcell:wr.cell? ⟨w.heap.size,i,none⟩=some (.int .u8 (bt s i)):=by have h:=HC.out i hi;simp [World.cell?,HK.out,h]
      cases gk with
      | zero => have := HI.out; omega
      | succ k1 =>
      cases hm : isM (bt s i) with
      | true =>
        go_wp2_with (first|(go_at_call 209;refine(isM_calls (bt s i) _).mono ?_;rintro e w' ⟨rfl,⟨nd,rfl⟩⟩))
        go_roundg k1
        case measure=>omega
        case rel =>
          have hw:wrap64 ((i:Int)+1)=((i+1:Nat):Int):=by have h12:=of_decide_eq_false h2b;unfold wrap64;omega
          rw [hw]
          exact ⟨i + 1, rfl, ⟨by have := HI.out; omega⟩, ⟨fun j hj => (Nat.lt_succ_iff_lt_or_eq.1 hj).elim (HM.out j) (fun e => by rw [e]; exact hm)⟩, ⟨HK.out⟩, ⟨pw_below_drewN HB.out _⟩⟩
      | false =>
        go_wp2_with (first|(go_at_call 209;refine(isM_calls (bt s i) _).mono ?_;rintro e w' ⟨rfl,⟨nd,rfl⟩⟩))
        go_ret;refine⟨?_,pw_below_drewN HB.out _⟩;have hf:(s.data.toList.all fun c=>isM c.toNat)=false:=by
          rw [Bool.eq_false_iff];intro h;have:=(all_bytes s).1 h i hi;rw [hm] at this;cases this
        rw [hf];rfl
    have c0:decide ((i:Int)<(s.size:Int))=false:=Qc (by omega);have c0b:decide (i<s.size)=false:=Qc hi;go_wp2;go_ret;refine⟨?_,HB.out⟩;have hf:(s.data.toList.all fun c=>isM c.toNat)=true:=(all_bytes s).2 (fun j hj=>HM.out j (by have:=HI.out;omega));rw [hf];rfl
def nameIs(s:ByteArray):Bool:=if s.size=0 then false else if 12<s.size then false else if isL (bt s 0) then (s.data.toList.all fun c=>isM c.toNat) else false
def name_Is.f(s:ByteArray):Option Bool:=some (nameIs s)
theorem name_Is.calls(a0:ByteArray)(r:Bool)(w:World)(h:name_Is.f a0=some r):Calls Tryz.prog 154 #[.string a0] w fun e w'=>e = .returned (.bool r)∧Below w.heap.size w w':=by
 obtain rfl:=Qd h;unfold nameIs;by_cases h0:a0.size=0
 · rw [if_pos h0];exact nameIs_none a0 w h0
 rw [if_neg h0];by_cases h1:12<a0.size
 · rw [if_pos h1];exact nameIs_long a0 w h0 h1
 rw [if_neg h1]
 cases h3 : isL (bt a0 0) with
 | true => exact nameIs_rest a0 w h0 h1 h3
 | false=>exact nameIs_first a0 w h0 h1 h3
end Go.Proofs.YtpbembafpnknhaaGreat.Pr
namespace Go.Proofs.YtpbembafpnknhaaGreat.Pr
open Go.RowKit Sn
def nSe(s:S29):S29:=⟨sortL cmpOn s.f0,sortD cmpIf s.f1⟩
def nSes(l:List S29):List S29:=sortD cmpSe (l.map nSe)
theorem nSe_idem(s:S29):nSe (nSe s)=nSe s:=by
  unfold nSe;simp only;rw [sortL_of_rises isCmp_on (sortL_rises isCmp_on _),sortD_of_strict isCmp_if (sortD_strict isCmp_if _)]
theorem mem_nSes{l:List S29}{s:S29}:s ∈ nSes l↔∃ t ∈ l,nSe t=s:=by
  unfold nSes;rw [mem_sortD isCmp_se,List.mem_map]
theorem nSes_idem(l:List S29):nSes (nSes l)=nSes l:=by
  have h:(nSes l).map nSe=nSes l:=by
    conv=>rhs;rw [← List.map_id (nSes l)]
    refine List.map_congr_left (fun s hs=>?_);obtain⟨t,_,rfl⟩:=mem_nSes.1 hs;exact nSe_idem t
  show sortD cmpSe ((nSes l).map nSe)=nSes l
  rw [h];exact sortD_of_strict isCmp_se (sortD_strict isCmp_se _)
theorem sortL_length{α:Type}{c:α→α→Int}(l:List α):(sortL c l).length=l.length:=(sortL_perm l).length_eq
theorem insD_length{α:Type}{c:α→α→Int}(x:α):∀ l:List α,(insD c x l).length≤l.length+1
  | [] => by simp [insD]
  | y :: r => by
    unfold insD;have:=insD_length (c:=c) x r
    split
    · simp only [List.length_cons];omega
    split <;> simp only [List.length_cons] <;> omega
theorem sortD_length{α:Type}{c:α→α→Int}(l:List α):(sortD c l).length≤l.length:=by
  have:∀ acc:List α,(l.foldl (fun acc x=>insD c x acc) acc).length≤l.length+acc.length:=by
    induction l with
    | nil => intro acc; simp
    | cons x r ih =>
      intro acc;have h1:=ih (insD c x acc);have h2:=insD_length (c:=c) x acc;simp only [List.foldl_cons,List.length_cons];omega
  have:=this [];simpa [sortD] using this
theorem sortD_eq_nil{α:Type}{c:α→α→Int}(h:IsCmp c){l:List α}:sortD c l=[]↔l=[]:=by
  rw [List.eq_nil_iff_forall_not_mem,List.eq_nil_iff_forall_not_mem];exact⟨fun h1 a ha=>h1 a ((mem_sortD h).2 ha),fun h1 a ha=>h1 a ((mem_sortD h).1 ha)⟩
theorem nSes_length(l:List S29):(nSes l).length≤l.length:=by
  have:=sortD_length (c:=cmpSe) (l.map nSe)
  rwa [List.length_map] at this
def nIt(x:S47):S47:=⟨x.f0,x.f1,x.f2,x.f3,x.f4,nSes x.f5,nSes x.f6⟩
theorem nIt_nIt(x:S47):nIt (nIt x)=nIt x:=by unfold nIt;simp only [nSes_idem]
def cmpID(a b:S47):Int:=cmpS a.f0 b.f0
def ordID(l:List S47):List S47:=sortL cmpID l
theorem isOrd_ID:IsOrd ordID:=fun k=>sortL_perm k
theorem ordID_map{f:S47→S47}(hf:∀ x,(f x).f0=x.f0)(l:List S47):ordID (l.map f)=(ordID l).map f:=by
  have h:=sortL_map (c:=cmpID) (key:=f) l;have e:(fun a b=>cmpID (f a) (f b))=cmpID:=by funext a b;unfold cmpID;rw [hf,hf]
  rw [e] at h;exact h.symm
theorem ordID_rises(l:List S47):Rises cmpID (ordID l):=rises_key (c:=cmpS) (key:=S47.f0) isCmp_s l
theorem ordID_perm{l1 l2:List S47}(hn:(l2.map S47.f0).Nodup)(hp:l1.Perm l2):ordID l1=ordID l2:=
  rises_key_eq (c:=cmpS) (key:=S47.f0) isCmp_s ((((sortL_perm l2).map S47.f0).nodup_iff).2 hn) (ordID_rises l1) (ordID_rises l2) (((sortL_perm l1).trans hp).trans (sortL_perm l2).symm)
def LegalP(k e:Int):Prop:=1≤k∧k≤5∧((e=1∨e=5)∨((e=2∨e=3)∧k≤2)∨(e=4∧3≤k))
def opL:List ByteArray:=[⟨#[60]⟩,⟨#[60,61]⟩,⟨#[61]⟩,⟨#[33,61]⟩,⟨#[62,61]⟩,⟨#[62]⟩]
def OkOn(items:List S47)(o:S78):Prop:=∃ x ∈ items,x.f0=o.f0∧LegalP x.f1 o.f1
def OkIf(files:List ByteArray)(c:S93):Prop:=c.f0 ∈ files∧c.f1 ∈ opL ∧ -1000000≤c.f2∧c.f2≤1000000
structure OkSe (files:List ByteArray) (items:List S47) (s:S29):Prop where
  on3:s.f0.length≤3
  if2:s.f1.length≤2
  some1:0<s.f0.length+s.f1.length
  on:∀ o ∈ s.f0,OkOn items o
  onN:s.f0.Nodup
  cond:∀ c ∈ s.f1,OkIf files c
def OkSes(files:List ByteArray)(items:List S47)(l:List S29):Prop:=l.length≤3∧∀ s ∈ l,OkSe files items s
structure OkIt (files:List ByteArray) (items:List S47) (x:S47):Prop where
  kind:1≤x.f1∧x.f1≤5
  ticks:if x.f1=5 then 1≤x.f4∧x.f4≤100 else x.f4=0
  waits:4≤x.f1→x.f3=false∧x.f5=[]
  entry:OkSes files items x.f5
  exit:OkSes files items x.f6
def chkSt(st:List S47):Bool:=decide (st.length≤5)&&(match st with|p::_=>decide (p.f1=1) | []=>false)
def Plan(r:S47):Prop:=r.f1=1∧r.f2=ByteArray.empty∧r.f3=false∧r.f5=[]∧r.f6=[]
structure Ok (files:List ByteArray) (r:S47) (F:List S47):Prop where
  files6:files.length≤6
  fnames:∀ s ∈ files,nameIs s=true
  fnodup:files.Nodup
  n16:F.length≤15
  names:∀ x ∈ r::F,nameIs x.f0=true
  nodup:((r::F).map S47.f0).Nodup
  plan:Plan r
  stands:standsB S47.f0 S47.f2 chkSt [r] F=true
  items:∀ x ∈ r::F,OkIt files (r::F) x
def OkM(files:List ByteArray)(items:List S47):Prop:=∃ r F,items=r::F∧Ok files r F
theorem nameIs_empty:nameIs ByteArray.empty=false:=by unfold nameIs;rw [if_pos (show ByteArray.empty.size=0 from rfl)]
section
variable{files : List ByteArray}{r : S47}{F : List S47}
theorem Ok.rooted(h:Ok files r F):Rooted S47.f0 S47.f2 (r::F) r where
  nodup:=h.nodup
  mem:=List.mem_cons_self
  top p hp e:=by
    have:=h.names p hp;rw [e,h.plan.2.1,nameIs_empty] at this;cases this
theorem Ok.reach(h:Ok files r F):∀ y ∈ r::F,∃ n,n≤5∧Anc S47.f0 S47.f2 (r::F) r y n:=by
  intro y hy;rcases List.mem_cons.1 hy with rfl|hy'
  · exact ⟨0,by omega,rfl⟩
  obtain⟨p,ps,e,hc,hk⟩:=stands_chk h.rooted chkSt .top (fun z hz=>List.mem_cons_of_mem _ hz) h.stands y hy';have hl:(p::ps).length≤5:=by
    unfold chkSt at hk;simp only [Bool.and_eq_true,decide_eq_true_eq] at hk;exact hk.1
  exact⟨ps.length+1,by simpa using hl,p,hc.mem_all h.rooted.mem p List.mem_cons_self,e.symm,hc.anc h.rooted.mem rfl⟩
theorem Ok.deep(h:Ok files r F){y:S47}{n:Nat}(hy:y ∈ r::F)(ha:Anc S47.f0 S47.f2 (r::F) r y n):n≤5:=by
  obtain⟨m,hm,h2⟩:=h.reach y hy;rw [h.rooted.level ha h2];exact hm
theorem Ok.chain_chk(h:Ok files r F){x c:S47}{st:List S47}(hc:Chain S47.f0 S47.f2 (r::F) r (x::st))(hm:c ∈ r::F)(hp:c.f2=x.f0):chkSt (x::st)=true:=by
  have hcF:c ∈ F:=by
    rcases List.mem_cons.1 hm with rfl|hm
    · exact absurd hp.symm (h.rooted.top x (hc.mem_all h.rooted.mem x List.mem_cons_self))
    exact hm
  obtain⟨p,ps,e,hc2,hk⟩:=stands_chk h.rooted chkSt .top (fun z hz=>List.mem_cons_of_mem _ hz) h.stands c hcF;have hpx:p=x:=id_inj h.nodup (hc2.mem_all h.rooted.mem p List.mem_cons_self) (hc.mem_all h.rooted.mem x List.mem_cons_self) (e.symm.trans hp);subst hpx;rw [hc.uniq h.rooted hc2];exact hk
end
structure Turns (f:S47→S47):Prop where
  f0:∀ x,(f x).f0=x.f0
  f1:∀ x,(f x).f1=x.f1
  f2:∀ x,(f x).f2=x.f2
  f3:∀ x,(f x).f3=x.f3
  f4:∀ x,(f x).f4=x.f4
  nil:∀ x,(f x).f5=[]↔x.f5=[]
  root:∀ x,x.f5=[]→x.f6=[]→f x=x
  ses:∀ files items x,(OkSes files items x.f5→OkSes files items (f x).f5)∧(OkSes files items x.f6→OkSes files items (f x).f6)
theorem OkSe.nSe{files:List ByteArray}{items:List S47}{s:S29}(h:OkSe files items s):OkSe files items (nSe s) where
  on3:=by unfold Pr.nSe;simp only;rw [sortL_length];exact h.on3
  if2:=by unfold Pr.nSe;simp only;have:=sortD_length (c:=cmpIf) s.f1;have:=h.if2;omega
  some1:=by
    unfold Pr.nSe;simp only;rw [sortL_length];have h1:=h.some1;by_cases h0:s.f1=[]
    · rw [h0] at h1;simp at h1;omega
    have:sortD cmpIf s.f1 ≠ []:=fun e=>h0 ((sortD_eq_nil isCmp_if).1 e)
    have:=List.length_pos_iff.2 this;omega
  on o ho:=h.on o ((sortL_perm _).mem_iff.1 ho)
  onN:=(sortL_perm _).nodup_iff.2 h.onN
  cond c hc:=h.cond c ((mem_sortD isCmp_if).1 hc)
theorem OkSes.nSes{files:List ByteArray}{items:List S47}{l:List S29}(h:OkSes files items l):OkSes files items (nSes l):=by
  refine⟨Nat.le_trans (nSes_length l) h.1,fun s hs=>?_⟩;obtain⟨t,ht,rfl⟩:=mem_nSes.1 hs;exact(h.2 t ht).nSe
theorem turns_n:Turns nIt where
  f0 _:=rfl
  f1 _:=rfl
  f2 _:=rfl
  f3 _:=rfl
  f4 _:=rfl
  nil x:=by unfold nIt nSes;simp only;rw [sortD_eq_nil isCmp_se,List.map_eq_nil_iff]
  root x h5 h6:=by cases x;simp only at h5 h6;subst h5;subst h6;rfl
  ses _ _ _:=⟨OkSes.nSes,OkSes.nSes⟩
def turnT(ord:List S47→List S47)(f:S47→S47)(r:S47)(F:List S47):List S47:=(ord (kidsOf S47.f2 (r::F) r.f0)).flatMap (pre S47.f0 S47.f2 ord f (r::F) 19)
theorem turn_pre{ord:List S47→List S47}{f:S47→S47}{r:S47}{F:List S47}:pre S47.f0 S47.f2 ord f (r::F) 20 r=f r::turnT ord f r F:=rfl
section
variable{files files' : List ByteArray}{r : S47}{F : List S47}{ord : List S47 → List S47}{f : S47 → S47}
theorem OkSes.mono{items items':List S47}(hf:∀ s,s ∈ files→s ∈ files')(hi:∀ x ∈ items,∃ x' ∈ items',x'.f0=x.f0∧x'.f1=x.f1){l:List S29}(h:OkSes files items l):OkSes files' items' l:=by
  refine⟨h.1,fun s hs=>?_⟩;have h1:=h.2 s hs;refine⟨h1.on3,h1.if2,h1.some1,fun o ho=>?_,h1.onN,fun c hc=>?_⟩
  · obtain ⟨x, hx, e, hl⟩ := h1.on o ho
    obtain⟨x',hx',e0,e1⟩:=hi x hx;exact⟨x',hx',e0.trans e,by rw [e1];exact hl⟩
  obtain⟨h2,h3⟩:=h1.cond c hc;exact⟨hf _ h2,h3⟩
theorem Ok.turn_perm(h:Ok files r F)(ho:IsOrd ord)(hf:Turns f):(f r::turnT ord f r F).Perm ((r::F).map f):=by
  rw [← turn_pre];refine pre_perm ho hf.f0 h.rooted (fun y hy=>?_);obtain⟨n,hn,ha⟩:=h.reach y hy;exact⟨n,by omega,ha⟩
theorem Ok.turn(h:Ok files r F)(ho:IsOrd ord)(hf:Turns f)(hp:files'.Perm files):Ok files' r (turnT ord f r F):=by
  have hr:f r=r:=hf.root r h.plan.2.2.2.1 h.plan.2.2.2.2;have hperm:=h.turn_perm ho hf;rw [hr] at hperm;have hmem:∀ y,y ∈ r::turnT ord f r F↔∃ x ∈ r::F,f x=y:=fun y=>by rw [hperm.mem_iff,List.mem_map]
  refine⟨?_,fun s hs=>h.fnames s (hp.mem_iff.1 hs),hp.nodup_iff.2 h.fnodup,?_,?_,?_,h.plan,?_,?_⟩
  · rw [hp.length_eq];exact h.files6
  · have := hperm.length_eq
    simp only [List.length_cons,List.length_map] at this;have:=h.n16;omega
  · intro y hy
    obtain⟨x,hx,rfl⟩:=(hmem y).1 hy;rw [hf.f0];exact h.names x hx
  · rw [(hperm.map S47.f0).nodup_iff, List.map_map]
    have:S47.f0 ∘ f=S47.f0:=by funext x;exact hf.f0 x
    rw [this];exact h.nodup
  · have h2 := pre_stands ho hf.f0 hf.f2 chkSt h.rooted (fun x st c hc hm hp => ?_) 19
    · rw [hr] at h2;exact h2
    have h3:=h.chain_chk hc hm hp;unfold chkSt at h3 ⊢;rw [List.length_map];rw [List.map_cons];simp only [hf.f1] at h3 ⊢;exact h3
  intro y hy;obtain⟨x,hx,rfl⟩:=(hmem y).1 hy;have h1:=h.items x hx;have hin:∀ x ∈ r::F,∃ x' ∈ r::turnT ord f r F,x'.f0=x.f0∧x'.f1=x.f1:=fun x hx=>⟨f x,(hmem _).2 ⟨x,hx,rfl⟩,hf.f0 x,hf.f1 x⟩
  refine⟨by rw [hf.f1];exact h1.kind,by rw [hf.f1,hf.f4];exact h1.ticks,fun h4=>?_,?_,?_⟩
  · rw [hf.f1] at h4
    rw [hf.f3,hf.nil];exact h1.waits h4
  · exact ((hf.ses _ _ x).1 h1.entry).mono (fun s hs=>hp.mem_iff.2 hs) hin
  exact((hf.ses _ _ x).2 h1.exit).mono (fun s hs=>hp.mem_iff.2 hs) hin
theorem Ok.norm_turn(h:Ok files r F)(ho:IsOrd ord)(hf:Turns f)(hn:∀ x,nIt (f x)=nIt x):turnT ordID nIt r (turnT ord f r F)=turnT ordID nIt r F:=by
  have hr:f r=r:=hf.root r h.plan.2.2.2.1 h.plan.2.2.2.2;have hnr:nIt r=r:=turns_n.root r h.plan.2.2.2.1 h.plan.2.2.2.2;have h1:=pre_pre (id:=S47.f0) (par:=S47.f2) ho hf.f0 hf.f2 h.rooted (K:=20) (fun y hy n ha=>by have:=h.deep hy ha;omega) (ord':=ordID) (ord2:=ordID) (f':=nIt) (fun y hy=>by
    rw [ordID_map hf.f0]
    congr 1
    refine ordID_perm ?_ (ho _);exact h.nodup.sublist (List.Sublist.map _ List.filter_sublist)) isOrd_ID (k:=20) (x:=r) (d:=0) h.rooted.mem rfl
  rw [hr,turn_pre] at h1;have e:(fun z=>nIt (f z))=nIt:=by funext z;exact hn z
  rw [e] at h1;rw [turn_pre,hr] at h1;have h2:nIt r::turnT ordID nIt r (turnT ord f r F)=nIt r::turnT ordID nIt r F:=by
    rw [← turn_pre,← turn_pre];exact h1
  injection h2
end
end Go.Proofs.YtpbembafpnknhaaGreat.Pr
namespace Go.Proofs.YtpbembafpnknhaaGreat.Pr
open Go.RowKit Go.Proofs.YtpbembafpnknhaaGreatW.PrintWords Go.Proofs.YtpbembafpnknhaaGreatW.PrintLast Go.Proofs.YtpbembafpnknhaaGreatW.PrintMore
def firstAt(p:Nat→Bool)(n:Nat):Int:=match (List.range n).find? p with|some j=>j|none => -1
theorem firstAt_hit{p:Nat→Bool}{n k:Nat}(hk:k<n)(hp:p k=true)(hb:∀ j,j<k→p j=false):firstAt p n=k:=by
  have:(List.range n).find? p=some k:=by
    rw [List.find?_eq_some_iff_append];refine⟨hp,List.range k,(List.range n).drop (k+1),?_,fun j hj=>by rw [hb j (List.mem_range.1 hj)];rfl⟩;apply List.ext_getElem?;intro i;by_cases h1:i<k
    · rw [List.getElem?_append_left (by simpa using h1),List.getElem?_range (by omega),List.getElem?_range h1]
    rw [List.getElem?_append_right (by simp;omega),List.length_range];by_cases h2:i=k
    · subst h2;simp [hk]
    have e:i - k=(i - k - 1)+1:=by omega
    rw [e,List.getElem?_cons_succ,List.getElem?_drop]
    congr 1;omega
  unfold firstAt;rw [this]
theorem firstAt_miss{p:Nat→Bool}{n:Nat}(hb:∀ j,j<n→p j=false):firstAt p n = -1:=by
  have:(List.range n).find? p=none:=by
    rw [List.find?_eq_none];intro j hj;rw [hb j (List.mem_range.1 hj)];decide
  unfold firstAt;rw [this]
theorem firstAt_pos{p:Nat→Bool}{n:Nat}:decide (0≤firstAt p n)=(List.range n).any p:=by
  unfold firstAt
  cases h : (List.range n).find? p with
  | some j =>
    have h1:=List.find?_some h;have h2:=List.mem_of_find?_eq_some h;have h3:(List.range n).any p=true:=List.any_eq_true.2 ⟨j,h2,h1⟩;rw [h3]
    exact Qb (Int.natCast_nonneg j)
  | none =>
    have h3:(List.range n).any p=false:=by
      rw [List.any_eq_false];exact List.find?_eq_none.1 h
    rw [h3];rfl
theorem indexFuncItem(A : Option Addr)(n c : Nat)(g : Nat)(lb : Array Value)(eg : ∀ args w, (callFunc g args).run Tryz.prog w = .ok (.enter g args) w)(p : Nat → Bool)(cs : Nat → List Value)(w : World)(hbig : n ≤ 9223372036854775807)(hp:∀ j,j<n→∀ W,Below w.heap.size w W→Calls Tryz.prog g (#[.agg (cs j).toArray] ++ lb) W fun e w'=>e = .returned (.bool (p j))∧Below w.heap.size w w')(hk:∀ j,j<n→(cs j).length=7)(hc:0<n→∃ ad,A=some ad∧∀ j,j<n→∀ i u,(cs j)[i]? = some u→w.cell? (ad.add (j * 7+i))=some u) :
    Calls Tryz.prog 155 #[.slice A n c,.func (.func g) #[] lb] w fun e w'=>e = .returned (.int .i64 (firstAt p n))∧Below w.heap.size w w':=by
  have HC:=am hc;have HP:=am hp;have HK:=am hk;have EG:=am eg;clear hc hp hk eg;go_enter Tryz.func155,Tryz.ntmps155;go_wp2;go_loopg [8] n (fun gk v8 w' => ∃ i:Nat,v8 = .int .i64 (i:Int)∧Aside0 (i≤n∧n - i≤gk)∧Aside0 (∀ j,j<i→p j=false)∧Aside0 (Below w.heap.size w w'))
  case atStart=>exact ⟨0,rfl,⟨⟨Nat.zero_le _,by omega⟩⟩,⟨fun j hj=>absurd hj (Nat.not_lt_zero _)⟩,⟨Below.refl _ w⟩⟩
  case round =>
    obtain⟨i,rfl,HI,HM,HB⟩:=hrel;by_cases hi:i<n
    · have c0 : (i : Int) < (n : Int) := by omega
      obtain⟨ad,rfl,hcell⟩:=HC.out (by omega);have hcl:=HK.out i hi;have HL:=am (HP.out i hi);have hcell:=hcell i hi;generalize cs i=q at hcl HL hcell;obtain⟨q0,q1,q2,q3,q4,q5,q6,rfl⟩:∃ q0 q1 q2 q3 q4 q5 q6,q=[q0,q1,q2,q3,q4,q5,q6]:=by
        match q, hcl with
        | [q0,q1,q2,q3,q4,q5,q6],_=>exact ⟨q0,q1,q2,q3,q4,q5,q6,rfl⟩
      have x0:=(HB.out.cell (Qk w _ (hcell 0 _ rfl))).trans (hcell 0 _ rfl);rw [Nat.add_zero] at x0;have x1:=(HB.out.cell (Qk w _ (hcell 1 _ rfl))).trans (hcell 1 _ rfl);rw [add_field _ _ 1 (by omega)] at x1;have x2:=(HB.out.cell (Qk w _ (hcell 2 _ rfl))).trans (hcell 2 _ rfl);rw [add_field _ _ 2 (by omega)] at x2;have x3:=(HB.out.cell (Qk w _ (hcell 3 _ rfl))).trans (hcell 3 _ rfl);rw [add_field _ _ 3 (by omega)] at x3;have x4:=(HB.out.cell (Qk w _ (hcell 4 _ rfl))).trans (hcell 4 _ rfl);rw [add_field _ _ 4 (by omega)] at x4;have x5:=(HB.out.cell (Qk w _ (hcell 5 _ rfl))).trans (hcell 5 _ rfl);rw [add_field _ _ 5 (by omega)] at x5;have x6:=(HB.out.cell (Qk w _ (hcell 6 _ rfl))).trans (hcell 6 _ rfl);rw [add_field _ _ 6 (by omega)] at x6;clear hcell
      cases gk with
      | zero => have := HI.out; omega
      | succ k1 =>
      cases hm : p i with
      | true =>
        rw [hm] at HL;go_wp2;rw [EG.out,Oper.upon_enter];refine(HL.out _ HB.out).mono ?_;rintro e w' ⟨rfl,hb'⟩;go_wp2;go_ret
        exact ⟨by rw [firstAt_hit hi hm HM.out]; rfl, hb'⟩
      | false =>
        rw [hm] at HL;go_wp2;rw [EG.out,Oper.upon_enter];refine(HL.out _ HB.out).mono ?_;rintro e w' ⟨rfl,hb'⟩;go_wp2;go_roundg k1
        case measure=>omega
        case rel =>
          exact⟨i+1,by rw [show ((i:Int)+1)=((i+1:Nat):Int) by omega],⟨by have:=HI.out;omega⟩,⟨fun j hj=>(Nat.lt_succ_iff_lt_or_eq.1 hj).elim (HM.out j) (fun e=>by rw [e];exact hm)⟩,⟨hb'⟩⟩
    have c0:¬ (i:Int)<(n:Int):=by omega
    go_wp2;go_ret;exact⟨by rw [firstAt_miss (fun j hj=>HM.out j (by have:=HI.out;omega))];rfl,HB.out⟩
theorem containsFuncItem(A:Option Addr)(n c:Nat)(g:Nat)(lb:Array Value)(eg:∀ args w,(callFunc g args).run Tryz.prog w = .ok (.enter g args) w)(p:Nat→Bool)(cs:Nat→List Value)(w:World)(hbig:n≤9223372036854775807)(hp:∀ j,j<n→∀ W,Below w.heap.size w W→Calls Tryz.prog g (#[.agg (cs j).toArray] ++ lb) W fun e w'=>e = .returned (.bool (p j))∧Below w.heap.size w w')(hk:∀ j,j<n→(cs j).length=7)(hc:0<n→∃ ad,A=some ad∧∀ j,j<n→∀ i u,(cs j)[i]? = some u→w.cell? (ad.add (j * 7+i))=some u) :
    Calls Tryz.prog 110 #[.slice A n c,.func (.func g) #[] lb] w fun e w'=>e = .returned (.bool ((List.range n).any p))∧Below w.heap.size w w':=by
  have HI:=indexFuncItem A n c g lb eg p cs w hbig hp hk hc;clear hc hp hk eg;rw [← firstAt_pos];generalize firstAt p n=r at HI;go_enter Tryz.func110,Tryz.ntmps110;go_wp2_with (first|(go_at_call 155;refine HI.mono ?_;rintro e w' ⟨rfl,hb'⟩))
  go_ret;exact⟨rfl,hb'⟩
theorem indexFuncSe(A : Option Addr)(n c : Nat)(g : Nat)(lb : Array Value)(eg : ∀ args w, (callFunc g args).run Tryz.prog w = .ok (.enter g args) w)(p : Nat → Bool)(cs : Nat → List Value)(w : World)(hbig : n ≤ 9223372036854775807)(hp:∀ j,j<n→∀ W,Below w.heap.size w W→Calls Tryz.prog g (#[.agg (cs j).toArray] ++ lb) W fun e w'=>e = .returned (.bool (p j))∧Below w.heap.size w w')(hk:∀ j,j<n→(cs j).length=2)(hc:0<n→∃ ad,A=some ad∧∀ j,j<n→∀ i u,(cs j)[i]? = some u→w.cell? (ad.add (j * 2+i))=some u) :
    Calls Tryz.prog 235 #[.slice A n c,.func (.func g) #[] lb] w fun e w'=>e = .returned (.int .i64 (firstAt p n))∧Below w.heap.size w w':=by
  have HC:=am hc;have HP:=am hp;have HK:=am hk;have EG:=am eg;clear hc hp hk eg;go_enter Tryz.func235,Tryz.ntmps235;go_wp2;go_loopg [8] n (fun gk v8 w' => ∃ i:Nat,v8 = .int .i64 (i:Int)∧Aside0 (i≤n∧n - i≤gk)∧Aside0 (∀ j,j<i→p j=false)∧Aside0 (Below w.heap.size w w'))
  case atStart=>exact ⟨0,rfl,⟨⟨Nat.zero_le _,by omega⟩⟩,⟨fun j hj=>absurd hj (Nat.not_lt_zero _)⟩,⟨Below.refl _ w⟩⟩
  case round =>
    obtain⟨i,rfl,HI,HM,HB⟩:=hrel;by_cases hi:i<n
    · have c0 : (i : Int) < (n : Int) := by omega
      obtain⟨ad,rfl,hcell⟩:=HC.out (by omega);have hcl:=HK.out i hi;have HL:=am (HP.out i hi);have hcell:=hcell i hi;generalize cs i=q at hcl HL hcell;obtain⟨q0,q1,rfl⟩:∃ q0 q1,q=[q0,q1]:=by
        match q, hcl with
        | [q0,q1],_=>exact ⟨q0,q1,rfl⟩
      have x0:=(HB.out.cell (Qk w _ (hcell 0 _ rfl))).trans (hcell 0 _ rfl);rw [Nat.add_zero] at x0;have x1:=(HB.out.cell (Qk w _ (hcell 1 _ rfl))).trans (hcell 1 _ rfl);rw [add_field _ _ 1 (by omega)] at x1;clear hcell
      cases gk with
      | zero => have := HI.out; omega
      | succ k1 =>
      cases hm : p i with
      | true =>
        rw [hm] at HL;go_wp2;rw [EG.out,Oper.upon_enter];refine(HL.out _ HB.out).mono ?_;rintro e w' ⟨rfl,hb'⟩;go_wp2;go_ret
        exact ⟨by rw [firstAt_hit hi hm HM.out]; rfl, hb'⟩
      | false =>
        rw [hm] at HL;go_wp2;rw [EG.out,Oper.upon_enter];refine(HL.out _ HB.out).mono ?_;rintro e w' ⟨rfl,hb'⟩;go_wp2;go_roundg k1
        case measure=>omega
        case rel =>
          exact⟨i+1,by rw [show ((i:Int)+1)=((i+1:Nat):Int) by omega],⟨by have:=HI.out;omega⟩,⟨fun j hj=>(Nat.lt_succ_iff_lt_or_eq.1 hj).elim (HM.out j) (fun e=>by rw [e];exact hm)⟩,⟨hb'⟩⟩
    have c0:¬ (i:Int)<(n:Int):=by omega
    go_wp2;go_ret;exact⟨by rw [firstAt_miss (fun j hj=>HM.out j (by have:=HI.out;omega))];rfl,HB.out⟩
theorem containsFuncSe(A:Option Addr)(n c:Nat)(g:Nat)(lb:Array Value)(eg:∀ args w,(callFunc g args).run Tryz.prog w = .ok (.enter g args) w)(p:Nat→Bool)(cs:Nat→List Value)(w:World)(hbig:n≤9223372036854775807)(hp:∀ j,j<n→∀ W,Below w.heap.size w W→Calls Tryz.prog g (#[.agg (cs j).toArray] ++ lb) W fun e w'=>e = .returned (.bool (p j))∧Below w.heap.size w w')(hk:∀ j,j<n→(cs j).length=2)(hc:0<n→∃ ad,A=some ad∧∀ j,j<n→∀ i u,(cs j)[i]? = some u→w.cell? (ad.add (j * 2+i))=some u) :
    Calls Tryz.prog 210 #[.slice A n c,.func (.func g) #[] lb] w fun e w'=>e = .returned (.bool ((List.range n).any p))∧Below w.heap.size w w':=by
  have HI:=indexFuncSe A n c g lb eg p cs w hbig hp hk hc;clear hc hp hk eg;rw [← firstAt_pos];generalize firstAt p n=r at HI;go_enter Tryz.func210,Tryz.ntmps210;go_wp2_with (first|(go_at_call 235;refine HI.mono ?_;rintro e w' ⟨rfl,hb'⟩))
  go_ret;exact⟨rfl,hb'⟩
theorem indexFuncIf(A : Option Addr)(n c : Nat)(g : Nat)(lb : Array Value)(eg : ∀ args w, (callFunc g args).run Tryz.prog w = .ok (.enter g args) w)(p : Nat → Bool)(cs : Nat → List Value)(w : World)(hbig : n ≤ 9223372036854775807)(hp:∀ j,j<n→∀ W,Below w.heap.size w W→Calls Tryz.prog g (#[.agg (cs j).toArray] ++ lb) W fun e w'=>e = .returned (.bool (p j))∧Below w.heap.size w w')(hk:∀ j,j<n→(cs j).length=3)(hc:0<n→∃ ad,A=some ad∧∀ j,j<n→∀ i u,(cs j)[i]? = some u→w.cell? (ad.add (j * 3+i))=some u) :
    Calls Tryz.prog 273 #[.slice A n c,.func (.func g) #[] lb] w fun e w'=>e = .returned (.int .i64 (firstAt p n))∧Below w.heap.size w w':=by
  have HC:=am hc;have HP:=am hp;have HK:=am hk;have EG:=am eg;clear hc hp hk eg;go_enter Tryz.func273,Tryz.ntmps273;go_wp2;go_loopg [8] n (fun gk v8 w' => ∃ i:Nat,v8 = .int .i64 (i:Int)∧Aside0 (i≤n∧n - i≤gk)∧Aside0 (∀ j,j<i→p j=false)∧Aside0 (Below w.heap.size w w'))
  case atStart=>exact ⟨0,rfl,⟨⟨Nat.zero_le _,by omega⟩⟩,⟨fun j hj=>absurd hj (Nat.not_lt_zero _)⟩,⟨Below.refl _ w⟩⟩
  case round =>
    obtain⟨i,rfl,HI,HM,HB⟩:=hrel;by_cases hi:i<n
    · have c0 : (i : Int) < (n : Int) := by omega
      obtain⟨ad,rfl,hcell⟩:=HC.out (by omega);have hcl:=HK.out i hi;have HL:=am (HP.out i hi);have hcell:=hcell i hi;generalize cs i=q at hcl HL hcell;obtain⟨q0,q1,q2,rfl⟩:∃ q0 q1 q2,q=[q0,q1,q2]:=by
        match q, hcl with
        | [q0,q1,q2],_=>exact ⟨q0,q1,q2,rfl⟩
      have x0:=(HB.out.cell (Qk w _ (hcell 0 _ rfl))).trans (hcell 0 _ rfl);rw [Nat.add_zero] at x0;have x1:=(HB.out.cell (Qk w _ (hcell 1 _ rfl))).trans (hcell 1 _ rfl);rw [add_field _ _ 1 (by omega)] at x1;have x2:=(HB.out.cell (Qk w _ (hcell 2 _ rfl))).trans (hcell 2 _ rfl);rw [add_field _ _ 2 (by omega)] at x2;clear hcell
      cases gk with
      | zero => have := HI.out; omega
      | succ k1 =>
      cases hm : p i with
      | true =>
        rw [hm] at HL;go_wp2;rw [EG.out,Oper.upon_enter];refine(HL.out _ HB.out).mono ?_;rintro e w' ⟨rfl,hb'⟩;go_wp2;go_ret
        exact ⟨by rw [firstAt_hit hi hm HM.out]; rfl, hb'⟩
      | false =>
        rw [hm] at HL;go_wp2;rw [EG.out,Oper.upon_enter];refine(HL.out _ HB.out).mono ?_;rintro e w' ⟨rfl,hb'⟩;go_wp2;go_roundg k1
        case measure=>omega
        case rel =>
          exact⟨i+1,by rw [show ((i:Int)+1)=((i+1:Nat):Int) by omega],⟨by have:=HI.out;omega⟩,⟨fun j hj=>(Nat.lt_succ_iff_lt_or_eq.1 hj).elim (HM.out j) (fun e=>by rw [e];exact hm)⟩,⟨hb'⟩⟩
    have c0:¬ (i:Int)<(n:Int):=by omega
    go_wp2;go_ret;exact⟨by rw [firstAt_miss (fun j hj=>HM.out j (by have:=HI.out;omega))];rfl,HB.out⟩
theorem containsFuncIf(A:Option Addr)(n c:Nat)(g:Nat)(lb:Array Value)(eg:∀ args w,(callFunc g args).run Tryz.prog w = .ok (.enter g args) w)(p:Nat→Bool)(cs:Nat→List Value)(w:World)(hbig:n≤9223372036854775807)(hp:∀ j,j<n→∀ W,Below w.heap.size w W→Calls Tryz.prog g (#[.agg (cs j).toArray] ++ lb) W fun e w'=>e = .returned (.bool (p j))∧Below w.heap.size w w')(hk:∀ j,j<n→(cs j).length=3)(hc:0<n→∃ ad,A=some ad∧∀ j,j<n→∀ i u,(cs j)[i]? = some u→w.cell? (ad.add (j * 3+i))=some u) :
    Calls Tryz.prog 238 #[.slice A n c,.func (.func g) #[] lb] w fun e w'=>e = .returned (.bool ((List.range n).any p))∧Below w.heap.size w w':=by
  have HI:=indexFuncIf A n c g lb eg p cs w hbig hp hk hc;clear hc hp hk eg;rw [← firstAt_pos];generalize firstAt p n=r at HI;go_enter Tryz.func238,Tryz.ntmps238;go_wp2_with (first|(go_at_call 273;refine HI.mono ?_;rintro e w' ⟨rfl,hb'⟩))
  go_ret;exact⟨rfl,hb'⟩
theorem C_cells{β:Type}{d:Kd β}{w:World}{A:Option Addr}{n:Nat}{xs:List β}(z:β)(h:d.C w A n xs):∃ cs:Nat→List Value,(∀ j,j<n→(cs j).length=d.sz)∧(∀ j,j<n→d.K w (xs.getD j z) (cs j)) ∧
    (0<n→∃ ad,A=some ad∧∀ j,j<n→∀ i u,(cs j)[i]? = some u→w.cell? (ad.add (j * d.sz+i))=some u):=by
  have h1:∀ j:Nat,∃ c:List Value,j<n→c.length=d.sz∧d.K w (xs.getD j z) c∧∃ ad,A=some ad∧∀ i u,c[i]? = some u→w.cell? (ad.add (j * d.sz+i))=some u:=by
    intro j;by_cases hj:j<n
    · obtain ⟨ad, c, e, hl, hK, hc⟩ := Kd.C_get h z (j : Int) (by omega) (by omega)
      exact⟨c,fun _=>⟨hl,hK,ad,e,hc⟩⟩
    exact⟨[],fun h=>absurd h hj⟩
  have h2:=Classical.skolem.1 h1;obtain⟨cs,hcs⟩:=h2;refine⟨cs,fun j hj=>(hcs j hj).1,fun j hj=>(hcs j hj).2.1,fun hn=>?_⟩;obtain⟨_,_,ad,e,_⟩:=hcs 0 hn;refine⟨ad,e,fun j hj=>?_⟩;obtain⟨_,_,ad',e',hc⟩:=hcs j hj;rw [e] at e';injection e' with e';subst e';exact hc
theorem place_cl{W:World}{gb:Nat}{a b c:ByteArray}{n1 n2:Int}{f:Bool}{A5 A6:Option Addr}{l5 c5 l6 c6:Nat}(hb:W.cell? ⟨gb,0,none⟩=some (.string b)) :
    Calls Tryz.prog 207 #[.agg #[.string a,.int .i64 n1,.string c,.bool f,.int .i64 n2,.slice A5 l5 c5,.slice A6 l6 c6],.pointer (some ⟨gb,0,none⟩)] W fun e w'=>e = .returned (.bool (a.toList == b.toList))∧Below W.heap.size W w':=by
  have hu47:=Tryz.underlying47;have hlt:=Qk W _ hb;go_enter Tryz.func207,Tryz.ntmps207;go_wp2;go_ret;exact⟨rfl,below_alloc (Below.refl _ _) _⟩
theorem blk2(w:World)(o1 o2:Obj):((w.alloc o1).alloc o2).heap[w.heap.size+1]? = some o2:=by
  have h:=blk_new (w.alloc o1) o2
  rwa [show (w.alloc o1).heap.size=w.heap.size+1 from Array.size_push _] at h
def placeOf(xs:List S47)(s:ByteArray):Int:=firstAt (fun j=>(xs.getD j z47).f0.toList == s.toList) xs.length
def model_Place.f(_l0_0:List ByteArray)(l0_1:List S47)(a1:ByteArray):Option Int:=some (placeOf l0_1 a1)
theorem model_Place.calls(A0_0:Option Addr)(c0_0:Nat)(l0_0:List ByteArray)(A0_1:Option Addr)(c0_1:Nat)(l0_1:List S47)(a1:ByteArray)(r:Int)(w:World)(hr0_0:Kd.C Kd.string w A0_0 l0_0.length l0_0)(hc0_0:l0_0.length≤c0_0)(hr0_1:Kd.C k47 w A0_1 l0_1.length l0_1)(hc0_1:l0_1.length≤c0_1)(h:model_Place.f l0_0 l0_1 a1=some r) :
  Calls Tryz.prog 151 #[.agg #[.slice A0_0 l0_0.length c0_0,.slice A0_1 l0_1.length c0_1],.string a1] w fun e w'=>e = .returned (.int .i64 r)∧Below w.heap.size w w':=by
 obtain rfl:=Qd h;clear h hr0_0 hc0_0 hc0_1;have hu25:=Tryz.underlying25;have hbig:=hr0_1.2.1;obtain⟨cs,hk,hK,hc⟩:=C_cells z47 hr0_1;have HI:∀ (W:World) (gb:Nat),Below w.heap.size w W→W.heap[gb]? = some (.cells #[.string a1] 9 (0,0)) →
   Calls Tryz.prog 155 #[.slice A0_1 l0_1.length c0_1,.func (.func 207) #[] #[.pointer (some ⟨gb,0,none⟩)]] W fun e w'=>e = .returned (.int .i64 (placeOf l0_1 a1))∧Below W.heap.size W w':=by
  intro W gb hW hgb;refine indexFuncItem A0_1 l0_1.length c0_1 207 #[.pointer (some ⟨gb,0,none⟩)] (enters_ Tryz.func207 rfl rfl) (fun j=>(l0_1.getD j z47).f0.toList == a1.toList) cs W hbig ?_ hk ?_
  ·
   intro j hj W2 hW2;obtain⟨A5,c5,A6,c6,e,l5,g5,l6,g6⟩:=k47_open (hK j hj);rw [e];refine(place_cl (W:=W2) (gb:=gb) (b:=a1) ?_).mono ?_
   ·
    have h1:W.cell? ⟨gb,0,none⟩=some (.string a1):=(blk_cell hgb 0).trans rfl;exact(hW2.cell (Qk W _ h1)).trans h1
   rintro e' w' ⟨rfl,h2⟩;exact⟨rfl,below_step hW2 h2⟩
  intro hn;obtain⟨ad,e,hcc⟩:=hc hn;refine⟨ad,e,fun j hj i u hu=>?_⟩;have h1:=hcc j hj i u hu;exact(hW.cell (Qk w _ h1)).trans h1
 have HII:=am HI;have HB:=am (Below.refl w.heap.size w);clear hc hK hk HI hr0_1;go_enter Tryz.func151,Tryz.ntmps151;go_wp2_with (first|(go_at_call 155;refine(HII.out _ _ (zb) (blk2 _ _ _)).mono ?_;rintro e w' ⟨rfl,hb⟩))
 go_ret;exact⟨rfl,below_step (below_alloc (below_alloc (Below.refl _ _) _) _) hb⟩
attribute [local go_sem] max2_int min2_int max_two min_two max_three min_three max_four min_four
def sentryref4_Place.l0:Nat→ByteArray→Int→List ByteArray→List (S47)→Option (Int)
  | 0, _, _, _, _ => none
  | k+1,x1,x5,x102000,x102001=>if x5<(x102001.length:Int) then (if 0≤x5 then (if ((rd_T47 x102001 x5).f0).toList=x1.toList then (some x5) else (sentryref4_Place.l0 k x1 (wrap64 (x5+1)) x102000 x102001)) else (none)) else (some (-1))
def sentryref4_Place.f(k:Nat)(l0_0:List ByteArray)(l0_1:List (S47))(a1:ByteArray):Option (Int):=sentryref4_Place.l0 k a1 0 l0_0 l0_1
theorem sentryref4_Place.calls(k:Nat)(A0_0:Option Addr)(c0_0:Nat)(l0_0:List ByteArray)(A0_1:Option Addr)(c0_1:Nat)(l0_1:List (S47))(a1:ByteArray)(r:Int)(w:World)(hr0_0:Kd.C Kd.string w A0_0 l0_0.length l0_0)(hc0_0:l0_0.length≤c0_0)(hr0_1:Kd.C k47 w A0_1 l0_1.length l0_1)(hc0_1:l0_1.length≤c0_1)(h:sentryref4_Place.f k l0_0 l0_1 a1=some r) :
  Calls Tryz.prog 45 #[.agg #[.slice A0_0 l0_0.length c0_0,.slice A0_1 l0_1.length c0_1],.string a1] w fun e w'=>e = .returned (.int .i64 r)∧Below w.heap.size w w':=by
 have hu25:=Tryz.underlying25;have HR0_0:=am hr0_0;have HC0_0:=am hc0_0;clear hr0_0 hc0_0;have HR0_1:=am hr0_1;have HC0_1:=am hc0_1;clear hr0_1 hc0_1;have HB:=am (Below.refl w.heap.size w);have H:(sentryref4_Place.l0 k a1 0 l0_0 l0_1)=some r:=h;clear h;have H':=am H;clear H;go_enter Tryz.func45,Tryz.ntmps45;go_wp2_with (first|((with_reducible refine gd_ 2 ?_);refine bx_ 2 #[.slice A0_0 l0_0.length c0_0,.slice A0_1 l0_1.length c0_1] 25 ?_;intro gb101 hg w3 hbox hb;have BK101:=am (hbox);have GW101:=am (zg:w.heap.size≤gb101);have GE101:=am (zg:w.heap.size≤gb101);replace HB:=am (below_step (zb) hb);clear hb hbox hg))
 go_loopg [5] k (fun kq v5 w' => ∃ (x5_1:Int),v5 = .int .i64 x5_1∧Aside0 (sentryref4_Place.l0 kq a1 x5_1 l0_0 l0_1=some r)∧Aside0 (kq≤k)∧Aside0 (w'.heap[gb101]? = some (.cells #[(.slice A0_0 l0_0.length c0_0),(.slice A0_1 l0_1.length c0_1)] 25 (0,0)))∧Aside0 (Below w.heap.size w w'))
 case atStart=>exact ⟨(0),(ze),H',⟨Nat.le_refl _⟩,⟨zl BK101.out⟩,⟨zb⟩⟩
 case round =>
  clear H';obtain⟨x5_1,rfl,HA,HK1,BK101,HB⟩:=hrel
  cases gk with
  | zero => exact absurd HA.out (by simp [sentryref4_Place.l0])
  | succ k1 =>
   have H:=HA.out;clear HA;simp only [sentryref4_Place.l0] at H;by_cases c4:x5_1<(l0_1.length:Int)
   ·
    rw [if_pos c4] at H;have c4b0:decide (x5_1<(l0_1.length:Int))=true:=Qb c4;clear c4;by_cases c5:0≤x5_1
    ·
     rw [if_pos c5] at H;have c5b0:decide (0≤x5_1)=true:=Qb c5;clear c5;by_cases c6:((rd_T47 l0_1 x5_1).f0).toList=a1.toList
     ·
      rw [if_pos c6] at H;have c6b0:(((rd_T47 l0_1 x5_1).f0).toList == a1.toList)=true:=Qh c6;have c6b1:(((rd_T47 l0_1 x5_1).f0).toList != a1.toList)=false:=Qf c6;clear c6;obtain rfl:=Qd H;obtain⟨hcz7_0,hcz7_1,hfz7_0,hfz7_1⟩:=cf2 BK101.out;have p102:0≤(x5_1:Int):=Qo;have q102:x5_1<(l0_1.length:Int):=Qo;obtain⟨ad102,A102_5,c102_5,A102_6,c102_6,e102,hx102_0,hx102_1,hx102_2,hx102_3,hx102_4,hx102_5,hx102_6,hl102_5,hi102_5,hl102_6,hi102_6⟩:=at_T47 HR0_1.out x5_1 p102 q102;cases e102;replace hx102_0:=ba HB hx102_0;replace hx102_1:=ba HB hx102_1;replace hx102_2:=ba HB hx102_2;replace hx102_3:=ba HB hx102_3;replace hx102_4:=ba HB hx102_4;replace hx102_5:=ba HB hx102_5;replace hx102_6:=ba HB hx102_6;have HR102_5:=am hi102_5;have HC102_5:=am hl102_5;clear hi102_5 hl102_5;have HR102_6:=am hi102_6;have HC102_6:=am hl102_6;clear hi102_6 hl102_6;replace p102:=eq_true p102;replace q102:=eq_true q102;go_wp2;go_ret;exact⟨zf,zb⟩
     rw [if_neg c6] at H;have c6b0:(((rd_T47 l0_1 x5_1).f0).toList == a1.toList)=false:=Qg c6;have c6b1:(((rd_T47 l0_1 x5_1).f0).toList != a1.toList)=true:=Qi c6;have H':=am H;clear H;obtain⟨hcz8_0,hcz8_1,hfz8_0,hfz8_1⟩:=cf2 BK101.out;have p102:0≤(x5_1:Int):=Qo;have q102:x5_1<(l0_1.length:Int):=Qo;obtain⟨ad102,A102_5,c102_5,A102_6,c102_6,e102,hx102_0,hx102_1,hx102_2,hx102_3,hx102_4,hx102_5,hx102_6,hl102_5,hi102_5,hl102_6,hi102_6⟩:=at_T47 HR0_1.out x5_1 p102 q102;cases e102;replace hx102_0:=ba HB hx102_0;replace hx102_1:=ba HB hx102_1;replace hx102_2:=ba HB hx102_2;replace hx102_3:=ba HB hx102_3;replace hx102_4:=ba HB hx102_4;replace hx102_5:=ba HB hx102_5;replace hx102_6:=ba HB hx102_6;have HR102_5:=am hi102_5;have HC102_5:=am hl102_5;clear hi102_5 hl102_5;have HR102_6:=am hi102_6;have HC102_6:=am hl102_6;clear hi102_6 hl102_6;replace p102:=eq_true p102;replace q102:=eq_true q102;go_wp2;go_roundg k1
     case measure=>have:=HK1.out;omega
     case rel=>exact ⟨(wrap64 (x5_1+1)),(ze),H',⟨by have:=HK1.out;omega⟩,⟨zl BK101.out⟩,⟨zb⟩⟩
    rw [if_neg c5] at H;exact absurd H (by simp)
   rw [if_neg c4] at H;have c4b0:decide (x5_1<(l0_1.length:Int))=false:=Qc c4;clear c4;obtain rfl:=Qd H;obtain⟨hcz9_0,hcz9_1,hfz9_0,hfz9_1⟩:=cf2 BK101.out;go_wp2;go_ret;exact⟨zf,zb⟩
def sentryref1_first.f(a0:Int):Option (Bool):=if a0≥97 then (if a0≤122 then (some true) else (if a0≥65 then (if a0≤90 then (some true) else (some (a0 == 95))) else (some (a0 == 95)))) else (if a0≥65 then (if a0≤90 then (some true) else (some (a0 == 95))) else (some (a0 == 95)))
theorem sentryref1_first.calls(a0:Int)(r:Bool)(w:World)(h:sentryref1_first.f a0=some r) :
  Calls Tryz.prog 119 #[.int .u8 a0] w fun e w'=>e = .returned (.bool r)∧Drawn0 w w':=by
 have H:(if a0≥97 then (if a0≤122 then (some true) else (if a0≥65 then (if a0≤90 then (some true) else (some (a0 == 95))) else (some (a0 == 95)))) else (if a0≥65 then (if a0≤90 then (some true) else (some (a0 == 95))) else (some (a0 == 95))))=some r:=h;clear h;by_cases c2:a0≥97
 ·
  rw [if_pos c2] at H;have c2b0:decide (97≤a0)=true:=Qb c2;clear c2;by_cases c3:a0≤122
  ·
   rw [if_pos c3] at H;have c3b0:decide (a0≤122)=true:=Qb c3;clear c3;obtain rfl:=Qd H;go_enter Tryz.func119,Tryz.ntmps119;go_wp2;go_ret;exact⟨ze,zd⟩
  rw [if_neg c3] at H;have c3b0:decide (a0≤122)=false:=Qc c3;clear c3;by_cases c4:a0≥65
  ·
   rw [if_pos c4] at H;have c4b0:decide (65≤a0)=true:=Qb c4;clear c4;by_cases c5:a0≤90
   ·
    rw [if_pos c5] at H;have c5b0:decide (a0≤90)=true:=Qb c5;clear c5;obtain rfl:=Qd H;go_enter Tryz.func119,Tryz.ntmps119;go_wp2;go_ret;exact⟨ze,zd⟩
   rw [if_neg c5] at H;have c5b0:decide (a0≤90)=false:=Qc c5;clear c5;obtain rfl:=Qd H;go_enter Tryz.func119,Tryz.ntmps119;go_wp2;go_ret;exact⟨ze,zd⟩
  rw [if_neg c4] at H;have c4b0:decide (65≤a0)=false:=Qc c4;clear c4;obtain rfl:=Qd H;go_enter Tryz.func119,Tryz.ntmps119;go_wp2;go_ret;exact⟨ze,zd⟩
 rw [if_neg c2] at H;have c2b0:decide (97≤a0)=false:=Qc c2;clear c2;by_cases c6:a0≥65
 ·
  rw [if_pos c6] at H;have c6b0:decide (65≤a0)=true:=Qb c6;clear c6;by_cases c7:a0≤90
  ·
   rw [if_pos c7] at H;have c7b0:decide (a0≤90)=true:=Qb c7;clear c7;obtain rfl:=Qd H;go_enter Tryz.func119,Tryz.ntmps119;go_wp2;go_ret;exact⟨ze,zd⟩
  rw [if_neg c7] at H;have c7b0:decide (a0≤90)=false:=Qc c7;clear c7;obtain rfl:=Qd H;go_enter Tryz.func119,Tryz.ntmps119;go_wp2;go_ret;exact⟨ze,zd⟩
 rw [if_neg c6] at H;have c6b0:decide (65≤a0)=false:=Qc c6;clear c6;obtain rfl:=Qd H;go_enter Tryz.func119,Tryz.ntmps119;go_wp2;go_ret;exact⟨ze,zd⟩
def sentryref1_Byte.f(a0:Int):Option (Bool):=(sentryref1_first.f a0).bind fun t101=>(if t101=true then (some true) else (if a0≥48 then (if a0≤57 then (some true) else (if a0=45 then (some true) else (some (a0 == 46)))) else (if a0=45 then (some true) else (some (a0 == 46)))))
theorem sentryref1_Byte.calls(a0:Int)(r:Bool)(w:World)(h:sentryref1_Byte.f a0=some r) :
  Calls Tryz.prog 120 #[.int .u8 a0] w fun e w'=>e = .returned (.bool r)∧Drawn0 w w':=by
 have H:((sentryref1_first.f a0).bind fun t101=>(if t101=true then (some true) else (if a0≥48 then (if a0≤57 then (some true) else (if a0=45 then (some true) else (some (a0 == 46)))) else (if a0=45 then (some true) else (some (a0 == 46))))))=some r:=h;clear h;replace H:=Qe H;obtain⟨t101,A20,H⟩:=H;replace H:(if t101=true then (some true) else (if a0≥48 then (if a0≤57 then (some true) else (if a0=45 then (some true) else (some (a0 == 46)))) else (if a0=45 then (some true) else (some (a0 == 46)))))=some r:=H;have A2:=am A20;clear A20;by_cases c3:t101=true
 ·
  subst c3;have H1:(some true)=some r:=by rw [if_pos rfl] at H;exact H
  clear H;have H:=H1;clear H1;obtain rfl:=Qd H;go_enter Tryz.func120,Tryz.ntmps120;go_wp2_with (first|((with_reducible refine gc_ 119 ?_);refine goesL_ (some 4) rfl rfl Tryz.func119 (by kernel_rfl) rfl #[.int .u8 a0] rfl (za) ?_;(with_reducible refine (sentryref1_first.calls a0 true _ A2.out).mono ?_);rintro e w' ⟨rfl,⟨nd,rfl⟩⟩;refine⟨_,rfl,?_⟩))
  go_ret;exact⟨ze,zd⟩
 replace c3:=Qj c3;subst c3;have H1:(if a0≥48 then (if a0≤57 then (some true) else (if a0=45 then (some true) else (some (a0 == 46)))) else (if a0=45 then (some true) else (some (a0 == 46))))=some r:=by rw [if_neg (show ¬ (false=true) by decide)] at H;exact H
 clear H;have H:=H1;clear H1;by_cases c4:a0≥48
 ·
  rw [if_pos c4] at H;have c4b0:decide (48≤a0)=true:=Qb c4;clear c4;by_cases c5:a0≤57
  ·
   rw [if_pos c5] at H;have c5b0:decide (a0≤57)=true:=Qb c5;clear c5;obtain rfl:=Qd H;go_enter Tryz.func120,Tryz.ntmps120;go_wp2_with (first|((with_reducible refine gc_ 119 ?_);refine goesL_ (some 4) rfl rfl Tryz.func119 (by kernel_rfl) rfl #[.int .u8 a0] rfl (za) ?_;(with_reducible refine (sentryref1_first.calls a0 false _ A2.out).mono ?_);rintro e w' ⟨rfl,⟨nd,rfl⟩⟩;refine⟨_,rfl,?_⟩))
   go_ret;exact⟨ze,zd⟩
  rw [if_neg c5] at H;have c5b0:decide (a0≤57)=false:=Qc c5;clear c5;by_cases c6:a0=45
  ·
   rw [if_pos c6] at H;have c6b0:(a0 == 45)=true:=Qh c6;have c6b1:(a0 != 45)=false:=Qf c6;clear c6;obtain rfl:=Qd H;go_enter Tryz.func120,Tryz.ntmps120;go_wp2_with (first|((with_reducible refine gc_ 119 ?_);refine goesL_ (some 4) rfl rfl Tryz.func119 (by kernel_rfl) rfl #[.int .u8 a0] rfl (za) ?_;(with_reducible refine (sentryref1_first.calls a0 false _ A2.out).mono ?_);rintro e w' ⟨rfl,⟨nd,rfl⟩⟩;refine⟨_,rfl,?_⟩))
   go_ret;exact⟨ze,zd⟩
  rw [if_neg c6] at H;have c6b0:(a0 == 45)=false:=Qg c6;have c6b1:(a0 != 45)=true:=Qi c6;obtain rfl:=Qd H;go_enter Tryz.func120,Tryz.ntmps120;go_wp2_with (first|((with_reducible refine gc_ 119 ?_);refine goesL_ (some 4) rfl rfl Tryz.func119 (by kernel_rfl) rfl #[.int .u8 a0] rfl (za) ?_;(with_reducible refine (sentryref1_first.calls a0 false _ A2.out).mono ?_);rintro e w' ⟨rfl,⟨nd,rfl⟩⟩;refine⟨_,rfl,?_⟩))
  go_ret;exact⟨ze,zd⟩
 rw [if_neg c4] at H;have c4b0:decide (48≤a0)=false:=Qc c4;clear c4;by_cases c7:a0=45
 ·
  rw [if_pos c7] at H;have c7b0:(a0 == 45)=true:=Qh c7;have c7b1:(a0 != 45)=false:=Qf c7;clear c7;obtain rfl:=Qd H;go_enter Tryz.func120,Tryz.ntmps120;go_wp2_with (first|((with_reducible refine gc_ 119 ?_);refine goesL_ (some 4) rfl rfl Tryz.func119 (by kernel_rfl) rfl #[.int .u8 a0] rfl (za) ?_;(with_reducible refine (sentryref1_first.calls a0 false _ A2.out).mono ?_);rintro e w' ⟨rfl,⟨nd,rfl⟩⟩;refine⟨_,rfl,?_⟩))
  go_ret;exact⟨ze,zd⟩
 rw [if_neg c7] at H;have c7b0:(a0 == 45)=false:=Qg c7;have c7b1:(a0 != 45)=true:=Qi c7;obtain rfl:=Qd H;go_enter Tryz.func120,Tryz.ntmps120;go_wp2_with (first|((with_reducible refine gc_ 119 ?_);refine goesL_ (some 4) rfl rfl Tryz.func119 (by kernel_rfl) rfl #[.int .u8 a0] rfl (za) ?_;(with_reducible refine (sentryref1_first.calls a0 false _ A2.out).mono ?_);rintro e w' ⟨rfl,⟨nd,rfl⟩⟩;refine⟨_,rfl,?_⟩))
 go_ret;exact⟨ze,zd⟩
mutual
def sentryref1_Is.j0:Nat→ByteArray→Bool→Option (Bool)
  | 0, _, _ => none
  | k+1,x0,x17=>if x17=true then (some false) else (sentryref1_Is.l0 k x0 0)
def sentryref1_Is.l0:Nat→ByteArray→Int→Option (Bool)
  | 0, _, _ => none
  | k+1,x0,x3=>if x3<(x0.size:Int) then (if 0≤x3 then ((sentryref1_Byte.f (bt x0 x3)).bind fun t102=>(if t102=true then (sentryref1_Is.l0 k x0 (wrap64 (x3+1))) else (some false))) else (none)) else (some true)
end
def sentryref1_Is.f(k:Nat)(a0:ByteArray):Option (Bool):=if (a0.size:Int)<1 then (sentryref1_Is.j0 k a0 true) else (if (a0.size:Int)>12 then (sentryref1_Is.j0 k a0 true) else (if 0<(a0.size:Int) then ((sentryref1_first.f (bt a0 0)).bind fun t101=>(sentryref1_Is.j0 k a0 (!t101))) else (none)))
theorem sentryref1_Is.calls(k : Nat)(a0 : ByteArray)(r : Bool)(w : World)(h : sentryref1_Is.f k a0 = some r) :
  Calls Tryz.prog 72 #[.string a0] w fun e w'=>e = .returned (.bool r)∧Drawn0 w w':=by
 have H:(if (a0.size:Int)<1 then (sentryref1_Is.j0 k a0 true) else (if (a0.size:Int)>12 then (sentryref1_Is.j0 k a0 true) else (if 0<(a0.size:Int) then ((sentryref1_first.f (bt a0 0)).bind fun t101=>(sentryref1_Is.j0 k a0 (!t101))) else (none))))=some r:=h;clear h;have HC2:=am H;clear H;go_enter Tryz.func72,Tryz.ntmps72;go_upto_region 1 with (fail)
 go_cut [17] (fun v17 wc => ∃ (kq:Nat) (x17_1:Bool),v17 = .bool x17_1∧Aside0 (sentryref1_Is.j0 kq a0 x17_1=some r)∧Aside0 (kq≤k)∧Drawn0 w wc)
 case first =>
  have H:=HC2.out;clear HC2;by_cases c3:(a0.size:Int)<1
  ·
   rw [if_pos c3] at H;have c3b0:=Qb c3;have c3b1:decide (a0.size<1)=true:=Qb (by omega);clear c3
   (first|rw [c3b0] | (simp only [i64_w,i32_w];rw [c3b0])|skip)
   have H':=am H;clear H;go_wp2;go_meet
   case rel=>exact ⟨_,(true),(ze),H',⟨by first|omega|exact Nat.le_refl _⟩,zd⟩
  rw [if_neg c3] at H;have c3b0:=Qc c3;have c3b1:decide (a0.size<1)=false:=Qc (by omega);clear c3
  (first|rw [c3b0] | (simp only [i64_w,i32_w];rw [c3b0])|skip)
  by_cases c4:(a0.size:Int)>12
  ·
   rw [if_pos c4] at H;have c4b0:decide (12<(a0.size:Int))=true:=Qb c4;have c4b1:decide (12<a0.size)=true:=Qb (by omega);clear c4;have H':=am H;clear H;go_wp2;go_meet
   case rel=>exact ⟨_,(true),(ze),H',⟨by first|omega|exact Nat.le_refl _⟩,zd⟩
  rw [if_neg c4] at H;have c4b0:decide (12<(a0.size:Int))=false:=Qc c4;have c4b1:decide (12<a0.size)=false:=Qc (by omega);clear c4;by_cases c5:0<(a0.size:Int)
  ·
   rw [if_pos c5] at H;have c5b0:=Qb c5;have c5b1:decide (0<a0.size)=true:=Qb (by omega);clear c5;replace H:=Qe H;obtain⟨t101,A70,H⟩:=H;have A7:=am A70;clear A70;have H':=am H;clear H;have p6:0≤(0:Int):=(by omega);have q6:0<a0.size:=(by have:(0:Int)<(a0.size:Int):=Qo;omega);have hx6:∀ h:0<a0.size,((a0[0]'h).toNat:Int)=bt a0 0:=bt_at a0 0;clear p6;have qi6:(0<(a0.size:Int))=True:=eq_true (Qo);replace q6:=eq_true q6;go_wp2_with (first|(go_at_call 119;(with_reducible refine (sentryref1_first.calls (bt a0 0) t101 _ A7.out).mono ?_);rintro e w' ⟨rfl,⟨nd,rfl⟩⟩))
   go_meet
   case rel=>exact ⟨_,(!t101),(ze),H',⟨by first|omega|exact Nat.le_refl _⟩,zd⟩
  rw [if_neg c5] at H;exact absurd H (by simp)
 case rest =>
  clear HC2;obtain⟨kq,x17_1,rfl,HA,HJ1,⟨mc1,rfl⟩⟩:=hcut
  cases kq with
  | zero => exact absurd HA.out (by simp [sentryref1_Is.j0])
  | succ kj1 =>
   have H:=HA.out;clear HA;simp only [sentryref1_Is.j0] at H;by_cases c8:x17_1=true
   ·
    subst c8;have H1:(some false)=some r:=by rw [if_pos rfl] at H;exact H
    clear H;have H:=H1;clear H1;obtain rfl:=Qd H;go_wp2;go_ret;exact⟨ze,zd⟩
   replace c8:=Qj c8;subst c8;have H1:(sentryref1_Is.l0 kj1 a0 0)=some r:=by rw [if_neg (show ¬ (false=true) by decide)] at H;exact H
   clear H;have H:=H1;clear H1;have H':=am H;clear H;go_wp2;go_loopg [3] kj1 (fun kq v3 w' => ∃ (x3_2:Int),v3 = .int .i64 x3_2∧Aside0 (sentryref1_Is.l0 kq a0 x3_2=some r)∧Aside0 (kq≤kj1)∧Drawn0 w w')
   case atStart=>exact ⟨(0),(ze),H',⟨Nat.le_refl _⟩,zd⟩
   case round =>
    clear H';obtain⟨x3_2,rfl,HA,HK2,⟨m2,rfl⟩⟩:=hrel
    cases gk with
    | zero => exact absurd HA.out (by simp [sentryref1_Is.l0])
    | succ k2 =>
     have H:=HA.out;clear HA;simp only [sentryref1_Is.l0] at H;by_cases c9:x3_2<(a0.size:Int)
     ·
      rw [if_pos c9] at H;have c9b0:=Qb c9;clear c9;by_cases c10:0≤x3_2
      ·
       rw [if_pos c10] at H;have c10b0:=Qb c10;clear c10;replace H:=Qe H;obtain⟨t102,A120,H⟩:=H;have A12:=am A120;clear A120;by_cases c13:t102=true
       ·
        subst c13;have H1:(sentryref1_Is.l0 k2 a0 (wrap64 (x3_2+1)))=some r:=by rw [if_pos rfl] at H;exact H
        clear H;have H:=H1;clear H1;have H':=am H;clear H;have p11:0≤(x3_2:Int):=Qo;have q11:x3_2<(a0.size:Int):=Qo;have hx11:=bt_at a0 x3_2;replace p11:=eq_true p11;replace q11:=eq_true q11;go_wp2_with (first|((with_reducible refine gc_ 120 ?_);refine goesL_ (some 27) rfl rfl Tryz.func120 (by kernel_rfl) rfl #[.int .u8 (bt a0 x3_2)] rfl (za) ?_;(with_reducible refine (sentryref1_Byte.calls (bt a0 x3_2) true _ A12.out).mono ?_);rintro e w' ⟨rfl,⟨nd,rfl⟩⟩;refine⟨_,rfl,?_⟩))
        go_roundg k2
        case measure=>have:=HJ1.out;have:=HK2.out;omega
        case rel=>exact ⟨(wrap64 (x3_2+1)),(ze),H',⟨by have:=HJ1.out;have:=HK2.out;omega⟩,zd⟩
       replace c13:=Qj c13;subst c13;have H1:(some false)=some r:=by rw [if_neg (show ¬ (false=true) by decide)] at H;exact H
       clear H;have H:=H1;clear H1;obtain rfl:=Qd H;have p11:0≤(x3_2:Int):=Qo;have q11:x3_2<(a0.size:Int):=Qo;have hx11:=bt_at a0 x3_2;replace p11:=eq_true p11;replace q11:=eq_true q11;go_wp2_with (first|((with_reducible refine gc_ 120 ?_);refine goesL_ (some 27) rfl rfl Tryz.func120 (by kernel_rfl) rfl #[.int .u8 (bt a0 x3_2)] rfl (za) ?_;(with_reducible refine (sentryref1_Byte.calls (bt a0 x3_2) false _ A12.out).mono ?_);rintro e w' ⟨rfl,⟨nd,rfl⟩⟩;refine⟨_,rfl,?_⟩))
       go_ret;exact⟨ze,zd⟩
      rw [if_neg c10] at H;exact absurd H (by simp)
     rw [if_neg c9] at H;have c9b0:=Qc c9;clear c9;obtain rfl:=Qd H;go_wp2;go_ret;exact⟨ze,zd⟩
def sentryref4_File.l0:Nat→List ByteArray→ByteArray→Int→Option (Bool)
  | 0, _, _, _ => none
  | k+1,x0,x1,x5=>if x5<(x0.length:Int) then (if 0≤x5 then (if (rdOf ByteArray.empty x0 x5).toList=x1.toList then (some true) else (sentryref4_File.l0 k x0 x1 (wrap64 (x5+1)))) else (none)) else (some false)
def sentryref4_File.f(k:Nat)(l0:List ByteArray)(a1:ByteArray):Option (Bool):=sentryref4_File.l0 k l0 a1 0
theorem sentryref4_File.calls(k:Nat)(A0:Option Addr)(c0:Nat)(l0:List ByteArray)(a1:ByteArray)(r:Bool)(w:World)(hr0:Kd.C Kd.string w A0 l0.length l0)(hc0:l0.length≤c0)(h:sentryref4_File.f k l0 a1=some r) :
  Calls Tryz.prog 73 #[.slice A0 l0.length c0,.string a1] w fun e w'=>e = .returned (.bool r)∧Drawn0 w w':=by
 have HR0:=am hr0;have HC0:=am hc0;clear hr0 hc0;have H:(sentryref4_File.l0 k l0 a1 0)=some r:=h;clear h;have H':=am H;clear H;go_enter Tryz.func73,Tryz.ntmps73;go_wp2;go_loopg [5] k (fun kq v5 w' => ∃ (x5_1:Int),v5 = .int .i64 x5_1∧Aside0 (sentryref4_File.l0 kq l0 a1 x5_1=some r)∧Aside0 (kq≤k)∧Drawn0 w w')
 case atStart=>exact ⟨(0),(ze),H',⟨Nat.le_refl _⟩,zd⟩
 case round =>
  clear H';obtain⟨x5_1,rfl,HA,HK1,⟨m1,rfl⟩⟩:=hrel
  cases gk with
  | zero => exact absurd HA.out (by simp [sentryref4_File.l0])
  | succ k1 =>
   have H:=HA.out;clear HA;simp only [sentryref4_File.l0] at H;by_cases c3:x5_1<(l0.length:Int)
   ·
    rw [if_pos c3] at H;have c3b0:decide (x5_1<(l0.length:Int))=true:=Qb c3;clear c3;by_cases c4:0≤x5_1
    ·
     rw [if_pos c4] at H;have c4b0:decide (0≤x5_1)=true:=Qb c4;clear c4;by_cases c5:(rdOf ByteArray.empty l0 x5_1).toList=a1.toList
     ·
      rw [if_pos c5] at H;have c5b0:((rdOf ByteArray.empty l0 x5_1).toList == a1.toList)=true:=Qh c5;have c5b1:((rdOf ByteArray.empty l0 x5_1).toList != a1.toList)=false:=Qf c5;clear c5;obtain rfl:=Qd H;have p101:0≤(x5_1:Int):=Qo;have q101:x5_1<(l0.length:Int):=Qo;obtain⟨ad101,e101,hx101_0⟩:=Kd.at_string HR0.out x5_1 p101 q101;cases e101;replace p101:=eq_true p101;replace q101:=eq_true q101;go_wp2;go_ret;exact⟨ze,zd⟩
     rw [if_neg c5] at H;have c5b0:((rdOf ByteArray.empty l0 x5_1).toList == a1.toList)=false:=Qg c5;have c5b1:((rdOf ByteArray.empty l0 x5_1).toList != a1.toList)=true:=Qi c5;have H':=am H;clear H;have p101:0≤(x5_1:Int):=Qo;have q101:x5_1<(l0.length:Int):=Qo;obtain⟨ad101,e101,hx101_0⟩:=Kd.at_string HR0.out x5_1 p101 q101;cases e101;replace p101:=eq_true p101;replace q101:=eq_true q101;go_wp2;go_roundg k1
     case measure=>have:=HK1.out;omega
     case rel=>exact ⟨(wrap64 (x5_1+1)),(ze),H',⟨by have:=HK1.out;omega⟩,zd⟩
    rw [if_neg c4] at H;exact absurd H (by simp)
   rw [if_neg c3] at H;have c3b0:decide (x5_1<(l0.length:Int))=false:=Qc c3;clear c3;obtain rfl:=Qd H;go_wp2;go_ret;exact⟨ze,zd⟩
mutual
def sentryref4_Legal.j0:Nat→Int→Int→Bool→Option (Bool)
  | 0, _, _, _ => none
  | k+1,x0,x1,x10=>if x10=true then (some false) else (if x1=1 then (sentryref4_Legal.j1 k x0 x1 (x1 == 1)) else (sentryref4_Legal.j1 k x0 x1 (x1 == 5)))
def sentryref4_Legal.j1:Nat→Int→Int→Bool→Option (Bool)
  | 0, _, _, _ => none
  | k+1,x0,x11,x12=>if x12=true then (some true) else (if x11=2 then (sentryref4_Legal.j2 k x0 x11 (x11 == 2)) else (sentryref4_Legal.j2 k x0 x11 (x11 == 3)))
def sentryref4_Legal.j2:Nat→Int→Int→Bool→Option (Bool)
  | 0, _, _, _ => none
  | k+1,x0,x11,x15=>if x15=true then (some (decide (x0≤2))) else (if x11=4 then (some (decide (x0>2))) else (some false))
end
def sentryref4_Legal.f(k:Nat)(a0:Int)(a1:Int):Option (Bool):=if a0<1 then (sentryref4_Legal.j0 k a0 a1 true) else (sentryref4_Legal.j0 k a0 a1 (decide (a0>5)))
theorem sentryref4_Legal.calls(k : Nat)(a0 : Int)(a1 : Int)(r : Bool)(w : World)(h : sentryref4_Legal.f k a0 a1 = some r) :
  Calls Tryz.prog 161 #[.int .i64 a0,.int .i64 a1] w fun e w'=>e = .returned (.bool r)∧Drawn0 w w':=by
 have H:(if a0<1 then (sentryref4_Legal.j0 k a0 a1 true) else (sentryref4_Legal.j0 k a0 a1 (decide (a0>5))))=some r:=h;clear h;have HC3:=am H;clear H;go_enter Tryz.func161,Tryz.ntmps161;go_upto_region 1 with (fail)
 go_cut [10] (fun v10 wc => ∃ (kq:Nat) (x10_2:Bool),v10 = .bool x10_2∧Aside0 (sentryref4_Legal.j0 kq a0 a1 x10_2=some r)∧Aside0 (kq≤k)∧Drawn0 w wc)
 case first =>
  have H:=HC3.out;clear HC3;by_cases c4:a0<1
  ·
   rw [if_pos c4] at H;have c4b0:=Qb c4;clear c4
   (first|rw [c4b0] | (simp only [i64_w,i32_w];rw [c4b0])|skip)
   have H':=am H;clear H;go_wp2;go_meet
   case rel=>exact ⟨_,(true),(ze),H',⟨by first|omega|exact Nat.le_refl _⟩,zd⟩
  rw [if_neg c4] at H;have c4b0:=Qc c4;clear c4
  (first|rw [c4b0] | (simp only [i64_w,i32_w];rw [c4b0])|skip)
  have H':=am H;clear H;go_wp2;go_meet
  case rel=>exact ⟨_,(decide (a0>5)),(ze),H',⟨by first|omega|exact Nat.le_refl _⟩,zd⟩
 case rest =>
  clear HC3;obtain⟨kq,x10_2,rfl,HA,HJ2,⟨mc2,rfl⟩⟩:=hcut
  cases kq with
  | zero => exact absurd HA.out (by simp [sentryref4_Legal.j0])
  | succ kj2 =>
   have H:=HA.out;clear HA;simp only [sentryref4_Legal.j0] at H;by_cases c5:x10_2=true
   ·
    subst c5;have H1:(some false)=some r:=by rw [if_pos rfl] at H;exact H
    clear H;have H:=H1;clear H1;obtain rfl:=Qd H;go_wp2;go_ret;exact⟨ze,zd⟩
   replace c5:=Qj c5;subst c5;have H1:(if a1=1 then (sentryref4_Legal.j1 kj2 a0 a1 (a1 == 1)) else (sentryref4_Legal.j1 kj2 a0 a1 (a1 == 5)))=some r:=by rw [if_neg (show ¬ (false=true) by decide)] at H;exact H
   clear H;have H:=H1;clear H1;have HC6:=am H;clear H;go_upto_if 12 with (fail)
   go_cut [12] (fun v12 wc => ∃ (kq:Nat) (x12_5:Bool),v12 = .bool x12_5∧Aside0 (sentryref4_Legal.j1 kq a0 a1 x12_5=some r)∧Aside0 (kq≤kj2)∧Drawn0 w wc)
   case first =>
    have H:=HC6.out;clear HC6;by_cases c7:a1=1
    ·
     rw [if_pos c7] at H;have c7b0:=Qh c7;have c7b1:=Qf c7;clear c7
     (first|rw [c7b0] | (simp only [i64_w,i32_w];rw [c7b0])|skip)
     have H':=am H;clear H;go_wp2;go_meet
     case rel=>exact ⟨_,((a1 == 1)),(ze),H',⟨by have:=HJ2.out;first|omega|exact Nat.le_refl _⟩,zd⟩
    rw [if_neg c7] at H;have c7b0:=Qg c7;have c7b1:=Qi c7
    (first|rw [c7b0] | (simp only [i64_w,i32_w];rw [c7b0])|skip)
    have H':=am H;clear H;go_wp2;go_meet
    case rel=>exact ⟨_,((a1 == 5)),(ze),H',⟨by have:=HJ2.out;first|omega|exact Nat.le_refl _⟩,zd⟩
   case rest =>
    clear HC6;obtain⟨kq,x12_5,rfl,HA,HJ5,⟨mc5,rfl⟩⟩:=hcut
    cases kq with
    | zero => exact absurd HA.out (by simp [sentryref4_Legal.j1])
    | succ kj5 =>
     have H:=HA.out;clear HA;simp only [sentryref4_Legal.j1] at H;by_cases c8:x12_5=true
     ·
      subst c8;have H1:(some true)=some r:=by rw [if_pos rfl] at H;exact H
      clear H;have H:=H1;clear H1;obtain rfl:=Qd H;go_wp2;go_ret;exact⟨ze,zd⟩
     replace c8:=Qj c8;subst c8;have H1:(if a1=2 then (sentryref4_Legal.j2 kj5 a0 a1 (a1 == 2)) else (sentryref4_Legal.j2 kj5 a0 a1 (a1 == 3)))=some r:=by rw [if_neg (show ¬ (false=true) by decide)] at H;exact H
     clear H;have H:=H1;clear H1;have HC9:=am H;clear H;go_upto_if 15 with (fail)
     go_cut [15] (fun v15 wc => ∃ (kq:Nat) (x15_8:Bool),v15 = .bool x15_8∧Aside0 (sentryref4_Legal.j2 kq a0 a1 x15_8=some r)∧Aside0 (kq≤kj5)∧Drawn0 w wc)
     case first =>
      have H:=HC9.out;clear HC9;by_cases c10:a1=2
      ·
       rw [if_pos c10] at H;have c10b0:=Qh c10;have c10b1:=Qf c10;clear c10
       (first|rw [c10b0] | (simp only [i64_w,i32_w];rw [c10b0])|skip)
       have H':=am H;clear H;go_wp2;go_meet
       case rel=>exact ⟨_,((a1 == 2)),(ze),H',⟨by have:=HJ2.out;have:=HJ5.out;first|omega|exact Nat.le_refl _⟩,zd⟩
      rw [if_neg c10] at H;have c10b0:=Qg c10;have c10b1:=Qi c10
      (first|rw [c10b0] | (simp only [i64_w,i32_w];rw [c10b0])|skip)
      have H':=am H;clear H;go_wp2;go_meet
      case rel=>exact ⟨_,((a1 == 3)),(ze),H',⟨by have:=HJ2.out;have:=HJ5.out;first|omega|exact Nat.le_refl _⟩,zd⟩
     case rest =>
      clear HC9;obtain⟨kq,x15_8,rfl,HA,HJ8,⟨mc8,rfl⟩⟩:=hcut
      cases kq with
      | zero => exact absurd HA.out (by simp [sentryref4_Legal.j2])
      | succ kj8 =>
       have H:=HA.out;clear HA;simp only [sentryref4_Legal.j2] at H;by_cases c11:x15_8=true
       ·
        subst c11;have H1:(some (decide (a0≤2)))=some r:=by rw [if_pos rfl] at H;exact H
        clear H;have H:=H1;clear H1;obtain rfl:=Qd H;go_wp2;go_ret;exact⟨ze,zd⟩
       replace c11:=Qj c11;subst c11;have H1:(if a1=4 then (some (decide (a0>2))) else (some false))=some r:=by rw [if_neg (show ¬ (false=true) by decide)] at H;exact H
       clear H;have H:=H1;clear H1;by_cases c12:a1=4
       ·
        rw [if_pos c12] at H;have c12b0:=Qh c12;have c12b1:=Qf c12;clear c12;obtain rfl:=Qd H;go_wp2;go_ret;exact⟨ze,zd⟩
       rw [if_neg c12] at H;have c12b0:=Qg c12;have c12b1:=Qi c12;obtain rfl:=Qd H;go_wp2;go_ret;exact⟨ze,zd⟩
def sentryref4_Op.l0:Nat→ByteArray→List ByteArray→Int→Option (Int)
  | 0, _, _, _ => none
  | k+1,x0,x3,x4=>if x4<(x3.length:Int) then (if 0≤x4 then (if (rdOf ByteArray.empty x3 x4).toList=x0.toList then (some x4) else (sentryref4_Op.l0 k x0 x3 (wrap64 (x4+1)))) else (none)) else (some (-1))
def sentryref4_Op.f(k:Nat)(a0:ByteArray):Option (Int):=sentryref4_Op.l0 k a0 (([(⟨#[60]⟩:ByteArray),(⟨#[60,61]⟩:ByteArray),(⟨#[61]⟩:ByteArray),(⟨#[33,61]⟩:ByteArray),(⟨#[62,61]⟩:ByteArray),(⟨#[62]⟩:ByteArray)]:List ByteArray)) 0
theorem sentryref4_Op.calls(k:Nat)(a0:ByteArray)(r:Int)(w:World)(h:sentryref4_Op.f k a0=some r) :
  Calls Tryz.prog 162 #[.string a0] w fun e w'=>e = .returned (.int .i64 r)∧Below w.heap.size w w':=by
 have HB:=am (Below.refl w.heap.size w);have H:(sentryref4_Op.l0 k a0 (([(⟨#[60]⟩:ByteArray),(⟨#[60,61]⟩:ByteArray),(⟨#[61]⟩:ByteArray),(⟨#[33,61]⟩:ByteArray),(⟨#[62,61]⟩:ByteArray),(⟨#[62]⟩:ByteArray)]:List ByteArray)) 0)=some r:=h;clear h;obtain⟨y101,hy101⟩:∃ y_:List ByteArray,y_=(([(⟨#[60]⟩:ByteArray),(⟨#[60,61]⟩:ByteArray),(⟨#[61]⟩:ByteArray),(⟨#[33,61]⟩:ByteArray),(⟨#[62,61]⟩:ByteArray),(⟨#[62]⟩:ByteArray)]:List ByteArray)):=⟨_,rfl⟩;replace H:(sentryref4_Op.l0 k a0 y101 0)=some r:=by first|(rw [hy101];with_reducible exact H)|(have H2_:=(Option.bind_some _ _).symm.trans H;rw [hy101];with_reducible exact H2_)|(have H2_:=(Option.bind_some _ _).symm.trans H;with_reducible exact H2_)|with_reducible exact H|(rw [hy101];exact H)|exact H
 have Ny101:=am hy101;clear hy101;have H':=am H;clear H;go_enter Tryz.func162,Tryz.ntmps162;go_wp2_with (first|((with_reducible refine gd_ 5 ?_);refine Kd.R_lit Kd.string _ 9 ?hg (N:=5) ?hd (xs:=([(⟨#[60]⟩:ByteArray),(⟨#[60,61]⟩:ByteArray),(⟨#[61]⟩:ByteArray),(⟨#[33,61]⟩:ByteArray),(⟨#[62,61]⟩:ByteArray),(⟨#[62]⟩:ByteArray)]:List ByteArray)) (inner:=[.string (⟨#[60]⟩:ByteArray),.string (⟨#[60,61]⟩:ByteArray),.string (⟨#[61]⟩:ByteArray),.string (⟨#[33,61]⟩:ByteArray),.string (⟨#[62,61]⟩:ByteArray),.string (⟨#[62]⟩:ByteArray)]) (ok:=fun _=>True) (okp:=fun _=>True) ?hr ?hp (fun _ hk=>hk) trivial (Below.refl _ _) (Nat.le_refl _) (by simp) ?_;(case hd=>rfl);(case hg=>rfl);(case hr=>first|(go_simp;done)|(go_simp;rfl));(case hp=>exact (Reps.one (show Kd.M Kd.string _ _ _ (⟨#[60]⟩:ByteArray) [.string (⟨#[60]⟩:ByteArray)] from rfl) (Reps.one (show Kd.M Kd.string _ _ _ (⟨#[60,61]⟩:ByteArray) [.string (⟨#[60,61]⟩:ByteArray)] from rfl) (Reps.one (show Kd.M Kd.string _ _ _ (⟨#[61]⟩:ByteArray) [.string (⟨#[61]⟩:ByteArray)] from rfl) (Reps.one (show Kd.M Kd.string _ _ _ (⟨#[33,61]⟩:ByteArray) [.string (⟨#[33,61]⟩:ByteArray)] from rfl) (Reps.one (show Kd.M Kd.string _ _ _ (⟨#[62,61]⟩:ByteArray) [.string (⟨#[62,61]⟩:ByteArray)] from rfl) (Reps.one (show Kd.M Kd.string _ _ _ (⟨#[62]⟩:ByteArray) [.string (⟨#[62]⟩:ByteArray)] from rfl) (Reps.none _ _))))))));intro v102 w2 ho3 hb hg_ hnew_;clear hg_ hnew_;(first|rw [← Ny101.out] at ho3|(simp only [Int.reduceToNat] at ho3;rw [← Ny101.out] at ho3));have HO103:=am (Kd.R_lower ho3 (below_size (zb)));replace HB:=am (below_step (zb) hb);clear hb ho3))
 go_loopg [4] k (fun kq v4 w' => ∃ (x4_1:Int),v4 = .int .i64 x4_1∧Aside0 (sentryref4_Op.l0 kq a0 y101 x4_1=some r)∧Aside0 (kq≤k)∧Aside0 (Kd.R Kd.string 9 w' w.heap.size (fun _=>True) v102 y101)∧Aside0 (Below w.heap.size w w'))
 case atStart=>exact ⟨(0),(ze),H',⟨Nat.le_refl _⟩,⟨zR HO103.out⟩,⟨zb⟩⟩
 case round =>
  clear H';obtain⟨x4_1,rfl,HA,HK1,HO_3,HB⟩:=hrel
  cases gk with
  | zero => exact absurd HA.out (by simp [sentryref4_Op.l0])
  | succ k1 =>
   have H:=HA.out;clear HA;simp only [sentryref4_Op.l0] at H;by_cases c4:x4_1<(y101.length:Int)
   ·
    rw [if_pos c4] at H;have c4b0:decide (x4_1<(y101.length:Int))=true:=Qb c4;clear c4;by_cases c5:0≤x4_1
    ·
     rw [if_pos c5] at H;have c5b0:decide (0≤x4_1)=true:=Qb c5;clear c5;by_cases c6:(rdOf ByteArray.empty y101 x4_1).toList=a0.toList
     ·
      rw [if_pos c6] at H;have c6b0:((rdOf ByteArray.empty y101 x4_1).toList == a0.toList)=true:=Qh c6;have c6b1:((rdOf ByteArray.empty y101 x4_1).toList != a0.toList)=false:=Qf c6;clear c6;obtain rfl:=Qd H;obtain⟨Ao7,co7,eo7⟩:=Kd.R_slice HO_3.out;subst eo7;have p104:0≤(x4_1:Int):=Qo;have q104:x4_1<(y101.length:Int):=Qo;obtain⟨ad104,e104,hx104_0⟩:=Kd.at_string (Kd.R_reads' HO_3.out).2.2 x4_1 p104 q104;cases e104;replace p104:=eq_true p104;replace q104:=eq_true q104;go_wp2;go_ret;exact⟨zf,zb⟩
     rw [if_neg c6] at H;have c6b0:((rdOf ByteArray.empty y101 x4_1).toList == a0.toList)=false:=Qg c6;have c6b1:((rdOf ByteArray.empty y101 x4_1).toList != a0.toList)=true:=Qi c6;have H':=am H;clear H;obtain⟨Ao8,co8,eo8⟩:=Kd.R_slice HO_3.out;subst eo8;have p104:0≤(x4_1:Int):=Qo;have q104:x4_1<(y101.length:Int):=Qo;obtain⟨ad104,e104,hx104_0⟩:=Kd.at_string (Kd.R_reads' HO_3.out).2.2 x4_1 p104 q104;cases e104;replace p104:=eq_true p104;replace q104:=eq_true q104;go_wp2;go_roundg k1
     case measure=>have:=HK1.out;omega
     case rel=>exact ⟨(wrap64 (x4_1+1)),(ze),H',⟨by have:=HK1.out;omega⟩,⟨zR HO_3.out⟩,⟨zb⟩⟩
    rw [if_neg c5] at H;exact absurd H (by simp)
   rw [if_neg c4] at H;have c4b0:decide (x4_1<(y101.length:Int))=false:=Qc c4;clear c4;obtain rfl:=Qd H;obtain⟨Ao9,co9,eo9⟩:=Kd.R_slice HO_3.out;subst eo9;go_wp2;go_ret;exact⟨zf,zb⟩
end Go.Proofs.YtpbembafpnknhaaGreat.Pr
namespace Go.Proofs.YtpbembafpnknhaaGreat.Pr
open Go.RowKit Sn Go.Proofs.YtpbembafpnknhaaGreatW.PrintWords Go.Proofs.YtpbembafpnknhaaGreatW.PrintLast Go.Proofs.YtpbembafpnknhaaGreatW.PrintMore
theorem rd47(xs:List S47)(i:Nat):rd_T47 xs (i:Int)=xs.getD i z47:=rfl
theorem rd29(xs:List S29)(i:Nat):rd_T29 xs (i:Int)=xs.getD i z29:=rfl
theorem rd78(xs:List S78)(i:Nat):rd_T78 xs (i:Int)=xs.getD i z78:=rfl
theorem rd93(xs:List S93)(i:Nat):rd_T93 xs (i:Int)=xs.getD i z93:=rfl
theorem rdS(xs:List ByteArray)(i:Nat):rdOf ByteArray.empty xs (i:Int)=xs.getD i ByteArray.empty:=rfl
theorem lt_c{i n:Nat}(h:i<n):(i:Int)<(n:Int):=by omega
theorem ge0(i:Nat):(0:Int)≤(i:Int):=by omega
theorem nlt_self(n:Nat):¬ (n:Int)<(n:Int):=by omega
theorem first_f(c:Int):sentryref1_first.f c=some (isL c):=isL_f c
theorem byte_f(c:Int):sentryref1_Byte.f c=some (isM c):=isM_f c
theorem name1_l(s:ByteArray)(hs:s.size≤12):∀ d i,s.size - i=d→i≤s.size→Evn (fun k=>sentryref1_Is.l0 k s (i:Int)) (allFrom i s.size (fun j=>isM (bt s j))&&true):=
  Evn.loop (L:=fun k i=>sentryref1_Is.l0 k s (i:Int)) (n:=s.size) (p:=fun j=>isM (bt s j)) (r:=true)
    (fun i hi hp t ht=>by
      refine Evn.succ ?_;simp only [sentryref1_Is.l0,if_pos (lt_c hi),if_pos (ge0 i),byte_f,Option.bind_some,hp,if_true,wrap_succ hi (by omega)];exact ht)
    (fun i hi hp=>by
      refine Evn.succ ?_;simp only [sentryref1_Is.l0,if_pos (lt_c hi),if_pos (ge0 i),byte_f,Option.bind_some,hp];exact Evn.pure _)
    (by
      refine Evn.succ ?_;simp only [sentryref1_Is.l0,if_neg (nlt_self s.size)];exact Evn.pure _)
theorem name1_f(s:ByteArray):Evn (fun k=>sentryref1_Is.f k s) (nameIs s):=by
  unfold sentryref1_Is.f nameIs;by_cases h0:s.size=0
  · simp only [if_pos (show (s.size : Int) < 1 by omega), if_pos h0]
    refine Evn.succ ?_;simp only [sentryref1_Is.j0,if_true];exact Evn.pure _
  simp only [if_neg (show ¬ (s.size:Int)<1 by omega),if_neg h0];by_cases h1:12<s.size
  · simp only [if_pos (show (s.size : Int) > 12 by omega), if_pos h1]
    refine Evn.succ ?_;simp only [sentryref1_Is.j0,if_true];exact Evn.pure _
  simp only [if_neg (show ¬ (s.size:Int)>12 by omega),if_neg h1,if_pos (show (0:Int)<(s.size:Int) by omega),first_f,Option.bind_some];refine Evn.succ ?_
  cases hL : isL (bt s 0) with
  | false =>
    simp only [sentryref1_Is.j0,Bool.not_false,if_true]
    exact Evn.pure _
  | true =>
    simp only [sentryref1_Is.j0,Bool.not_true,Bool.false_eq_true,if_false,if_true];have h2:=name1_l s (by omega) s.size 0 (by omega) (Nat.zero_le _);rw [allFrom_zero,Bool.and_true] at h2;have e:(s.data.toList.all fun c=>isM c.toNat)=allN s.size (fun j=>isM (bt s j)):=by
      rw [Bool.eq_iff_iff,all_bytes,allN_iff]
    rw [e];exact h2
theorem firstAt_from{p:Nat→Bool}{n:Nat}(L:Nat→Nat→Option Int)(hhit:∀ i,i<n→p i=true→Evn (fun k=>L k i) (i:Int))(hgo:∀ i,i<n→p i=false→∀ s,Evn (fun k=>L k (i+1)) s→Evn (fun k=>L k i) s)(hend:Evn (fun k=>L k n) (-1)) :
    ∀ d i,n - i=d→i≤n→(∀ j,j<i→p j=false)→Evn (fun k=>L k i) (firstAt p n):=by
  intro d
  induction d with
  | zero =>
    intro i hd hi hb;obtain rfl:i=n:=by omega
    rw [firstAt_miss hb]; exact hend
  | succ d ih =>
    intro i hd hi hb
    cases hp : p i with
    | true => rw [firstAt_hit (by omega) hp hb]; exact hhit i (by omega) hp
    | false =>
      refine hgo i (by omega) hp _ (ih (i+1) (by omega) (by omega) (fun j hj=>?_));rcases Nat.lt_or_ge j i with h|h
      · exact hb j h
      obtain rfl:j=i:=by omega
      exact hp
theorem beq_pos{a b:List UInt8}(h:(a == b)=true):a=b:=by simpa using h
theorem beq_neg{a b:List UInt8}(h:(a == b)=false):¬ a=b:=by simpa using h
theorem place4_f(fs:List ByteArray)(xs:List S47)(hx:xs.length≤9223372036854775807)(s:ByteArray):Evn (fun k=>sentryref4_Place.f k fs xs s) (placeOf xs s):=by
  unfold sentryref4_Place.f placeOf;refine firstAt_from (L:=fun k i=>sentryref4_Place.l0 k s (i:Int) fs xs) (n:=xs.length) (fun i hi hp=>?_) (fun i hi hp t ht=>?_) ?_ xs.length 0 (by omega) (Nat.zero_le _) (fun j hj=>absurd hj (Nat.not_lt_zero _))
  · refine Evn.succ ?_
    have hq:(xs.getD i z47).f0.toList=s.toList:=beq_pos hp;simp only [sentryref4_Place.l0,if_pos (lt_c hi),if_pos (ge0 i),rd47,hq,if_true];exact Evn.pure _
  · refine Evn.succ ?_
    simp only [sentryref4_Place.l0,if_pos (lt_c hi),if_pos (ge0 i),rd47,if_neg (beq_neg hp),wrap_succ hi hx];exact ht
  refine Evn.succ ?_;simp only [sentryref4_Place.l0,if_neg (nlt_self xs.length)];exact Evn.pure _
def hasS(l:List ByteArray)(s:ByteArray):Bool:=l.any fun x=>x.toList == s.toList
theorem hasS_iff{l:List ByteArray}{s:ByteArray}:hasS l s=true↔s ∈ l:=by
  unfold hasS;rw [List.any_eq_true];exact⟨fun ⟨x,hx,h⟩=>by rw [← bs_inj (beq_pos h)];exact hx,fun h=>⟨s,h,by simp⟩⟩
theorem file4_f(l:List ByteArray)(hl:l.length≤9223372036854775807)(s:ByteArray):Evn (fun k=>sentryref4_File.f k l s) (hasS l s):=by
  unfold sentryref4_File.f;have h:=Evn.loop0 (L:=fun k i=>(sentryref4_File.l0 k l s (i:Int)).map (!·)) (n:=l.length) (p:=fun i => !((l.getD i ByteArray.empty).toList == s.toList)) (r:=true) (fun i hi hp t ht=>?_) (fun i hi hp=>?_) ?_
  · have e : hasS l s = !(allN l.length (fun i => !((l.getD i ByteArray.empty).toList == s.toList)) && true) := by
      rw [Bool.and_true,allN_list ByteArray.empty (q:=fun x => !(x.toList == s.toList))];unfold hasS;rw [List.not_all_eq_any_not];simp
    rw [e];obtain⟨n,h⟩:=h;refine⟨n,fun k hk=>?_⟩;have:=h k hk;obtain⟨b,hb,hb2⟩:=Option.map_eq_some_iff.1 this;have hb':sentryref4_File.l0 k l s 0=some b:=hb
    show sentryref4_File.l0 k l s 0=_
    rw [hb',← hb2,Bool.not_not]
  · refine Evn.succ ?_
    have hp:¬ (l.getD i ByteArray.empty).toList=s.toList:=by simpa using hp
    simp only [sentryref4_File.l0,if_pos (lt_c hi),if_pos (ge0 i),rdS,if_neg hp,wrap_succ hi hl];exact ht
  · refine Evn.succ ?_
    have hp:(l.getD i ByteArray.empty).toList=s.toList:=by simpa using hp
    simp only [sentryref4_File.l0,if_pos (lt_c hi),if_pos (ge0 i),rdS,hp,if_true];exact Evn.pure _
  refine Evn.succ ?_;simp only [sentryref4_File.l0,if_neg (nlt_self l.length)];exact Evn.pure _
theorem op4_f(s:ByteArray):Evn (fun k=>sentryref4_Op.f k s) (firstAt (fun j=>(opL.getD j ByteArray.empty).toList == s.toList) opL.length):=by
  unfold sentryref4_Op.f;refine firstAt_from (L:=fun k i=>sentryref4_Op.l0 k s opL (i:Int)) (n:=opL.length) (fun i hi hp=>?_) (fun i hi hp t ht=>?_) ?_ opL.length 0 (by omega) (Nat.zero_le _) (fun j hj=>absurd hj (Nat.not_lt_zero _))
  · refine Evn.succ ?_
    have hq:(opL.getD i ByteArray.empty).toList=s.toList:=beq_pos hp;simp only [sentryref4_Op.l0,if_pos (lt_c hi),if_pos (ge0 i),rdS,hq,if_true];exact Evn.pure _
  · refine Evn.succ ?_
    simp only [sentryref4_Op.l0,if_pos (lt_c hi),if_pos (ge0 i),rdS,if_neg (beq_neg hp),wrap_succ hi (by decide)];exact ht
  refine Evn.succ ?_;simp only [sentryref4_Op.l0,if_neg (nlt_self opL.length)];exact Evn.pure _
theorem firstAt_ge{p:Nat→Bool}{n:Nat}:0≤firstAt p n↔∃ i,i<n∧p i=true:=by
  have h:=firstAt_pos (p:=p) (n:=n);have h2:(0≤firstAt p n)↔((List.range n).any p=true):=by rw [← h];simp
  rw [h2,List.any_eq_true];simp
theorem firstAt_at{p : Nat → Bool}{n : Nat}(h : 0 ≤ firstAt p n) : ∃ i, i < n ∧ p i = true ∧ (∀ j, j < i → p j = false) ∧ firstAt p n = (i : Int) := by
  unfold firstAt at h ⊢
  cases hf : (List.range n).find? p with
  | none => rw [hf] at h; simp at h
  | some j =>
    have h1:=List.mem_range.1 (List.mem_of_find?_eq_some hf);refine⟨j,h1,List.find?_some hf,fun i hi=>?_,rfl⟩
    cases hc : p i with
    | false => rfl
    | true =>
    exfalso
    obtain⟨m,hm,hpm,hb⟩:∃ m,m≤i∧p m=true∧∀ q,q<m→p q=false:=by
      clear h hf h1 hi
      induction i using Nat.strongRecOn with
      | _ i ih =>
        by_cases hex:∃ q,q<i∧p q=true
        · obtain ⟨q, hq, hpq⟩ := hex
          obtain⟨m,hm,h3,h4⟩:=ih q hq hpq;exact⟨m,by omega,h3,h4⟩
        exact⟨i,Nat.le_refl _,hc,fun q hq=>by
          cases hb : p q with
          | false => rfl
          | true=>exact absurd ⟨q,hq,hb⟩ hex⟩
    have h3:=firstAt_hit (by omega:m<n) hpm hb;unfold firstAt at h3;rw [hf] at h3;simp only at h3;omega
instance (k e:Int):Decidable (LegalP k e):=by unfold LegalP;infer_instance
theorem legal4_f(k0 e:Int):Evn (fun k=>sentryref4_Legal.f k k0 e) (decide (LegalP k0 e)):=by
  refine⟨4,fun k hk=>?_⟩;obtain⟨k,rfl⟩:∃ j,k=j+3:=⟨k - 3,by omega⟩
  show sentryref4_Legal.f (k+3) k0 e=_
  have key:∀ b:Bool,(b=true↔LegalP k0 e)→some b=some (decide (LegalP k0 e)):=fun b h=>by
    congr 1
    rw [Bool.eq_iff_iff,h,decide_eq_true_iff]
  unfold sentryref4_Legal.f;by_cases h1:k0<1
  · rw [if_pos h1]
    simp only [sentryref4_Legal.j0,if_true];exact key _ ⟨fun h=>(by cases h),fun h=>by have:=h.1;omega⟩
  rw [if_neg h1];by_cases h2:k0>5
  · simp only [sentryref4_Legal.j0, Qb h2, if_true]
    exact key _ ⟨fun h=>(by cases h),fun h=>by have:=h.2.1;omega⟩
  simp only [sentryref4_Legal.j0,Qc h2,Bool.false_eq_true,if_false];by_cases e1:e=1
  · subst e1
    simp only [if_true,sentryref4_Legal.j1,beq_self_eq_true];exact key _ ⟨fun _=>⟨by omega,by omega,.inl (.inl rfl)⟩,fun _=>rfl⟩
  simp only [if_neg e1];by_cases e5:e=5
  · subst e5
    simp only [sentryref4_Legal.j1,beq_self_eq_true,if_true];exact key _ ⟨fun _=>⟨by omega,by omega,.inl (.inr rfl)⟩,fun _=>rfl⟩
  simp only [sentryref4_Legal.j1,beq_eq_false_iff_ne.2 e5,Bool.false_eq_true,if_false];by_cases e2:e=2
  · subst e2
    simp only [if_true,sentryref4_Legal.j2,beq_self_eq_true];exact key _ ⟨fun h=>⟨by omega,by omega,.inr (.inl ⟨.inl rfl,by simpa using h⟩)⟩,fun h=>by rcases h.2.2 with h|h|h <;> simp;all_goals omega⟩
  simp only [if_neg e2];by_cases e3:e=3
  · subst e3
    simp only [if_true,sentryref4_Legal.j2,beq_self_eq_true];exact key _ ⟨fun h=>⟨by omega,by omega,.inr (.inl ⟨.inr rfl,by simpa using h⟩)⟩,fun h=>by rcases h.2.2 with h|h|h <;> simp;all_goals omega⟩
  simp only [sentryref4_Legal.j2,beq_eq_false_iff_ne.2 e3,Bool.false_eq_true,if_false];by_cases e4:e=4
  · subst e4
    simp only [if_true];exact key _ ⟨fun h=>⟨by omega,by omega,.inr (.inr ⟨rfl,(by simp at h;omega)⟩)⟩,fun h=>by rcases h.2.2 with h|h|h <;> simp;all_goals omega⟩
  simp only [if_neg e4];exact key _ ⟨fun h=>(by cases h),fun h=>by rcases h.2.2 with h|h|h <;> omega⟩
end Go.Proofs.YtpbembafpnknhaaGreat.Pr
namespace Go.Proofs.YtpbembafpnknhaaGreat.Pr
open Go.RowKit Go.Proofs.YtpbembafpnknhaaGreatW.PrintWords Go.Proofs.YtpbembafpnknhaaGreatW.PrintLast Go.Proofs.YtpbembafpnknhaaGreatW.PrintMore
attribute [local go_sem] max2_int min2_int max_two min_two max_three min_three max_four min_four
mutual
def sentryref4_within.l0:Nat→Int→ByteArray→Int→List ByteArray→List (S47)→Option (Bool)
  | 0, _, _, _, _, _ => none
  | k+1,x1,x2,x7,x102000,x102001=>if x1≥0 then (sentryref4_within.j1 k x1 x2 x7 (decide (x7≤(x102001.length:Int))) x102000 x102001) else (sentryref4_within.j1 k x1 x2 x7 false x102000 x102001)
def sentryref4_within.j1:Nat→Int→ByteArray→Int→Bool→List ByteArray→List (S47)→Option (Bool)
  | 0, _, _, _, _, _, _ => none
  | k+1,x1,x2,x7,x16,x102000,x102001=>if x16=true then (if 0≤x1 then (if x1<(x102001.length:Int) then (if ((rd_T47 x102001 x1).f0).toList=x2.toList then (some true) else ((sentryref4_Place.f k x102000 x102001 ((rd_T47 x102001 x1).f2)).bind fun t104=>(sentryref4_within.l0 k t104 x2 (wrap64 (x7+1)) x102000 x102001))) else (none)) else (none)) else (some false)
end
def sentryref4_within.f(k:Nat)(l0_0:List ByteArray)(l0_1:List (S47))(a1:Int)(a2:ByteArray):Option (Bool):=sentryref4_within.l0 k a1 a2 0 l0_0 l0_1
def sentryref4_within.T6:Bool × List (List Nat × List Nat):=(true,[([],[]),([],[]),([1],[1]),([],[]),([2,3],[2,3]),([4],[4]),([5],[5]),([0,6],[0,6]),([7,7,0,1,2,3,4,5,6,7],[3,7])])
def sentryref4_within.B6:List Nat:=[0,0,2,0,14,30,62,127,255]
theorem sentryref4_within.tab6:rtab .any (opsOf Tryz.f121 6)=sentryref4_within.T6:=by kernel_rfl
theorem sentryref4_within.bits6:waitsOk sentryref4_within.T6.2 sentryref4_within.B6=true:=by kernel_rfl
theorem sentryref4_within.calls(k : Nat)(A0_0 : Option Addr)(c0_0 : Nat)(l0_0 : List ByteArray)(A0_1 : Option Addr)(c0_1 : Nat)(l0_1 : List (S47))(a1 : Int)(a2 : ByteArray)(r : Bool)(w : World)(hr0_0 : Kd.C Kd.string w A0_0 l0_0.length l0_0)(hc0_0 : l0_0.length ≤ c0_0)(hr0_1 : Kd.C k47 w A0_1 l0_1.length l0_1)(hc0_1 : l0_1.length ≤ c0_1)(h : sentryref4_within.f k l0_0 l0_1 a1 a2 = some r) :
  Calls Tryz.prog 121 #[.agg #[.slice A0_0 l0_0.length c0_0,.slice A0_1 l0_1.length c0_1],.int .i64 a1,.string a2] w fun e w'=>e = .returned (.bool r)∧Below w.heap.size w w':=by
 have hu25:=Tryz.underlying25;have HR0_0:=am hr0_0;have HC0_0:=am hc0_0;clear hr0_0 hc0_0;have HR0_1:=am hr0_1;have HC0_1:=am hc0_1;clear hr0_1 hc0_1;have HB:=am (Below.refl w.heap.size w);have H:(sentryref4_within.l0 k a1 a2 0 l0_0 l0_1)=some r:=h;clear h;have H':=am H;clear H;go_enter Tryz.func121,Tryz.ntmps121;go_wp2_with (first|((with_reducible refine gd_ 3 ?_);(try (refine gate_guard (by rfl) ?_;dsimp only));refine bx_ 3 #[.slice A0_0 l0_0.length c0_0,.slice A0_1 l0_1.length c0_1] 25 ?_;intro gb101 hg w4 hbox hb;have BK101:=am (hbox);have GE101:=am (zg:w.heap.size≤gb101);replace HB:=am (below_step (zb) hb);clear hb hbox hg))
 go_loopg [1,7] k (fun kq v1 v7 w' => ∃ (x1_1:Int) (x7_1:Int),v1 = .int .i64 x1_1∧v7 = .int .i64 x7_1∧Aside0 (sentryref4_within.l0 kq x1_1 a2 x7_1 l0_0 l0_1=some r)∧Aside0 (kq≤k)∧Aside0 (w'.heap[gb101]? = some (.cells #[(.slice A0_0 l0_0.length c0_0),(.slice A0_1 l0_1.length c0_1)] 25 (0,0)))∧Aside0 (Below w.heap.size w w'))
 case atStart=>exact ⟨(a1),(0),(ze),(ze),H',⟨Nat.le_refl _⟩,⟨zl BK101.out⟩,⟨zb⟩⟩
 case round =>
  clear H';obtain⟨x1_1,x7_1,rfl,rfl,HA,HK1,BK101,HB⟩:=hrel
  cases gk with
  | zero => exact absurd HA.out (by simp [sentryref4_within.l0])
  | succ k1 =>
   have H:=HA.out;clear HA;simp only [sentryref4_within.l0] at H;have HC5:=am H;clear H;go_upto_region 2 with (fail)
   go_cut [16] (fun v16 wc => ∃ (kq:Nat) (x16_4:Bool),v16 = .bool x16_4∧Aside0 (sentryref4_within.j1 kq x1_1 a2 x7_1 x16_4 l0_0 l0_1=some r)∧Aside0 (kq≤k1)∧Aside0 (wc.heap[gb101]? = some (.cells #[(.slice A0_0 l0_0.length c0_0),(.slice A0_1 l0_1.length c0_1)] 25 (0,0)))∧Aside0 (Below w.heap.size w wc))
   case first =>
    have H:=HC5.out;clear HC5;by_cases c6:x1_1≥0
    ·
     rw [if_pos c6] at H;have c6b0:decide (0≤x1_1)=true:=Qb c6;clear c6
     (first|rw [c6b0] | (simp only [i64_w,i32_w];rw [c6b0])|skip)
     have H':=am H;clear H;obtain⟨hcz7_0,hcz7_1⟩:=cs2 BK101.out;go_wp2;go_meet
     case rel=>exact ⟨_,(decide (x7_1≤(l0_1.length:Int))),(ze),H',⟨by have:=HK1.out;first|omega|exact Nat.le_refl _⟩,⟨zl BK101.out⟩,⟨zb⟩⟩
    rw [if_neg c6] at H;have c6b0:decide (0≤x1_1)=false:=Qc c6;clear c6
    (first|rw [c6b0] | (simp only [i64_w,i32_w];rw [c6b0])|skip)
    have H':=am H;clear H;go_wp2;go_meet
    case rel=>exact ⟨_,(false),(ze),H',⟨by have:=HK1.out;first|omega|exact Nat.le_refl _⟩,⟨zl BK101.out⟩,⟨zb⟩⟩
   case rest =>
    clear HC5;obtain⟨kq,x16_4,rfl,HA,HJ4,BK101,HB⟩:=hcut
    cases kq with
    | zero => exact absurd HA.out (by simp [sentryref4_within.j1])
    | succ kj4 =>
     have H:=HA.out;clear HA;simp only [sentryref4_within.j1] at H;by_cases c8:x16_4=true
     ·
      subst c8;have H1:(if 0≤x1_1 then (if x1_1<(l0_1.length:Int) then (if ((rd_T47 l0_1 x1_1).f0).toList=a2.toList then (some true) else ((sentryref4_Place.f kj4 l0_0 l0_1 ((rd_T47 l0_1 x1_1).f2)).bind fun t104=>(sentryref4_within.l0 kj4 t104 a2 (wrap64 (x7_1+1)) l0_0 l0_1))) else (none)) else (none))=some r:=by rw [if_pos rfl] at H;exact H
      clear H;have H:=H1;clear H1;by_cases c9:0≤x1_1
      ·
       rw [if_pos c9] at H;have c9b0:=Qb c9;clear c9;by_cases c10:x1_1<(l0_1.length:Int)
       ·
        rw [if_pos c10] at H;have c10b0:=Qb c10;clear c10;by_cases c11:((rd_T47 l0_1 x1_1).f0).toList=a2.toList
        ·
         rw [if_pos c11] at H;have c11b0:=Qh c11;have c11b1:=Qf c11;clear c11;obtain rfl:=Qd H;obtain⟨hcz12_0,hcz12_1⟩:=cs2 BK101.out;have p102:0≤(x1_1:Int):=Qo;have q102:x1_1<(l0_1.length:Int):=Qo;obtain⟨ad102,A102_5,c102_5,A102_6,c102_6,e102,hx102_0,hx102_1,hx102_2,hx102_3,hx102_4,hx102_5,hx102_6,hl102_5,hi102_5,hl102_6,hi102_6⟩:=at_T47 HR0_1.out x1_1 p102 q102;cases e102;replace hx102_0:=ba HB hx102_0;replace hx102_1:=ba HB hx102_1;replace hx102_2:=ba HB hx102_2;replace hx102_3:=ba HB hx102_3;replace hx102_4:=ba HB hx102_4;replace hx102_5:=ba HB hx102_5;replace hx102_6:=ba HB hx102_6;have HR102_5:=am hi102_5;have HC102_5:=am hl102_5;clear hi102_5 hl102_5;have HR102_6:=am hi102_6;have HC102_6:=am hl102_6;clear hi102_6 hl102_6;replace p102:=eq_true p102;replace q102:=eq_true q102;go_wp2;go_ret;exact⟨zf,zb⟩
        rw [if_neg c11] at H;have c11b0:=Qg c11;have c11b1:=Qi c11;replace H:=Qe H;obtain⟨t104,A130,H⟩:=H;have A13:=am A130;clear A130;have H':=am H;clear H;obtain⟨hcz14_0,hcz14_1⟩:=cs2 BK101.out;have p102:0≤(x1_1:Int):=Qo;have q102:x1_1<(l0_1.length:Int):=Qo;obtain⟨ad102,A102_5,c102_5,A102_6,c102_6,e102,hx102_0,hx102_1,hx102_2,hx102_3,hx102_4,hx102_5,hx102_6,hl102_5,hi102_5,hl102_6,hi102_6⟩:=at_T47 HR0_1.out x1_1 p102 q102;cases e102;replace hx102_0:=ba HB hx102_0;replace hx102_1:=ba HB hx102_1;replace hx102_2:=ba HB hx102_2;replace hx102_3:=ba HB hx102_3;replace hx102_4:=ba HB hx102_4;replace hx102_5:=ba HB hx102_5;replace hx102_6:=ba HB hx102_6;have HR102_5:=am hi102_5;have HC102_5:=am hl102_5;clear hi102_5 hl102_5;have HR102_6:=am hi102_6;have HC102_6:=am hl102_6;clear hi102_6 hl102_6;replace p102:=eq_true p102;replace q102:=eq_true q102;try go_wp2
        replace BK101:=am (blk_drew BK101.out);replace HB:=am (below_drew1 HB.out);have p103:0≤(x1_1:Int):=Qo;have q103:x1_1<(l0_1.length:Int):=Qo;obtain⟨ad103,A103_5,c103_5,A103_6,c103_6,e103,hx103_0,hx103_1,hx103_2,hx103_3,hx103_4,hx103_5,hx103_6,hl103_5,hi103_5,hl103_6,hi103_6⟩:=at_T47 HR0_1.out x1_1 p103 q103;have hw103_6:=hx103_6;have hw103_5:=hx103_5;have hw103_4:=hx103_4;have hw103_3:=hx103_3;have hw103_2:=hx103_2;have hw103_1:=hx103_1;have hw103_0:=hx103_0;obtain rfl:ad102=ad103:=(by injection e103);replace hx103_0:=ba HB hx103_0;replace hx103_1:=ba HB hx103_1;replace hx103_2:=ba HB hx103_2;replace hx103_3:=ba HB hx103_3;replace hx103_4:=ba HB hx103_4;replace hx103_5:=ba HB hx103_5;replace hx103_6:=ba HB hx103_6;have HR103_5:=am hi103_5;have HC103_5:=am hl103_5;clear hi103_5 hl103_5;have HR103_6:=am hi103_6;have HC103_6:=am hl103_6;clear hi103_6 hl103_6;replace p103:=eq_true p103;replace q103:=eq_true q103;refine start_ (n:=9) (S:=fun w'=>w'.cell? ⟨gb101,0,none⟩=some (.slice A0_0 l0_0.length c0_0)∧w'.cell? ⟨gb101,1,none⟩=some (.slice (some ad102) l0_1.length c0_1)∧w'.cell? (ad102.add ((x1_1).toNat * 7))=some (.string ((rd_T47 l0_1 x1_1).f0))∧w'.cell? ⟨(ad102.add ((x1_1).toNat * 7)).block,(ad102.add ((x1_1).toNat * 7)).off+1,none⟩=some (.int .i64 ((rd_T47 l0_1 x1_1).f1))∧w'.cell? ⟨(ad102.add ((x1_1).toNat * 7)).block,(ad102.add ((x1_1).toNat * 7)).off+2,none⟩=some (.string ((rd_T47 l0_1 x1_1).f2))∧w'.cell? ⟨(ad102.add ((x1_1).toNat * 7)).block,(ad102.add ((x1_1).toNat * 7)).off+3,none⟩=some (.bool ((rd_T47 l0_1 x1_1).f3))∧w'.cell? ⟨(ad102.add ((x1_1).toNat * 7)).block,(ad102.add ((x1_1).toNat * 7)).off+4,none⟩=some (.int .i64 ((rd_T47 l0_1 x1_1).f4))∧w'.cell? ⟨(ad102.add ((x1_1).toNat * 7)).block,(ad102.add ((x1_1).toNat * 7)).off+5,none⟩=some (.slice A103_5 ((rd_T47 l0_1 x1_1).f5).length c103_5)∧w'.cell? ⟨(ad102.add ((x1_1).toNat * 7)).block,(ad102.add ((x1_1).toNat * 7)).off+6,none⟩=some (.slice A103_6 ((rd_T47 l0_1 x1_1).f6).length c103_6)) (ds:=[]) #[false,false,false,false,false,false,false,false,false] (by kernel_rfl) rfl rfl ⟨bc BK101 0,bc BK101 1,(bh HB hw103_0),(bh HB hw103_1),(bh HB hw103_2),(bh HB hw103_3),(bh HB hw103_4),(bh HB hw103_5),(bh HB hw103_6)⟩ (fun hHeld=>?_);refine with_tabW sentryref4_within.tab6 sentryref4_within.bits6 (fun HT_ HW_=>?_);generalize wc.drew=w15 at BK101 HB HR103_5 HR103_6 hx103_0 hx103_1 hx103_2 hx103_3 hx103_4 hx103_5 hx103_6 hHeld ⊢;refine pz_ 1 28 9 2 ?_;refine pz_ 3 30 9 10 ?_;refine tz_ 0 27 9 11 ?_;refine tz_ 2 29 9 15 ?_;refine pz_ 4 31 9 31 ?_;refine pz_ 5 32 9 63 ?_;refine tz_ 6 33 9 127 ?_;refine oz_ 7 34 9 255 (fun K hK=>?_);refine goes_ Tryz.func45 (by kernel_rfl) rfl #[.agg #[.slice A0_0 l0_0.length c0_0,.slice (some ad102) l0_1.length c0_1],.string ((rd_T47 l0_1 x1_1).f2)] (by rfl) rfl rfl (za) ?_;with_reducible refine (sentryref4_Place.calls kj4 _ _ l0_0 _ _ l0_1 ((rd_T47 l0_1 x1_1).f2) t104 _ ?side1 ?side2 ?side3 ?side4 A13.out).mono ?_
        (case side1=>exact zc (Kd.C_below HR0_0.out HB.out))
        (case side2=>exact HC0_0.out)
        (case side3=>exact zc (Kd.C_below HR0_1.out HB.out))
        (case side4=>exact HC0_1.out)
        rintro e w16 ⟨rfl,hb⟩;refine⟨_,rfl,?_⟩;replace BK101:=am (zw BK101.out hb);replace HB:=am (below_step (zb) hb)
        (try clear hb)
        (try clear hb2)
        (try clear hk)
        (try clear hi)
        refine hK.out _ _ ⟨bc BK101 0,bc BK101 1,(bh HB hw103_0),(bh HB hw103_1),(bh HB hw103_2),(bh HB hw103_3),(bh HB hw103_4),(bh HB hw103_5),(bh HB hw103_6)⟩ (fun hHeld=>?_);clear hK K;refine nz_ 34 ?_;refine pz_ 8 1 9 511 ?_;refine done_ (done_of HT_.out (by kernel_rfl)) ?_;try go_wp2
        go_roundg kj4
        case measure=>have:=HK1.out;have:=HJ4.out;omega
        case rel=>exact ⟨(t104),(wrap64 (x7_1+1)),(ze),(ze),H',⟨by have:=HK1.out;have:=HJ4.out;omega⟩,⟨zl BK101.out⟩,⟨zb⟩⟩
       rw [if_neg c10] at H;exact absurd H (by simp)
      rw [if_neg c9] at H;exact absurd H (by simp)
     replace c8:=Qj c8;subst c8;have H1:(some false)=some r:=by rw [if_neg (show ¬ (false=true) by decide)] at H;exact H
     clear H;have H:=H1;clear H1;obtain rfl:=Qd H;go_wp2;go_ret;exact⟨zf,zb⟩
end Go.Proofs.YtpbembafpnknhaaGreat.Pr
