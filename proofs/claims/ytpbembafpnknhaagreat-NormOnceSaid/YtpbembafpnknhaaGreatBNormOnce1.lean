/- Proof texts of one seat,in one file: the walks of functions and the lemmas under them,printed by programs and typed by hand. Put together by wip/bundle.py. -/
import Derived.Test.YtpbembafpnknhaaGreatRows
import Derived.ArgAppend
import Derived.Below
import Derived.BigQuiet
import Derived.ChangeArms
import Derived.ChangeOld
import Derived.ChangeSlices
import Derived.Deep.AppendLies
import Derived.Deep.CutBlock
import Derived.Deep.DeepCutAuto
import Derived.Deep.Draws
import Derived.Deep.LoopGhost
import Derived.Deep.OwnRows
import Derived.Deep.QuietTactic
import Derived.Deep.RegionHeld3
import Derived.Deep.RegionLawGrows
import Derived.Deep.Upon
import Derived.Ground.Names2Prog
import Derived.Ground.SlgfProg
import Derived.Ground.SlgnProg
import Derived.Ground.SlsfProg
import Derived.JoinedOf
import Derived.KernelRfl
import Derived.Laws.BitsLemmas
import Derived.Laws.BytesArg
import Derived.Laws.IdiomCopy
import Derived.Laws.MakeOwn
import Derived.Laws.OwnMore
import Derived.Laws.Rows
import Derived.Laws.Slices
import Derived.Laws.StructEq
import Derived.Lib.AppendStr
import Derived.Lib.ConvBytes
import Derived.Lib.Hide
import Derived.Maps.AppendAt
import Derived.OpenShut
import Derived.OrdersHeld
import Derived.OwnWalk
import Derived.ProofKit
import Derived.RowKit
import Derived.RowKit3
import Derived.Shelf.GgSortFunc.InsertionK
import Derived.Shelf.SlGeneric
import Derived.Shelf.SlSortCmp.NoneTotal
import Derived.Shelf.Slices.In.SortNone
import Derived.Shelf.SlicesE.Clone
import Derived.Shelf.SlicesQ.IndexFunc
import Derived.Shelf.Sort.Plain
import Derived.ShutString
import Derived.SizedLaws
import Derived.Sort.Grow
import Derived.Sort.Walk0
import Derived.StillTailTactics
import Derived.Tactics
import Derived.WalkKit
import Derived.WalkSpells
import Derived.WideLaws
import Derived.Test.YtpbembafpnknhaaGreatBNormOnce0
set_option maxHeartbeats 8000000
set_option maxRecDepth 100000
set_option linter.unusedVariables false
set_option linter.unusedSimpArgs false
set_option linter.unusedSectionVars false
namespace Go.Proofs.YtpbembafpnknhaaGreat.Pr
open Go.RowKit Go.Proofs.YtpbembafpnknhaaGreatW.PrintWords Go.Proofs.YtpbembafpnknhaaGreatW.PrintLast Go.Proofs.YtpbembafpnknhaaGreatW.PrintMore
section
variable{H : Type}{enc : TypeId × Value → H}{P : Program}{W : World}{base : Nat}{spare : Nat → Bool}{held : Bool}
theorem o_string{t:TypeId}(ht:P.underlying t=some .string){fuel:Nat}{cs:List Value}{x:DataW H × List MemPlace}(h:DataW.trod enc P W base spare held fuel t cs=some x):∃ s,cs=[.string s]:=by
  cases fuel with
  | zero => simp [DataW.trod] at h
  | succ n =>
    unfold DataW.trod at h;rw [ht] at h
    split at h <;> simp_all
theorem o_bool{t:TypeId}(ht:P.underlying t=some .bool){fuel:Nat}{cs:List Value}{x:DataW H × List MemPlace}(h:DataW.trod enc P W base spare held fuel t cs=some x):∃ s,cs=[.bool s]:=by
  cases fuel with
  | zero => simp [DataW.trod] at h
  | succ n =>
    unfold DataW.trod at h;rw [ht] at h
    split at h <;> simp_all
theorem o_int{t:TypeId}{k:IntKind}(ht:P.underlying t=some (.int k)){fuel:Nat}{cs:List Value}{x:DataW H × List MemPlace}(h:DataW.trod enc P W base spare held fuel t cs=some x):∃ s,cs=[.int k s]∧(Lit.int k s).wf=true:=by
  cases fuel with
  | zero => simp [DataW.trod] at h
  | succ n =>
    unfold DataW.trod at h;rw [ht] at h
    split at h <;> simp_all
theorem cells_get{a:Addr}{n:Nat}{cs:List Value}(h:W.cells? base a n=some cs):cs.length=n∧∀ i u,cs[i]? = some u→W.cell? (a.add i)=some u:=by
  unfold World.cells? at h
  split at h
  · have hl := mapM_some_length h
    rw [List.length_range] at hl;refine⟨hl,fun i u hu=>?_⟩;have hi:i<n:=by rw [← hl];exact(List.getElem?_eq_some_iff.1 hu).1
    rw [← hu];exact mapM_some_get h i i (by rw [List.getElem?_range hi])
  cases h
theorem o_row{α:Type}{d:Kd α}(z:α){t e:TypeId}(ht:P.underlying t=some (.slice e))(hc:P.cellsOf e=d.sz)(hop:∀ fuel cs x,DataW.trod enc P W base spare held fuel e cs=some x→∃ y,d.K W y cs){fuel:Nat}{cs:List Value}{x:DataW H × List MemPlace}(h:DataW.trod enc P W base spare held fuel t cs=some x):∃ A cap xs,cs=[.slice A xs.length cap]∧xs.length≤cap∧d.C W A xs.length xs:=by
  rcases DataW.trod_slice ht h with ⟨rfl,_⟩ | ⟨a,len,cap,elems,rest,n,_,rfl,_,hb,hl,hm,hlen,hel,_,_⟩
  · exact ⟨none,0,[],rfl,Nat.le_refl _,rfl,Nat.zero_le _,fun h=>absurd h (Nat.lt_irrefl _)⟩
  have h1:∀ i:Nat,∃ y:α,i<len→∃ c,c.length=d.sz∧d.K W y c∧∀ j u,c[j]? = some u→W.cell? (a.add (i * d.sz+j))=some u:=by
    intro i;by_cases hi:i<len
    · have h2 := hel i hi
      rw [List.getElem?_eq_getElem (by rw [hlen];exact hi)] at h2;obtain⟨c,hc1,hc2⟩:=Option.bind_eq_some_iff.1 h2;obtain⟨y,hy⟩:=hop _ _ _ hc2;obtain⟨hcl,hcg⟩:=cells_get hc1;refine⟨y,fun _=>⟨c,by rw [hcl,hc],hy,fun j u hu=>?_⟩⟩;have h3:=hcg j u hu;rw [Addr.add_add,hc] at h3;exact h3
    exact⟨z,fun h=>absurd h hi⟩
  obtain⟨g,hg⟩:=Classical.skolem.1 h1;have hlen2:((List.range len).map g).length=len:=by simp
  refine⟨some a,cap,(List.range len).map g,by rw [hlen2],by rw [hlen2];exact hl,rfl,by rw [hlen2];exact Nat.le_trans hl (by simpa [maxLen] using hm),fun hn=>⟨a,rfl,fun j p hp=>?_⟩⟩;have hj:j<len:=by rw [← hlen2];exact(List.getElem?_eq_some_iff.1 hp).1
  rw [List.getElem?_map,List.getElem?_range hj] at hp;obtain rfl:g j=p:=by simpa using hp
  exact hg j hj
end
theorem o_78{H:Type}{enc:TypeId × Value→H}{W:World}{base:Nat}{spare:Nat→Bool}{held:Bool}{fuel:Nat}{cs:List Value}{x:DataW H × List MemPlace}(h:DataW.trod enc Tryz.prog W base spare held fuel 78 cs=some x):∃ y,k78.K W y cs:=by
  obtain⟨xs,n,_,_,hl,hxl,hf⟩:=DataW.trod_struct Tryz.underlying78 h;have hxl:xs.length=2:=hxl;have hl:cs.length=2:=hl.trans (by kernel_rfl);have c3:Tryz.prog.cellsOf 3=1:=by kernel_rfl
  have c9:Tryz.prog.cellsOf 9=1:=by kernel_rfl
  match cs, hl with
  | [u0, u1], _ =>
    have h0:DataW.trod enc Tryz.prog W base spare held n 9 [u0]=some xs[0]:=by
      have h0:=hf 0 _ rfl;rw [List.getElem?_eq_getElem (show 0<xs.length by rw [hxl];decide)] at h0;have e:List.take (Tryz.prog.cellsOf 9) (List.drop 0 [u0,u1])=[u0]:=by rw [c9];rfl
      exact(congrArg (DataW.trod enc Tryz.prog W base spare held n 9) e).symm.trans h0
    have h1:DataW.trod enc Tryz.prog W base spare held n 3 [u1]=some xs[1]:=by
      have h0:=hf 1 _ rfl;rw [List.getElem?_eq_getElem (show 1<xs.length by rw [hxl];decide)] at h0;have e:List.take (Tryz.prog.cellsOf 3) (List.drop 1 [u0,u1])=[u1]:=by rw [c3];rfl
      exact(congrArg (DataW.trod enc Tryz.prog W base spare held n 3) e).symm.trans h0
    obtain⟨s0,e0⟩:=o_string Tryz.underlying9 h0;injection e0 with e0 _;subst e0;obtain⟨s1,e1,_⟩:=o_int Tryz.underlying3 h1;injection e1 with e1 _;subst e1;exact⟨⟨s0,s1⟩,k78_mk W ⟨s0,s1⟩⟩
theorem o_93{H:Type}{enc:TypeId × Value→H}{W:World}{base:Nat}{spare:Nat→Bool}{held:Bool}{fuel:Nat}{cs:List Value}{x:DataW H × List MemPlace}(h:DataW.trod enc Tryz.prog W base spare held fuel 93 cs=some x):∃ y,k93.K W y cs:=by
  obtain⟨xs,n,_,_,hl,hxl,hf⟩:=DataW.trod_struct Tryz.underlying93 h;have hxl:xs.length=3:=hxl;have hl:cs.length=3:=hl.trans (by kernel_rfl);have c3:Tryz.prog.cellsOf 3=1:=by kernel_rfl
  have c9:Tryz.prog.cellsOf 9=1:=by kernel_rfl
  match cs, hl with
  | [u0, u1, u2], _ =>
    have h0:DataW.trod enc Tryz.prog W base spare held n 9 [u0]=some xs[0]:=by
      have h0:=hf 0 _ rfl;rw [List.getElem?_eq_getElem (show 0<xs.length by rw [hxl];decide)] at h0;have e:List.take (Tryz.prog.cellsOf 9) (List.drop 0 [u0,u1,u2])=[u0]:=by rw [c9];rfl
      exact(congrArg (DataW.trod enc Tryz.prog W base spare held n 9) e).symm.trans h0
    have h1:DataW.trod enc Tryz.prog W base spare held n 9 [u1]=some xs[1]:=by
      have h0:=hf 1 _ rfl;rw [List.getElem?_eq_getElem (show 1<xs.length by rw [hxl];decide)] at h0;have e:List.take (Tryz.prog.cellsOf 9) (List.drop 1 [u0,u1,u2])=[u1]:=by rw [c9];rfl
      exact(congrArg (DataW.trod enc Tryz.prog W base spare held n 9) e).symm.trans h0
    have h2:DataW.trod enc Tryz.prog W base spare held n 3 [u2]=some xs[2]:=by
      have h0:=hf 2 _ rfl;rw [List.getElem?_eq_getElem (show 2<xs.length by rw [hxl];decide)] at h0;have e:List.take (Tryz.prog.cellsOf 3) (List.drop 2 [u0,u1,u2])=[u2]:=by rw [c3];rfl
      exact(congrArg (DataW.trod enc Tryz.prog W base spare held n 3) e).symm.trans h0
    obtain⟨s0,e0⟩:=o_string Tryz.underlying9 h0;injection e0 with e0 _;subst e0;obtain⟨s1,e1⟩:=o_string Tryz.underlying9 h1;injection e1 with e1 _;subst e1;obtain⟨s2,e2,_⟩:=o_int Tryz.underlying3 h2;injection e2 with e2 _;subst e2;exact⟨⟨s0,s1,s2⟩,k93_mk W ⟨s0,s1,s2⟩⟩
theorem o_29{H:Type}{enc:TypeId × Value→H}{W:World}{base:Nat}{spare:Nat→Bool}{held:Bool}{fuel:Nat}{cs:List Value}{x:DataW H × List MemPlace}(h:DataW.trod enc Tryz.prog W base spare held fuel 29 cs=some x):∃ y,k29.K W y cs:=by
  obtain⟨xs,n,_,_,hl,hxl,hf⟩:=DataW.trod_struct Tryz.underlying29 h;have hxl:xs.length=2:=hxl;have hl:cs.length=2:=hl.trans (by kernel_rfl);have c26:Tryz.prog.cellsOf 26=1:=by kernel_rfl
  have c27:Tryz.prog.cellsOf 27=1:=by kernel_rfl
  match cs, hl with
  | [u0, u1], _ =>
    have h0:DataW.trod enc Tryz.prog W base spare held n 26 [u0]=some xs[0]:=by
      have h0:=hf 0 _ rfl;rw [List.getElem?_eq_getElem (show 0<xs.length by rw [hxl];decide)] at h0;have e:List.take (Tryz.prog.cellsOf 26) (List.drop 0 [u0,u1])=[u0]:=by rw [c26];rfl
      exact(congrArg (DataW.trod enc Tryz.prog W base spare held n 26) e).symm.trans h0
    have h1:DataW.trod enc Tryz.prog W base spare held n 27 [u1]=some xs[1]:=by
      have h0:=hf 1 _ rfl;rw [List.getElem?_eq_getElem (show 1<xs.length by rw [hxl];decide)] at h0;have e:List.take (Tryz.prog.cellsOf 27) (List.drop 1 [u0,u1])=[u1]:=by rw [c27];rfl
      exact(congrArg (DataW.trod enc Tryz.prog W base spare held n 27) e).symm.trans h0
    obtain⟨A0,c0_,s0,e0,l0,g0⟩:=o_row (d:=k78) z78 Tryz.underlying26 (by kernel_rfl) (fun _ _ _ h=>o_78 h) h0;injection e0 with e0 _;subst e0;obtain⟨A1,c1_,s1,e1,l1,g1⟩:=o_row (d:=k93) z93 Tryz.underlying27 (by kernel_rfl) (fun _ _ _ h=>o_93 h) h1;injection e1 with e1 _;subst e1;exact⟨⟨s0,s1⟩,k29_mk W ⟨s0,s1⟩ l0 g0 l1 g1⟩
theorem o_47{H:Type}{enc:TypeId × Value→H}{W:World}{base:Nat}{spare:Nat→Bool}{held:Bool}{fuel:Nat}{cs:List Value}{x:DataW H × List MemPlace}(h:DataW.trod enc Tryz.prog W base spare held fuel 47 cs=some x):∃ y,k47.K W y cs:=by
  obtain⟨xs,n,_,_,hl,hxl,hf⟩:=DataW.trod_struct Tryz.underlying47 h;have hxl:xs.length=7:=hxl;have hl:cs.length=7:=hl.trans (by kernel_rfl);have c3:Tryz.prog.cellsOf 3=1:=by kernel_rfl
  have c4:Tryz.prog.cellsOf 4=1:=by kernel_rfl
  have c9:Tryz.prog.cellsOf 9=1:=by kernel_rfl
  have c45:Tryz.prog.cellsOf 45=1:=by kernel_rfl
  match cs, hl with
  | [u0, u1, u2, u3, u4, u5, u6], _ =>
    have h0:DataW.trod enc Tryz.prog W base spare held n 9 [u0]=some xs[0]:=by
      have h0:=hf 0 _ rfl;rw [List.getElem?_eq_getElem (show 0<xs.length by rw [hxl];decide)] at h0;have e:List.take (Tryz.prog.cellsOf 9) (List.drop 0 [u0,u1,u2,u3,u4,u5,u6])=[u0]:=by rw [c9];rfl
      exact(congrArg (DataW.trod enc Tryz.prog W base spare held n 9) e).symm.trans h0
    have h1:DataW.trod enc Tryz.prog W base spare held n 3 [u1]=some xs[1]:=by
      have h0:=hf 1 _ rfl;rw [List.getElem?_eq_getElem (show 1<xs.length by rw [hxl];decide)] at h0;have e:List.take (Tryz.prog.cellsOf 3) (List.drop 1 [u0,u1,u2,u3,u4,u5,u6])=[u1]:=by rw [c3];rfl
      exact(congrArg (DataW.trod enc Tryz.prog W base spare held n 3) e).symm.trans h0
    have h2:DataW.trod enc Tryz.prog W base spare held n 9 [u2]=some xs[2]:=by
      have h0:=hf 2 _ rfl;rw [List.getElem?_eq_getElem (show 2<xs.length by rw [hxl];decide)] at h0;have e:List.take (Tryz.prog.cellsOf 9) (List.drop 2 [u0,u1,u2,u3,u4,u5,u6])=[u2]:=by rw [c9];rfl
      exact(congrArg (DataW.trod enc Tryz.prog W base spare held n 9) e).symm.trans h0
    have h3:DataW.trod enc Tryz.prog W base spare held n 4 [u3]=some xs[3]:=by
      have h0:=hf 3 _ rfl;rw [List.getElem?_eq_getElem (show 3<xs.length by rw [hxl];decide)] at h0;have e:List.take (Tryz.prog.cellsOf 4) (List.drop 3 [u0,u1,u2,u3,u4,u5,u6])=[u3]:=by rw [c4];rfl
      exact(congrArg (DataW.trod enc Tryz.prog W base spare held n 4) e).symm.trans h0
    have h4:DataW.trod enc Tryz.prog W base spare held n 3 [u4]=some xs[4]:=by
      have h0:=hf 4 _ rfl;rw [List.getElem?_eq_getElem (show 4<xs.length by rw [hxl];decide)] at h0;have e:List.take (Tryz.prog.cellsOf 3) (List.drop 4 [u0,u1,u2,u3,u4,u5,u6])=[u4]:=by rw [c3];rfl
      exact(congrArg (DataW.trod enc Tryz.prog W base spare held n 3) e).symm.trans h0
    have h5:DataW.trod enc Tryz.prog W base spare held n 45 [u5]=some xs[5]:=by
      have h0:=hf 5 _ rfl;rw [List.getElem?_eq_getElem (show 5<xs.length by rw [hxl];decide)] at h0;have e:List.take (Tryz.prog.cellsOf 45) (List.drop 5 [u0,u1,u2,u3,u4,u5,u6])=[u5]:=by rw [c45];rfl
      exact(congrArg (DataW.trod enc Tryz.prog W base spare held n 45) e).symm.trans h0
    have h6:DataW.trod enc Tryz.prog W base spare held n 45 [u6]=some xs[6]:=by
      have h0:=hf 6 _ rfl;rw [List.getElem?_eq_getElem (show 6<xs.length by rw [hxl];decide)] at h0;have e:List.take (Tryz.prog.cellsOf 45) (List.drop 6 [u0,u1,u2,u3,u4,u5,u6])=[u6]:=by rw [c45];rfl
      exact(congrArg (DataW.trod enc Tryz.prog W base spare held n 45) e).symm.trans h0
    obtain⟨s0,e0⟩:=o_string Tryz.underlying9 h0;injection e0 with e0 _;subst e0;obtain⟨s1,e1,_⟩:=o_int Tryz.underlying3 h1;injection e1 with e1 _;subst e1;obtain⟨s2,e2⟩:=o_string Tryz.underlying9 h2;injection e2 with e2 _;subst e2;obtain⟨s3,e3⟩:=o_bool Tryz.underlying4 h3;injection e3 with e3 _;subst e3;obtain⟨s4,e4,_⟩:=o_int Tryz.underlying3 h4;injection e4 with e4 _;subst e4;obtain⟨A5,c5_,s5,e5,l5,g5⟩:=o_row (d:=k29) z29 Tryz.underlying45 (by kernel_rfl) (fun _ _ _ h=>o_29 h) h5;injection e5 with e5 _;subst e5;obtain⟨A6,c6_,s6,e6,l6,g6⟩:=o_row (d:=k29) z29 Tryz.underlying45 (by kernel_rfl) (fun _ _ _ h=>o_29 h) h6;injection e6 with e6 _;subst e6;exact⟨⟨s0,s1,s2,s3,s4,s5,s6⟩,k47_mk W ⟨s0,s1,s2,s3,s4,s5,s6⟩ l5 g5 l6 g6⟩
theorem agg2{v a b:Value}(h:v.cells.toList=[a,b]):v = .agg #[a,b]:=by
  cases v with
  | agg cs => simp only [Value.cells] at h; rw [← h]
  | _=>simp [Value.cells] at h
def Arg25(W:World)(v:Value)(y:List ByteArray × List S47):Prop:=∃ A0 c0 A1 c1,v = .agg #[.slice A0 y.1.length c0,.slice A1 y.2.length c1]∧y.1.length≤c0∧Kd.string.C W A0 y.1.length y.1∧y.2.length≤c1∧k47.C W A1 y.2.length y.2
theorem arg25{H:Type}{enc:TypeId × Value→H}{W:World}{base:Nat}{spare:Nat→Bool}{held:Bool}{v:Value}{d:DataW H}{p:List MemPlace}(h:DataW.Trod enc Tryz.prog W base spare held 25 v d p):∃ y,Arg25 W v y:=by
  obtain⟨fuel,h⟩:=h;obtain⟨xs,n,_,_,hl,hxl,hf⟩:=DataW.trod_struct Tryz.underlying25 h;have hxl:xs.length=2:=hxl;have hl:v.cells.toList.length=2:=hl.trans (by kernel_rfl);have c22:Tryz.prog.cellsOf 22=1:=by kernel_rfl
  have c23:Tryz.prog.cellsOf 23=1:=by kernel_rfl
  obtain⟨u0,u1,hu⟩:∃ u0 u1,v.cells.toList=[u0,u1]:=by
    generalize v.cells.toList=q at hl
    match q, hl with
    | [u0,u1],_=>exact ⟨u0,u1,rfl⟩
  rw [hu] at hf;have h0:DataW.trod enc Tryz.prog W base spare held n 22 [u0]=some xs[0]:=by
    have h0:=hf 0 _ rfl;rw [List.getElem?_eq_getElem (show 0<xs.length by rw [hxl];decide)] at h0;have e:List.take (Tryz.prog.cellsOf 22) (List.drop 0 [u0,u1])=[u0]:=by rw [c22];rfl
    exact(congrArg (DataW.trod enc Tryz.prog W base spare held n 22) e).symm.trans h0
  have h1:DataW.trod enc Tryz.prog W base spare held n 23 [u1]=some xs[1]:=by
    have h0:=hf 1 _ rfl;rw [List.getElem?_eq_getElem (show 1<xs.length by rw [hxl];decide)] at h0;have e:List.take (Tryz.prog.cellsOf 23) (List.drop 1 [u0,u1])=[u1]:=by rw [c23];rfl
    exact(congrArg (DataW.trod enc Tryz.prog W base spare held n 23) e).symm.trans h0
  obtain⟨A0,c0,s0,e0,l0,g0⟩:=o_row (d:=Kd.string) ByteArray.empty Tryz.underlying22 (by kernel_rfl) (fun _ _ _ h=>by obtain ⟨s,e⟩:=o_string Tryz.underlying9 h;exact⟨s,e⟩) h0;obtain⟨A1,c1,s1,e1,l1,g1⟩:=o_row (d:=k47) z47 Tryz.underlying23 (by kernel_rfl) (fun _ _ _ h=>o_47 h) h1;injection e0 with e0 _;injection e1 with e1 _;subst e0;subst e1;exact⟨(s0,s1),A0,c0,A1,c1,agg2 hu,l0,g0,l1,g1⟩
end Go.Proofs.YtpbembafpnknhaaGreat.Pr
namespace Sn
def Evn{α:Type}(g:Nat→Option α)(r:α):Prop:=∃ n,∀ k,n≤k→g k=some r
section
variable{α β : Type}{g g' : Nat → Option α}{r : α}
theorem Evn.of(h:∀ k,g k=some r):Evn g r:=⟨0,fun k _=>h k⟩
theorem Evn.pure(r:α):Evn (fun _=>some r) r:=⟨0,fun _ _=>rfl⟩
theorem Evn.succ(h:Evn (fun k=>g (k+1)) r):Evn g r:=by
  obtain⟨n,h⟩:=h;exact⟨n+1,fun k hk=>by obtain ⟨j,rfl⟩:∃ j,k=j+1:=⟨k - 1,by omega⟩;exact h j (by omega)⟩
theorem Evn.bind{h:Nat→α→Option β}{s:β}(hg:Evn g r)(hh:Evn (fun k=>h k r) s):Evn (fun k=>(g k).bind (h k)) s:=by
  obtain⟨n,hg⟩:=hg;obtain⟨m,hh⟩:=hh;exact⟨n+m,fun k hk=>by show (g k).bind (h k)=_;rw [hg k (by omega)];exact hh k (by omega)⟩
theorem Evn.pos{c:Prop}[Decidable c]{A B:Nat→Option α}(h:c)(e:Evn A r):Evn (fun k=>if c then A k else B k) r:=by
  obtain⟨n,e⟩:=e;exact⟨n,fun k hk=>(if_pos h).trans (e k hk)⟩
theorem Evn.neg{c:Prop}[Decidable c]{A B:Nat→Option α}(h:¬ c)(e:Evn B r):Evn (fun k=>if c then A k else B k) r:=by
  obtain⟨n,e⟩:=e;exact⟨n,fun k hk=>(if_neg h).trans (e k hk)⟩
theorem Evn.some(h:Evn g r):∃ k,g k=some r:=by
  obtain⟨n,h⟩:=h;exact⟨n,h n (Nat.le_refl _)⟩
def Endn(g:Nat→Option α):Prop:=∃ r,Evn g r
theorem Evn.ends(h:Evn g r):Endn g:=⟨r,h⟩
theorem Endn.succ(h:Endn fun k=>g (k+1)):Endn g:=by
  obtain⟨r,h⟩:=h;exact⟨r,h.succ⟩
theorem Endn.bind{h:Nat→α→Option β}(hg:Endn g)(hh:∀ r,Evn g r→Endn fun k=>h k r):Endn fun k=>(g k).bind (h k):=by
  obtain⟨r,hg⟩:=hg;obtain⟨s,hs⟩:=hh r hg;exact⟨s,hg.bind hs⟩
end
theorem wrap_succ{i n:Nat}(h:i<n)(hn:n≤9223372036854775807):Go.RowKit.wrap64 ((i:Int)+1)=((i+1:Nat):Int):=by
  unfold Go.RowKit.wrap64;omega
theorem wrap_pred{i:Nat}(hn:i≤9223372036854775807):Go.RowKit.wrap64 ((i:Int) - 1)=(i:Int) - 1:=by
  unfold Go.RowKit.wrap64;omega
def allN(n:Nat)(p:Nat→Bool):Bool:=(List.range n).all p
theorem allN_iff{n:Nat}{p:Nat→Bool}:allN n p=true↔∀ i,i<n→p i=true:=by simp [allN,List.all_eq_true]
def allFrom(i n:Nat)(p:Nat→Bool):Bool:=(List.range' i (n - i)).all p
theorem allFrom_iff{i n:Nat}{p:Nat→Bool}:allFrom i n p=true↔∀ j,i≤j→j<n→p j=true:=by
  simp only [allFrom,List.all_eq_true,List.mem_range'_1];exact⟨fun h j h1 h2=>h j ⟨h1,by omega⟩,fun h j hj=>h j hj.1 (by omega)⟩
theorem allFrom_zero{n:Nat}{p:Nat→Bool}:allFrom 0 n p=allN n p:=by
  rw [Bool.eq_iff_iff,allFrom_iff,allN_iff];exact⟨fun h j hj=>h j (Nat.zero_le _) hj,fun h j _ hj=>h j hj⟩
theorem allFrom_end{n:Nat}{p:Nat→Bool}:allFrom n n p=true:=by rw [allFrom_iff];omega
theorem allFrom_step{i n:Nat}{p:Nat→Bool}(hi:i<n):allFrom i n p=(p i&&allFrom (i+1) n p):=by
  rw [Bool.eq_iff_iff,Bool.and_eq_true,allFrom_iff,allFrom_iff];constructor
  · exact fun h=>⟨h i (Nat.le_refl _) hi,fun j h1 h2=>h j (by omega) h2⟩
  rintro ⟨h1,h2⟩ j hj hn;rcases Nat.lt_or_ge i j with h|h
  · exact h2 j h hn
  obtain rfl:i=j:=by omega
  exact h1
theorem Evn.loop{L:Nat→Nat→Option Bool}{n:Nat}{p:Nat→Bool}{r:Bool}(hgo:∀ i,i<n→p i=true→∀ s,Evn (fun k=>L k (i+1)) s→Evn (fun k=>L k i) s)(hno:∀ i,i<n→p i=false→Evn (fun k=>L k i) false)(hend:Evn (fun k=>L k n) r) :
    ∀ d i,n - i=d→i≤n→Evn (fun k=>L k i) (allFrom i n p&&r):=by
  intro d
  induction d with
  | zero =>
    intro i hd hi;obtain rfl:i=n:=by omega
    rw [allFrom_end, Bool.true_and]; exact hend
  | succ d ih =>
    intro i hd hi;rw [allFrom_step (by omega)]
    cases hp : p i with
    | true => rw [Bool.true_and]; exact hgo i (by omega) hp _ (ih (i + 1) (by omega) (by omega))
    | false=>rw [Bool.false_and,Bool.false_and];exact hno i (by omega) hp
theorem Evn.loop0{L:Nat→Nat→Option Bool}{n:Nat}{p:Nat→Bool}{r:Bool}(hgo:∀ i,i<n→p i=true→∀ s,Evn (fun k=>L k (i+1)) s→Evn (fun k=>L k i) s)(hno:∀ i,i<n→p i=false→Evn (fun k=>L k i) false)(hend:Evn (fun k=>L k n) r):Evn (fun k=>L k 0) (allN n p&&r):=by
  rw [← allFrom_zero];exact Evn.loop hgo hno hend n 0 (by omega) (Nat.zero_le _)
theorem allN_list{α:Type}(z:α){q:α→Bool}{xs:List α}:allN xs.length (fun i=>q (xs.getD i z))=xs.all q:=by
  rw [Bool.eq_iff_iff,allN_iff,List.all_eq_true];constructor
  · intro h x hx
    obtain⟨i,hi,rfl⟩:=List.getElem_of_mem hx;have:=h i hi
    rwa [List.getD_eq_getElem?_getD,List.getElem?_eq_getElem hi] at this
  intro h i hi;rw [List.getD_eq_getElem?_getD,List.getElem?_eq_getElem hi];exact h _ (List.getElem_mem hi)
theorem getD_mem{α:Type}{z:α}{xs:List α}{i:Nat}(hi:i<xs.length):xs.getD i z ∈ xs:=by
  rw [List.getD_eq_getElem?_getD,List.getElem?_eq_getElem hi];exact List.getElem_mem hi
theorem getD_of{α:Type}{z:α}{xs:List α}{i:Nat}(hi:i<xs.length):xs.getD i z=xs[i]:=by
  rw [List.getD_eq_getElem?_getD,List.getElem?_eq_getElem hi];rfl
structure IsCmp {α:Type} (c:α→α→Int):Prop where
  rng:∀ a b,c a b = -1∨c a b=0∨c a b=1
  anti:∀ a b,c a b = - c b a
  eq0:∀ a b,c a b=0↔a=b
  tr:∀ a b d,c a b = -1→c b d = -1→c a d = -1
def cmpInt(a b:Int):Int:=if a<b then -1 else if b<a then 1 else 0
def cmpBs(a b:List UInt8):Int:=if a<b then -1 else if b<a then 1 else 0
theorem isCmp_int:IsCmp cmpInt where
  rng a b:=by unfold cmpInt;split <;> (try split) <;> simp
  anti a b:=by unfold cmpInt;split <;> split <;> (try split) <;> omega
  eq0 a b:=by unfold cmpInt;split <;> (try split) <;> omega
  tr a b d:=by
    unfold cmpInt;intro h1 h2;have h1:a<b:=by split at h1 <;> first|assumption|(split at h1 <;> omega)
    have h2:b<d:=by split at h2 <;> first|assumption|(split at h2 <;> omega)
    rw [if_pos (by omega)]
theorem isCmp_bs:IsCmp cmpBs where
  rng a b:=by unfold cmpBs;split <;> (try split) <;> simp
  anti a b:=by
    unfold cmpBs;rcases Std.lt_trichotomy a b with h|h|h
    · rw [if_pos h,if_neg (List.lt_asymm h),if_pos h]
    · subst h;rw [if_neg (List.lt_irrefl _),if_neg (List.lt_irrefl _)];rfl
    rw [if_neg (List.lt_asymm h),if_pos h,if_pos h];rfl
  eq0 a b:=by
    unfold cmpBs;rcases Std.lt_trichotomy a b with h|h|h
    · rw [if_pos h];exact⟨fun h2=>by omega,fun h2=>by subst h2;exact absurd h (List.lt_irrefl _)⟩
    · subst h;rw [if_neg (List.lt_irrefl _),if_neg (List.lt_irrefl _)];simp
    rw [if_neg (List.lt_asymm h),if_pos h];exact⟨fun h2=>by omega,fun h2=>by subst h2;exact absurd h (List.lt_irrefl _)⟩
  tr a b d:=by
    unfold cmpBs;intro h1 h2;have h1:a<b:=by split at h1 <;> first|assumption|(split at h1 <;> omega)
    have h2:b<d:=by split at h2 <;> first|assumption|(split at h2 <;> omega)
    rw [if_pos (List.lt_trans h1 h2)]
theorem IsCmp.self{α:Type}{c:α→α→Int}(h:IsCmp c)(a:α):c a a=0:=(h.eq0 a a).2 rfl
theorem IsCmp.gt{α:Type}{c:α→α→Int}(h:IsCmp c){a b:α}:c a b=1↔c b a = -1:=by
  have:=h.anti a b;omega
theorem IsCmp.trichotomy{α:Type}{c:α→α→Int}(h:IsCmp c)(a b:α):c a b = -1∨a=b∨c b a = -1:=by
  rcases h.rng a b with h1|h1|h1
  · exact .inl h1
  · exact .inr (.inl ((h.eq0 _ _).1 h1))
  exact .inr (.inr (h.gt.1 h1))
def orC(x y:Int):Int:=if x≠0 then x else y
theorem IsCmp.lex{α β γ:Type}{c:β→β→Int}{d:γ→γ→Int}(hc:IsCmp c)(hd:IsCmp d)(f:α→β)(g:α→γ)(inj:∀ a b,f a=f b→g a=g b→a=b):IsCmp (fun a b=>orC (c (f a) (f b)) (d (g a) (g b))) where
  rng a b:=by
    unfold orC
    split
    · exact hc.rng _ _
    exact hd.rng _ _
  anti a b:=by
    unfold orC;have h1:=hc.anti (f a) (f b);have h2:=hd.anti (g a) (g b)
    split <;> split <;> omega
  eq0 a b := by
    unfold orC;constructor
    · intro h
      split at h
      · omega
      rename_i h1
      have h1:c (f a) (f b)=0:=by omega
      exact inj a b ((hc.eq0 _ _).1 h1) ((hd.eq0 _ _).1 h)
    rintro rfl;rw [hc.self,hd.self];rfl
  tr a b e:=by
    unfold orC;intro h1 h2;by_cases x:c (f a) (f b)=0 <;> by_cases y:c (f b) (f e)=0
    · rw [if_neg (by omega)] at h1 h2
      rw [(hc.eq0 _ _).1 x,if_neg (by omega)];exact hd.tr _ _ _ h1 h2
    · rw [if_pos y] at h2
      rw [(hc.eq0 _ _).1 x,if_pos y];exact h2
    · rw [if_pos x] at h1
      rw [← (hc.eq0 _ _).1 y,if_pos x];exact h1
    rw [if_pos x] at h1;rw [if_pos y] at h2;have:=hc.tr _ _ _ h1 h2;rw [if_pos (by omega)];exact this
def cmpList{α:Type}(c:α→α→Int):List α→List α→Int
  | [], [] => 0
  | [], _ :: _ => -1
  | _ :: _, [] => 1
  | a::r,b::s=>if c a b≠0 then c a b else cmpList c r s
theorem IsCmp.list{α : Type}{c : α → α → Int}(hc : IsCmp c) : IsCmp (cmpList c) where
  rng a := by
    induction a with
    | nil => intro b; cases b <;> simp [cmpList]
    | cons x r ih =>
      intro b
      cases b with
      | nil => simp [cmpList]
      | cons y s=>unfold cmpList;split;exact hc.rng _ _;exact ih s
  anti a:=by
    induction a with
    | nil => intro b; cases b <;> simp [cmpList]
    | cons x r ih =>
      intro b
      cases b with
      | nil => simp [cmpList]
      | cons y s =>
        unfold cmpList;have h1:=hc.anti x y;have h2:=ih s
        split <;> split <;> omega
  eq0 a := by
    induction a with
    | nil => intro b; cases b <;> simp [cmpList]
    | cons x r ih =>
      intro b
      cases b with
      | nil => simp [cmpList]
      | cons y s =>
        unfold cmpList;have h1:=hc.eq0 x y;have h2:=ih s;constructor
        · intro h
          split at h
          · omega
          rename_i h3
          rw [h1.1 (by omega),h2.1 h]
        intro h;injection h with h3 h4;subst h3;subst h4;rw [hc.self,if_neg (by simp)];exact h2.2 rfl
  tr a := by
    induction a with
    | nil => intro b d h1 h2; cases b <;> cases d <;> simp_all [cmpList]
    | cons x r ih =>
      intro b d h1 h2
      cases b with
      | nil => simp [cmpList] at h1
      | cons y s =>
        cases d with
        | nil => simp [cmpList] at h2
        | cons z t =>
          unfold cmpList at h1 h2 ⊢;by_cases p:c x y=0 <;> by_cases q:c y z=0
          · rw [if_neg (by omega)] at h1 h2
            rw [(hc.eq0 _ _).1 p,if_neg (by omega)];exact ih _ _ h1 h2
          · rw [if_pos q] at h2
            rw [(hc.eq0 _ _).1 p,if_pos q];exact h2
          · rw [if_pos p] at h1
            rw [← (hc.eq0 _ _).1 q,if_pos p];exact h1
          rw [if_pos p] at h1;rw [if_pos q] at h2;have:=hc.tr _ _ _ h1 h2;rw [if_pos (by omega)];exact this
section
variable{α : Type}{c : α → α → Int}
def Rises(c:α→α→Int)(l:List α):Prop:=l.Pairwise fun a b=>c a b≠1
def Strict(c:α→α→Int)(l:List α):Prop:=l.Pairwise fun a b=>c a b = -1
def ins(c:α→α→Int)(x:α):List α→List α
  | [] => [x]
  | y::r=>if c y x<0 then y::ins c x r else x::y::r
def insD(c:α→α→Int)(x:α):List α→List α
  | [] => [x]
  | y::r=>if c y x<0 then y::insD c x r else if c y x=0 then y::r else x::y::r
def sortL(c:α→α→Int)(l:List α):List α:=l.foldl (fun acc x=>ins c x acc) []
def sortD(c:α→α→Int)(l:List α):List α:=l.foldl (fun acc x=>insD c x acc) []
theorem ins_perm(x:α):∀ l:List α,(ins c x l).Perm (x::l)
  | [] => .refl _
  | y :: r => by
    unfold ins
    split
    · exact ((ins_perm x r).cons y).trans (List.Perm.swap x y r)
    exact .refl _
theorem mem_ins{x a:α}{l:List α}:a ∈ ins c x l↔a=x∨a ∈ l:=by
  rw [(ins_perm x l).mem_iff];simp
theorem ins_rises(h:IsCmp c)(x:α):∀ l:List α,Rises c l→Rises c (ins c x l)
  | [], _ => by simp [ins, Rises]
  | y :: r, hl => by
    unfold Rises at hl ⊢;rw [List.pairwise_cons] at hl;unfold ins
    split
    · rename_i h1
      rw [List.pairwise_cons];refine⟨fun a ha=>?_,ins_rises h x r hl.2⟩;rcases mem_ins.1 ha with rfl|ha
      · omega
      exact hl.1 a ha
    rename_i h1
    rw [List.pairwise_cons,List.pairwise_cons];refine⟨fun a ha=>?_,hl⟩;have hx:c x y≠1:=fun hx=>h1 (by rw [h.gt.1 hx];omega)
    rcases List.mem_cons.1 ha with rfl|ha
    · exact hx
    intro hc1;have h2:=hl.1 a ha;have h3:=h.gt.1 hc1;rcases h.trichotomy x y with h4|h4|h4
    · exact h2 (h.gt.2 (h.tr _ _ _ h3 h4))
    · subst h4;exact h2 hc1
    exact hx (h.gt.2 h4)
theorem foldl_ins_perm(l acc:List α):(l.foldl (fun acc x=>ins c x acc) acc).Perm (l++acc):=by
  induction l generalizing acc with
  | nil => exact .refl _
  | cons x r ih =>
    refine(ih _).trans ?_;exact((ins_perm x acc).append_left r).trans (List.perm_middle)
theorem sortL_perm(l:List α):(sortL c l).Perm l:=by
  have:=foldl_ins_perm (c:=c) l []
  rwa [List.append_nil] at this
theorem foldl_ins_rises(h:IsCmp c)(l:List α):∀ acc:List α,Rises c acc→Rises c (l.foldl (fun acc x=>ins c x acc) acc):=by
  induction l with
  | nil => exact fun _ ha => ha
  | cons x r ih=>exact fun acc ha=>ih _ (ins_rises h x acc ha)
theorem sortL_rises(h:IsCmp c)(l:List α):Rises c (sortL c l):=foldl_ins_rises h l [] List.Pairwise.nil
theorem rises_eq(h:IsCmp c){l1 l2:List α}(h1:Rises c l1)(h2:Rises c l2)(hp:l1.Perm l2):l1=l2:=
  hp.eq_of_pairwise (fun a b _ _ hab hba=>by
    rcases h.trichotomy a b with h3|h3|h3
    · exact absurd (h.gt.2 h3) hba
    · exact h3
    exact absurd (h.gt.2 h3) hab) h1 h2
theorem sortL_of_rises(h:IsCmp c){l:List α}(hl:Rises c l):sortL c l=l:=rises_eq h (sortL_rises h _) hl (sortL_perm l)
theorem mem_insD(h:IsCmp c){x a:α}:∀ {l:List α},a ∈ insD c x l↔a=x∨a ∈ l
  | [] => by simp [insD]
  | y :: r => by
    unfold insD
    split
    · rw [List.mem_cons,mem_insD h,List.mem_cons];constructor <;> rintro (h|h|h) <;> simp [h]
    split
    · rename_i h1
      have:=(h.eq0 _ _).1 h1;subst this;simp
    simp
theorem insD_strict(h:IsCmp c)(x:α):∀ l:List α,Strict c l→Strict c (insD c x l)
  | [], _ => by simp [insD, Strict]
  | y :: r, hl => by
    unfold Strict at hl ⊢;have hl':=hl;rw [List.pairwise_cons] at hl;unfold insD
    split
    · rename_i h1
      rw [List.pairwise_cons];refine⟨fun a ha=>?_,insD_strict h x r hl.2⟩;rcases(mem_insD h).1 ha with rfl|ha
      · rcases h.rng y a with h2|h2|h2 <;> omega
      exact hl.1 a ha
    split
    · exact hl'
    rename_i h1 h2
    have hx:c x y = -1:=by
      have:=h.anti x y;rcases h.rng y x with h3|h3|h3 <;> omega
    rw [List.pairwise_cons];refine⟨fun a ha=>?_,hl'⟩;rcases List.mem_cons.1 ha with rfl|ha
    · exact hx
    exact h.tr _ _ _ hx (hl.1 a ha)
theorem foldl_insD_strict(h:IsCmp c)(l:List α):∀ acc:List α,Strict c acc→Strict c (l.foldl (fun acc x=>insD c x acc) acc):=by
  induction l with
  | nil => exact fun _ ha => ha
  | cons x r ih=>exact fun acc ha=>ih _ (insD_strict h x acc ha)
theorem sortD_strict(h:IsCmp c)(l:List α):Strict c (sortD c l):=foldl_insD_strict h l [] List.Pairwise.nil
theorem mem_foldl_insD(h:IsCmp c){a:α}(l:List α):∀ acc:List α,a ∈ l.foldl (fun acc x=>insD c x acc) acc↔a ∈ l∨a ∈ acc:=by
  induction l with
  | nil => simp
  | cons x r ih =>
    intro acc;rw [List.foldl_cons,ih,mem_insD h,List.mem_cons];constructor
    · rintro (h|h|h) <;> simp [h]
    rintro ((h|h)|h) <;> simp [h]
theorem mem_sortD(h:IsCmp c){a:α}{l:List α}:a ∈ sortD c l↔a ∈ l:=by
  unfold sortD;rw [mem_foldl_insD h];simp
theorem Strict.rises{l:List α}(hl:Strict c l):Rises c l:=hl.imp (fun h1 h2=>by omega)
theorem Strict.nodup{l:List α}(h:IsCmp c)(hl:Strict c l):l.Nodup:=hl.imp (fun {a b} h1 h2=>by subst h2;rw [h.self] at h1;omega)
theorem strict_eq(h:IsCmp c){l1 l2:List α}(h1:Strict c l1)(h2:Strict c l2)(hm:∀ a,a ∈ l1↔a ∈ l2):l1=l2:=
  rises_eq h h1.rises h2.rises (by
    have:=h1.nodup h;have:=h2.nodup h;exact(List.perm_ext_iff_of_nodup ‹l1.Nodup› ‹l2.Nodup›).2 hm)
theorem sortD_of_strict(h:IsCmp c){l:List α}(hl:Strict c l):sortD c l=l:=strict_eq h (sortD_strict h _) hl (fun _=>mem_sortD h)
end
end Sn
namespace Go.Proofs.YtpbembafpnknhaaGreat.PrD
open Go.RowKit Go.Proofs.YtpbembafpnknhaaGreatW.PrintWords Go.Proofs.YtpbembafpnknhaaGreatW.PrintLast Go.Proofs.YtpbembafpnknhaaGreatW.PrintMore
open Go.Proofs.YtpbembafpnknhaaGreat.Pr
structure Below (B:Nat) (w w':World):Prop where
  below:RowKit.Below B w w'
  drawn:w.drawn≤w'.drawn
theorem Below.refl(B:Nat)(w:World):Below B w w:=⟨RowKit.Below.refl B w,Nat.le_refl _⟩
theorem Below.cell{B:Nat}{w w':World}(h:Below B w w'){p:Addr}(hp:p.block<B):w'.cell? p=w.cell? p:=h.below.cell hp
theorem Below.frozen{B:Nat}{w w':World}(h:Below B w w'){p:Addr}(hp:p.block<B):w'.frozen? p=w.frozen? p:=h.below.frozen hp
theorem below_alloc{w W:World}(h:Below w.heap.size w W)(o:Obj):Below w.heap.size w (W.alloc o):=⟨YtpbembafpnknhaaGreatW.PrintWords.below_alloc h.below o,h.drawn⟩
theorem below_drew1{base:Nat}{w W:World}(h:Below base w W):Below base w W.drew:=⟨YtpbembafpnknhaaGreatW.PrintWords.below_drew1 h.below,Nat.le_succ_of_le h.drawn⟩
theorem pw_below_drewN{B:Nat}{w W:World}(h:Below B w W)(n:Nat):Below B w (W.drewN n):=⟨YtpbembafpnknhaaGreatW.PrintWords.pw_below_drewN h.below n,Nat.le_trans h.drawn (Nat.le_add_right _ _)⟩
theorem below_size{w W:World}(h:Below w.heap.size w W):w.heap.size≤W.heap.size:=h.below.size
theorem below_step{w W w2:World}(h:Below w.heap.size w W)(k:Below W.heap.size W w2):Below w.heap.size w w2:=⟨YtpbembafpnknhaaGreatW.PrintWords.below_step h.below k.below,Nat.le_trans h.drawn k.drawn⟩
theorem below_set{w W:World}{g j:Nat}{v:Value}(h:Below w.heap.size w W)(hg:w.heap.size≤g):Below w.heap.size w (W.setCell ⟨g,j,none⟩ v):=⟨YtpbembafpnknhaaGreatW.PrintWords.below_set h.below hg,h.drawn⟩
theorem blk_below{w w1:World}{g:Nat}{o:Obj}(h:w.heap[g]? = some o)(hb:Below w.heap.size w w1):w1.heap[g]? = some o:=YtpbembafpnknhaaGreatW.PrintWords.blk_below h hb.below
theorem Kd.C_below{α:Type}{d:Kd α}{w w1:World}{xs:List α}{A:Option Addr}{n:Nat}(h:d.C w A n xs)(hb:Below w.heap.size w w1):d.C w1 A n xs:=YtpbembafpnknhaaGreatW.PrintWords.Kd.C_below h hb.below
section
variable{P : Program}{ops : Array Oper}{rest : List Oper}{o : Oper}{a : Act}{Q : Exit → Act → World → Prop}{Kc : Act → World → Prop}
theorem box_event{W:World}(hgd:o.guard=none){N:Tmp}(_hd:o.dst=some N){cs:Array Value}{t:TypeId}(hrun:(execOp a.eval o).run P W = .ok (.value (.pointer (some ⟨W.heap.size,0,none⟩))) (W.alloc (.cells cs t (0,0))))(h:∀ g,g=W.heap.size→∀ w1,w1.heap[g]? = some (.cells cs t (0,0))→Below W.heap.size W w1→wpList P ops Q rest (a.put o.dst (.pointer (some ⟨g,0,none⟩))) w1):wpList P ops Q (o::rest) a W:=
  Kd.event_run hgd hrun (h _ rfl _ (blk_new W _) (below_alloc (Below.refl _ _) _))
theorem Kd.R_lit_step{α:Type}(d:Kd α){w0 W:World}(base e:Nat)(hw:Region.wanted o (yielded ops a.tmps)=true){N:Tmp}(_hd:o.dst=some N){xs:List α}{inner:List Value}{ok okp:Nat→Prop}(hrun:(execOp a.eval o).run P W = .ok (.value (.slice (some ⟨W.heap.size,0,none⟩) xs.length xs.length)) (W.alloc (.cells inner.toArray e)))(hrep:Reps (d.M W base okp) d.sz xs inner)(hok:∀ k,okp k→ok k)(hfresh:ok W.heap.size)(HB:Below base w0 W)(hbase:base≤W.heap.size)(hm:xs.length≤9223372036854775807)(h:∀ v1 w1,d.R e w1 base ok v1 xs→Below base w0 w1→W.grownBy w1 none→(∃ b,v1.ownBlock=some b∧W.heap.size≤b)→Kc (a.put o.dst v1) w1):if Region.wanted o (yielded ops a.tmps)=true then Oper.wp P o a W Kc Q else Kc (a.put o.dst undef) W:=by
  refine event_step hw hrun (h _ _ ⟨fun k hk=>?_,inner,?_,?_⟩ ⟨HB.below.alloc hbase _,HB.drawn⟩ (World.grownBy_alloc W _ none) ⟨W.heap.size,by simp [Value.ownBlock],Nat.le_refl _⟩)
  · have : W.heap.size = k := by simpa [Value.ownBlock] using hk
    subst this;exact hfresh
  · have h2 := World.ownsRow_lit (base := base) (e := e) (size := d.sz) W inner.toArray xs.length hbase (by simpa [maxLen] using hm) (by simpa using hrep.1)
    simpa using h2
  refine hrep.imp_ (fun p c hp=>d.M_mono (fun k hk=>⟨hok k hk.1,fun he=>?_⟩) (YtpbembafpnknhaaGreatW.PrintWords.Kd.M_below (d.M_bound hp) (YtpbembafpnknhaaGreatW.PrintWords.below_alloc (RowKit.Below.refl _ _) _)));have h3:k=W.heap.size:=by simpa [Value.ownBlock] using he
  have:=hk.2.2.1;omega
end
theorem Below.grows{w w':World}(h:Below w.heap.size w w'):∃ q os,w'=Go.Sort.grow (w.drewN q) os:=by
  refine⟨w'.drawn - w.drawn,w'.heap.extract w.heap.size w'.heap.size,?_⟩;have hd:=h.drawn;obtain⟨h1,h2,h3,h4,h5⟩:=h.below;have hh:w'.heap=w.heap++w'.heap.extract w.heap.size w'.heap.size:=by
    apply Array.ext_getElem?;intro i;rw [Array.getElem?_append];by_cases hi:i<w.heap.size
    · rw [if_pos hi];exact h5 i hi
    rw [if_neg hi,Array.getElem?_extract];by_cases hi2:i<w'.heap.size
    · rw [if_pos (by omega)]
      congr 1;omega
    rw [if_neg (by omega)];exact Array.getElem?_eq_none (by omega)
  cases w';simp only [Go.Sort.grow,World.drewN] at *;subst h1;subst h2;subst h3;rw [← hh]
  congr 1
  omega
end Go.Proofs.YtpbembafpnknhaaGreat.PrD
namespace Go.Proofs.YtpbembafpnknhaaGreat.Pr
open Go.RowKit Go.Proofs.YtpbembafpnknhaaGreatW.PrintWords Go.Proofs.YtpbembafpnknhaaGreatW.PrintLast Go.Proofs.YtpbembafpnknhaaGreatW.PrintMore
def bz(k m:Nat):Array Bool:=((List.range k).map fun i=>m.testBit i).toArray
theorem am{p:Prop}(h:p):Aside0 p:=⟨h⟩
theorem zb{p:Prop}(h:p:=by repeat (first|(with_reducible first|exact HB.out|apply below_alloc|apply pw_below_drewN|apply below_drew1|refine below_set ?_ GE101.out|refine below_set ?_ GE102.out|refine below_set ?_ GE103.out|refine below_set ?_ GE104.out|refine below_set ?_ GE105.out|refine below_set ?_ GE106.out|refine below_set ?_ GE107.out|refine below_set ?_ GE108.out|refine below_set ?_ GE109.out|refine below_set ?_ GE110.out|refine below_set ?_ GE111.out|refine below_set ?_ GE112.out|refine below_set ?_ GE113.out|refine below_set ?_ GE114.out|refine below_set ?_ GE115.out|refine below_set ?_ GE116.out|refine below_set ?_ GE117.out|refine below_set ?_ GE118.out|refine below_set ?_ GE119.out|refine below_set ?_ GE120.out|refine below_set ?_ GE121.out|refine below_set ?_ GE122.out|refine below_set ?_ GE123.out|refine below_set ?_ GE124.out|refine below_set ?_ GE125.out|refine below_set ?_ GE126.out|refine below_set ?_ GE127.out|refine below_set ?_ GE128.out|refine below_set ?_ GE129.out|refine below_set ?_ GE130.out|refine below_set ?_ GE131.out|refine below_set ?_ GE132.out|refine below_set ?_ GE133.out|refine below_set ?_ GE134.out|refine below_set ?_ GE135.out|refine below_set ?_ GE136.out|refine below_set ?_ GE137.out|refine below_set ?_ GE138.out|refine below_set ?_ GE139.out|refine below_set ?_ GE140.out|refine below_set ?_ GE141.out|refine below_set ?_ GE142.out|refine below_set ?_ GE143.out|refine below_set ?_ GE144.out|refine below_set ?_ GE145.out|refine below_set ?_ GE146.out|refine below_set ?_ GE147.out|refine below_set ?_ GE148.out|refine below_set ?_ GE149.out|refine below_set ?_ GE150.out|refine below_set ?_ GE151.out|refine below_set ?_ GE152.out|refine below_set ?_ GE153.out|refine below_set ?_ GE154.out|refine below_set ?_ GE155.out|refine below_set ?_ GE156.out|refine below_set ?_ GE157.out|refine below_set ?_ GE158.out|refine below_set ?_ GE159.out|refine below_set ?_ GE160.out)|exact HB.out)):p:=h
theorem zl{p q:Prop}(x:p)(h:p→q:=by intro hx_;(with_reducible repeat (first|refine blk_drewN ?_ _|refine blk_drew ?_|refine blk_alloc ?_ _));exact hx_):q:=h x
theorem zR{p q:Prop}(x:p)(h:p→q:=by intro hx_;(with_reducible repeat (first|apply Kd.R_alloc|apply Kd.R_drewN|apply Kd.R_drew));exact hx_):q:=h x
theorem zN{p q:Prop}(x:p)(h:p→q:=by intro hx_;(with_reducible repeat (first|apply Kd.N_alloc|apply Kd.N_drewN|apply Kd.N_drew));exact hx_):q:=h x
theorem zS{p q:Prop}(x:p)(h:p→q:=by intro hx_;(with_reducible repeat (first|apply Kd.S_alloc|apply Kd.S_drewN|apply Kd.S_drew));exact hx_):q:=h x
theorem zc{p q:Prop}(x:p)(h:p→q:=by intro hx_;repeat (first|exact hx_|(with_reducible refine Kd.C_alloc ?_ _)|(with_reducible refine Kd.C_drewN ?_ _)|(with_reducible refine Kd.C_drew ?_))):q:=h x
theorem za{p:Prop}(h:p:=by (try simp only [List.map_toArray,List.map_cons,List.map_nil]);first|done|rfl|(simp only [List.length_drop,List.length_take];rfl)):p:=h
theorem zas{p:Prop}(h:p:=by first|(with_reducible assumption)|assumption):p:=h
theorem ze{p:Prop}(h:p:=by first|rfl|(simp;done)|(simp [*];done)):p:=h
theorem zf{p:Prop}(h:p:=by first|rfl|(simp [errW_none,errW_some] <;> rfl)|(simp [*,errW_none,errW_some] <;> rfl)):p:=h
theorem zd{p:Prop}(h:p:=by repeat (first|exact Drawn0.refl _|apply Drawn0.step)):p:=h
theorem zg{p:Prop}(h:p:=by rw [hg];exact(below_size (zb))):p:=h
theorem zn{p q:Prop}(x:p)(h:p→q:=by intro hx_;rw [hg];exact Nat.ne_of_lt (blk_lt (zl hx_))):q:=h x
theorem zm{p q:Prop}(x:p)(h:p→q:=by intro hx_;rw [hg];exact Nat.ne_of_gt (blk_lt (zl hx_))):q:=h x
theorem zx{p q:Prop}(x:p)(h:p→q:=by intro hx_;first|(rw [add_block];exact hx_)|(show (Addr.add _ _).block≠_;rw [add_block];exact hx_)|exact hx_):q:=h x
theorem zy{p q:Prop}(x:p)(h:p→q:=by intro hx_;have:=World.block_lt_of_cell? _ _ hx_;first|rwa [add_block] at this|exact this):q:=h x
theorem zw{p r q:Prop}(x:p)(hb_:r)(h:p→r→q:=by intro hx_ hb_;exact blk_below (zl hx_) hb_):q:=h x hb_
theorem ba{w w1:World}{p:Addr}{v:Value}(hb:Aside0 (Below w.heap.size w w1))(h:w.cell? p=some v):w1.cell? p=some v:=(hb.out.cell (World.block_lt_of_cell? w _ h)).trans h
theorem bh{w w1 w2:World}{p:Addr}{v:Value}(hb:Aside0 (Below w.heap.size w w1))(h:w.cell? p=some v)(e:w2.cell? p=w1.cell? p:=by rfl):w2.cell? p=some v:=e.trans ((hb.out.cell (World.block_lt_of_cell? w _ h)).trans h)
theorem bc{w:World}{g:Nat}{cs:Array Value}{t:TypeId}{v:Value}(h:Aside0 (w.heap[g]? = some (.cells cs t (0,0))))(i:Nat)(e:cs[i]? = some v:=by rfl):w.cell? ⟨g,i,none⟩=some v:=(blk_cell h.out i).trans e
section
variable{P : Program}{ops : Array Oper}{rest : List Oper}{o : Oper}{a : Act}{Q : Exit → Act → World → Prop}
theorem bx_{W:World}(N:Tmp)(cs:Array Value)(t:TypeId)(h:∀ g,g=W.heap.size→∀ w1,w1.heap[g]? = some (.cells cs t (0,0))→Below W.heap.size W w1→wpList P ops Q rest (a.put o.dst (.pointer (some ⟨g,0,none⟩))) w1)(hg_:o.guard=none:=by rfl)(hd_:o.dst=some N:=by rfl)(hr_:(execOp a.eval o).run P W = .ok (.value (.pointer (some ⟨W.heap.size,0,none⟩))) (W.alloc (.cells cs t (0,0))):=by first|(go_simp;done)|(go_simp;rfl)):wpList P ops Q (o::rest) a W:=box_event hg_ hd_ hr_ h
theorem gd_{W:World}(N:Tmp)(h:wpList P ops Q (o::rest) a W)(hN:o.dst=some N:=by exact rfl):wpList P ops Q (o::rest) a W:=h
theorem gc_{W:World}(f:FuncId){xs_:Array Operand}{ts:Array TypeId}(h:wpList P ops Q (o::rest) a W)(ho:o.op = .call { callee:=.value (.func f),args:=xs_,argTypes:=ts }:=by exact rfl):wpList P ops Q (o::rest) a W:=h
end
section
variable{P : Program}{ops : Array Oper}{Q : Exit → Act → World → Prop}{md : Region.Mode}{S : World → Prop}{ds : List Nat}
theorem oz_{oi:Oper}{fuel:Nat}{l:Array Bool}{a:Act}{w:World}(i N k m:Nat)(h:∀ K:Act→World→Prop,Shut (∀ a' w',S w'→(S w'→wpAnyLast P md ops Q S ds fuel (bz k m) a' w')→K a' w')→if Region.wanted oi (yielded ops a.tmps)=true then Oper.wp P oi a w K Q else K (a.put (some N) undef) w)(hi:ops[i]? = some oi:=by rfl)(hN:oi.dst=some N:=by rfl)(hc:readyB md ops l (bz k m) i=true:=by exact one_of HT_.out (by kernel_rfl))(hd:i ∉ ds:=by decide):wpAnyLast P md ops Q S ds (fuel+1) l a w:=one_ (bz k m) hi hN hc hd h
theorem nz_{fuel:Nat}{l:Array Bool}{a a':Act}{v:Value}{w:World}(N:Nat)(h:wpAnyLast P md ops Q S ds fuel l a' w)(ha:a.put (some N) v=a':=by simp only [Act.put,List.setIfInBounds_toArray,List.set_cons_zero,List.set_cons_succ,i64_w,i32_w];rfl):wpAnyLast P md ops Q S ds fuel l (a.put (some N) v) w:=norm_ ha h
end
theorem cs2{w:World}{g:Nat}{v0 v1:Value}{t:TypeId}(h:w.heap[g]? = some (.cells #[v0,v1] t (0,0))):w.cell? ⟨g,0,none⟩=some v0∧w.cell? ⟨g,1,none⟩=some v1:=⟨(blk_cell h 0).trans rfl,(blk_cell h 1).trans rfl⟩
theorem cf2{w:World}{g:Nat}{v0 v1:Value}{t:TypeId}(h:w.heap[g]? = some (.cells #[v0,v1] t (0,0))):w.cell? ⟨g,0,none⟩=some v0∧w.cell? ⟨g,1,none⟩=some v1∧w.frozen? ⟨g,0,none⟩=false∧w.frozen? ⟨g,1,none⟩=false:=⟨(blk_cell h 0).trans rfl,(blk_cell h 1).trans rfl,blk_frozen h 0,blk_frozen h 1⟩
theorem cs3{w:World}{g:Nat}{v0 v1 v2:Value}{t:TypeId}(h:w.heap[g]? = some (.cells #[v0,v1,v2] t (0,0))):w.cell? ⟨g,0,none⟩=some v0∧w.cell? ⟨g,1,none⟩=some v1∧w.cell? ⟨g,2,none⟩=some v2:=⟨(blk_cell h 0).trans rfl,(blk_cell h 1).trans rfl,(blk_cell h 2).trans rfl⟩
theorem cf3{w:World}{g:Nat}{v0 v1 v2:Value}{t:TypeId}(h:w.heap[g]? = some (.cells #[v0,v1,v2] t (0,0))):w.cell? ⟨g,0,none⟩=some v0∧w.cell? ⟨g,1,none⟩=some v1∧w.cell? ⟨g,2,none⟩=some v2∧w.frozen? ⟨g,0,none⟩=false∧w.frozen? ⟨g,1,none⟩=false∧w.frozen? ⟨g,2,none⟩=false:=⟨(blk_cell h 0).trans rfl,(blk_cell h 1).trans rfl,(blk_cell h 2).trans rfl,blk_frozen h 0,blk_frozen h 1,blk_frozen h 2⟩
theorem cs7{w:World}{g:Nat}{v0 v1 v2 v3 v4 v5 v6:Value}{t:TypeId}(h:w.heap[g]? = some (.cells #[v0,v1,v2,v3,v4,v5,v6] t (0,0))):w.cell? ⟨g,0,none⟩=some v0∧w.cell? ⟨g,1,none⟩=some v1∧w.cell? ⟨g,2,none⟩=some v2∧w.cell? ⟨g,3,none⟩=some v3∧w.cell? ⟨g,4,none⟩=some v4∧w.cell? ⟨g,5,none⟩=some v5∧w.cell? ⟨g,6,none⟩=some v6:=⟨(blk_cell h 0).trans rfl,(blk_cell h 1).trans rfl,(blk_cell h 2).trans rfl,(blk_cell h 3).trans rfl,(blk_cell h 4).trans rfl,(blk_cell h 5).trans rfl,(blk_cell h 6).trans rfl⟩
theorem cf7{w:World}{g:Nat}{v0 v1 v2 v3 v4 v5 v6:Value}{t:TypeId}(h:w.heap[g]? = some (.cells #[v0,v1,v2,v3,v4,v5,v6] t (0,0))):w.cell? ⟨g,0,none⟩=some v0∧w.cell? ⟨g,1,none⟩=some v1∧w.cell? ⟨g,2,none⟩=some v2∧w.cell? ⟨g,3,none⟩=some v3∧w.cell? ⟨g,4,none⟩=some v4∧w.cell? ⟨g,5,none⟩=some v5∧w.cell? ⟨g,6,none⟩=some v6∧w.frozen? ⟨g,0,none⟩=false∧w.frozen? ⟨g,1,none⟩=false∧w.frozen? ⟨g,2,none⟩=false∧w.frozen? ⟨g,3,none⟩=false∧w.frozen? ⟨g,4,none⟩=false∧w.frozen? ⟨g,5,none⟩=false∧w.frozen? ⟨g,6,none⟩=false:=⟨(blk_cell h 0).trans rfl,(blk_cell h 1).trans rfl,(blk_cell h 2).trans rfl,(blk_cell h 3).trans rfl,(blk_cell h 4).trans rfl,(blk_cell h 5).trans rfl,(blk_cell h 6).trans rfl,blk_frozen h 0,blk_frozen h 1,blk_frozen h 2,blk_frozen h 3,blk_frozen h 4,blk_frozen h 5,blk_frozen h 6⟩
section
variable{P : Program}{ops : Array Oper}{Q : Exit → Act → World → Prop}{md : Region.Mode}{S : World → Prop}{ds : List Nat}
theorem pz_{oi:Oper}{v:Value}{fuel:Nat}{l:Array Bool}{a a':Act}{w:World}(i N k m:Nat)(h:wpAnyLast P md ops Q S ds fuel (bz k m) a' w)(hi:ops[i]? = some oi:=by rfl)(hN:oi.dst=some N:=by rfl)(hc:anyB md ops l (bz k m) i=true:=by exact any_of HT_.out (by kernel_rfl))(hQ:∀ c a w,Q (.panic c) (a.put oi.dst v) w→Q (.panic c) a w:=by exact fun _ _ _ h=>h)(hw:Region.wanted oi (yielded ops a.tmps)=true:=by rfl)(hr:∀ w':World,(execOp a.eval oi).run P w' = .ok (.value v) w':=by intro w';go_simp;with_reducible rfl)(ha:a.put (some N) v=a':=by simp only [Act.put,List.setIfInBounds_toArray,List.set_cons_zero,List.set_cons_succ,i64_w,i32_w];rfl):wpAnyLast P md ops Q S ds (fuel+1) l a w:=
  pure_ (bz k m) hi hN hc hQ (Or.inl ⟨hw,hr⟩) ha h
theorem pu_{oi:Oper}{fuel:Nat}{l:Array Bool}{a a':Act}{w:World}(i N k m:Nat)(h:wpAnyLast P md ops Q S ds fuel (bz k m) a' w)(hi:ops[i]? = some oi:=by rfl)(hN:oi.dst=some N:=by rfl)(hc:anyB md ops l (bz k m) i=true:=by exact any_of HT_.out (by kernel_rfl))(hQ:∀ c a w,Q (.panic c) (a.put oi.dst undef) w→Q (.panic c) a w:=by exact fun _ _ _ h=>h)(hw:Region.wanted oi (yielded ops a.tmps)=false:=by rfl)(ha:a.put (some N) undef=a':=by simp only [Act.put,List.setIfInBounds_toArray,List.set_cons_zero,List.set_cons_succ,i64_w,i32_w];rfl):wpAnyLast P md ops Q S ds (fuel+1) l a w:=
  pure_ (bz k m) hi hN hc hQ (Or.inr ⟨hw,rfl⟩) ha h
theorem tz_{oi:Oper}{v:Value}{fuel:Nat}{l:Array Bool}{a a':Act}{w:World}(i N k m:Nat)(h:wpAnyLast P md ops Q S ds fuel (bz k m) a' w)(hi:ops[i]? = some oi:=by rfl)(hN:oi.dst=some N:=by rfl)(hc:takeB md ops ds l (bz k m) i=true:=by exact take_ofW HT_.out HW_.out (by kernel_rfl))(hQ:∀ c a w,Q (.panic c) (a.put oi.dst v) w→Q (.panic c) a w:=by exact fun _ _ _ h=>h)(hw:Region.wanted oi (yielded ops a.tmps)=true:=by rfl)(hr:∀ w':World,S w'→(execOp a.eval oi).run P w' = .ok (.value v) w':=by intro w' hS_;repeat (obtain ⟨_,hS_⟩:=hS_);(go_simp;with_reducible rfl))(hS:S w:=by exact hHeld)(ha:a.put (some N) v=a':=by simp only [Act.put,List.setIfInBounds_toArray,List.set_cons_zero,List.set_cons_succ,i64_w,i32_w];rfl):wpAnyLast P md ops Q S ds (fuel+1) l a w:=
  take_ (bz k m) hi hN hc hQ (Or.inl ⟨hw,hr⟩) hS ha h
end
theorem Qo{p:Prop}[Decidable p](h:decide p=true:=by first|(with_reducible assumption)|assumption):p:=of_decide_eq_true h
theorem Qa{p:Prop}[Decidable p](h:decide p=true):p:=of_decide_eq_true h
theorem Qb{p:Prop}[Decidable p](h:p):decide p=true:=decide_eq_true h
theorem Qc{p:Prop}[Decidable p](h:¬ p):decide p=false:=decide_eq_false h
theorem Qd{α:Type}{a b:α}(h:some a=some b):a=b:=Option.some.inj h
theorem Qe{α β:Type}{b:β}{x:Option α}{f:α→Option β}(h:x.bind f=some b):∃ a,x=some a∧f a=some b:=Option.bind_eq_some_iff.mp h
theorem Qf{α:Type}[BEq α][LawfulBEq α]{a b:α}(h:a=b):(a != b)=false:=bne_eq_false_iff_eq.mpr h
theorem Qg{α:Type}[BEq α][LawfulBEq α]{a b:α}(h:a≠b):(a == b)=false:=beq_eq_false_iff_ne.mpr h
theorem Qh{α:Type}[BEq α][LawfulBEq α]{a b:α}(h:a=b):(a == b)=true:=beq_iff_eq.mpr h
theorem Qi{α:Type}[BEq α][LawfulBEq α]{a b:α}(h:a≠b):(a != b)=true:=bne_iff_ne.mpr h
theorem Qj{b:Bool}(h:b≠true):b=false:=Bool.eq_false_iff.mpr h
abbrev Qk:=@World.block_lt_of_cell?
end Go.Proofs.YtpbembafpnknhaaGreat.Pr
namespace Go.Proofs.YtpbembafpnknhaaGreat.PrD
open Go.RowKit Go.Proofs.YtpbembafpnknhaaGreatW.PrintWords Go.Proofs.YtpbembafpnknhaaGreatW.PrintLast Go.Proofs.YtpbembafpnknhaaGreatW.PrintMore
open Go.Proofs.YtpbembafpnknhaaGreat.Pr
theorem zb{p:Prop}(h:p:=by repeat (first|(with_reducible first|exact HB.out|apply PrD.below_alloc|apply PrD.pw_below_drewN|apply PrD.below_drew1|refine PrD.below_set ?_ GE101.out|refine PrD.below_set ?_ GE102.out|refine PrD.below_set ?_ GE103.out|refine PrD.below_set ?_ GE104.out|refine PrD.below_set ?_ GE105.out|refine PrD.below_set ?_ GE106.out|refine PrD.below_set ?_ GE107.out|refine PrD.below_set ?_ GE108.out|refine PrD.below_set ?_ GE109.out|refine PrD.below_set ?_ GE110.out|refine PrD.below_set ?_ GE111.out|refine PrD.below_set ?_ GE112.out|refine PrD.below_set ?_ GE113.out|refine PrD.below_set ?_ GE114.out|refine PrD.below_set ?_ GE115.out|refine PrD.below_set ?_ GE116.out|refine PrD.below_set ?_ GE117.out|refine PrD.below_set ?_ GE118.out|refine PrD.below_set ?_ GE119.out|refine PrD.below_set ?_ GE120.out|refine PrD.below_set ?_ GE121.out|refine PrD.below_set ?_ GE122.out|refine PrD.below_set ?_ GE123.out|refine PrD.below_set ?_ GE124.out|refine PrD.below_set ?_ GE125.out|refine PrD.below_set ?_ GE126.out|refine PrD.below_set ?_ GE127.out|refine PrD.below_set ?_ GE128.out|refine PrD.below_set ?_ GE129.out|refine PrD.below_set ?_ GE130.out|refine PrD.below_set ?_ GE131.out|refine PrD.below_set ?_ GE132.out|refine PrD.below_set ?_ GE133.out|refine PrD.below_set ?_ GE134.out|refine PrD.below_set ?_ GE135.out|refine PrD.below_set ?_ GE136.out|refine PrD.below_set ?_ GE137.out|refine PrD.below_set ?_ GE138.out|refine PrD.below_set ?_ GE139.out|refine PrD.below_set ?_ GE140.out|refine PrD.below_set ?_ GE141.out|refine PrD.below_set ?_ GE142.out|refine PrD.below_set ?_ GE143.out|refine PrD.below_set ?_ GE144.out|refine PrD.below_set ?_ GE145.out|refine PrD.below_set ?_ GE146.out|refine PrD.below_set ?_ GE147.out|refine PrD.below_set ?_ GE148.out|refine PrD.below_set ?_ GE149.out|refine PrD.below_set ?_ GE150.out|refine PrD.below_set ?_ GE151.out|refine PrD.below_set ?_ GE152.out|refine PrD.below_set ?_ GE153.out|refine PrD.below_set ?_ GE154.out|refine PrD.below_set ?_ GE155.out|refine PrD.below_set ?_ GE156.out|refine PrD.below_set ?_ GE157.out|refine PrD.below_set ?_ GE158.out|refine PrD.below_set ?_ GE159.out|refine PrD.below_set ?_ GE160.out)|exact HB.out)):p:=h
theorem zg{p:Prop}(h:p:=by rw [hg];exact(PrD.below_size (PrD.zb))):p:=h
theorem zw{p r q:Prop}(x:p)(hb_:r)(h:p→r→q:=by intro hx_ hb_;exact PrD.blk_below (zl hx_) hb_):q:=h x hb_
theorem ba{w w1:World}{p:Addr}{v:Value}(hb:Aside0 (PrD.Below w.heap.size w w1))(h:w.cell? p=some v):w1.cell? p=some v:=(hb.out.cell (Qk w _ h)).trans h
theorem bh{w w1 w2:World}{p:Addr}{v:Value}(hb:Aside0 (PrD.Below w.heap.size w w1))(h:w.cell? p=some v)(e:w2.cell? p=w1.cell? p:=by rfl):w2.cell? p=some v:=e.trans ((hb.out.cell (Qk w _ h)).trans h)
section
variable{P : Program}{ops : Array Oper}{rest : List Oper}{o : Oper}{a : Act}{Q : Exit → Act → World → Prop}
theorem bx_{W:World}(N:Tmp)(cs:Array Value)(t:TypeId)(h:∀ g,g=W.heap.size→∀ w1,w1.heap[g]? = some (.cells cs t (0,0))→PrD.Below W.heap.size W w1→wpList P ops Q rest (a.put o.dst (.pointer (some ⟨g,0,none⟩))) w1)(hg_:o.guard=none:=by rfl)(hd_:o.dst=some N:=by rfl)(hr_:(execOp a.eval o).run P W = .ok (.value (.pointer (some ⟨W.heap.size,0,none⟩))) (W.alloc (.cells cs t (0,0))):=by first|(go_simp;done)|(go_simp;rfl)):wpList P ops Q (o::rest) a W:=PrD.box_event hg_ hd_ hr_ h
end
end Go.Proofs.YtpbembafpnknhaaGreat.PrD
namespace Go.Proofs.YtpbembafpnknhaaGreat.Pr
open Go.RowKit Go.Proofs.YtpbembafpnknhaaGreatW.PrintWords Go.Proofs.YtpbembafpnknhaaGreatW.PrintLast Go.Proofs.YtpbembafpnknhaaGreatW.PrintMore
attribute [local go_sem] max2_int min2_int max_two min_two max_three min_three max_four min_four
def cmp_isNaN_string.f(a0:ByteArray):Option (Bool):=some (a0.toList != a0.toList)
theorem cmp_isNaN_string.calls(a0:ByteArray)(r:Bool)(w:World)(h:cmp_isNaN_string.f a0=some r) :
  Calls Tryz.prog 159 #[.string a0] w fun e w'=>e = .returned (.bool r)∧Drawn0 w w':=by
 have H:(some (a0.toList != a0.toList))=some r:=h;clear h;obtain rfl:=Qd H;go_enter Tryz.func159,Tryz.ntmps159;go_wp2;go_ret;exact⟨ze,zd⟩
def cmp_Compare_string.f(a0:ByteArray)(a1:ByteArray):Option (Int):=(cmp_isNaN_string.f a0).bind fun t101=>((cmp_isNaN_string.f a1).bind fun t102=>(if t101=true then (if t102=true then (some 0) else (some (-1))) else (if t102=true then (some 1) else (if (Op.bytesLess a0.toList a1.toList)=true then (some (-1)) else (if (Op.bytesLess a1.toList a0.toList)=true then (some 1) else (some 0))))))
theorem cmp_Compare_string.calls(a0:ByteArray)(a1:ByteArray)(r:Int)(w:World)(h:cmp_Compare_string.f a0 a1=some r) :
  Calls Tryz.prog 116 #[.string a0,.string a1] w fun e w'=>e = .returned (.int .i64 r)∧Drawn0 w w':=by
 have H:((cmp_isNaN_string.f a0).bind fun t101=>((cmp_isNaN_string.f a1).bind fun t102=>(if t101=true then (if t102=true then (some 0) else (some (-1))) else (if t102=true then (some 1) else (if (Op.bytesLess a0.toList a1.toList)=true then (some (-1)) else (if (Op.bytesLess a1.toList a0.toList)=true then (some 1) else (some 0)))))))=some r:=h;clear h;replace H:=Qe H;obtain⟨t101,A30,H⟩:=H;replace H:((cmp_isNaN_string.f a1).bind fun t102=>(if t101=true then (if t102=true then (some 0) else (some (-1))) else (if t102=true then (some 1) else (if (Op.bytesLess a0.toList a1.toList)=true then (some (-1)) else (if (Op.bytesLess a1.toList a0.toList)=true then (some 1) else (some 0))))))=some r:=H;have A3:=am A30;clear A30;replace H:=Qe H;obtain⟨t102,A40,H⟩:=H;replace H:(if t101=true then (if t102=true then (some 0) else (some (-1))) else (if t102=true then (some 1) else (if (Op.bytesLess a0.toList a1.toList)=true then (some (-1)) else (if (Op.bytesLess a1.toList a0.toList)=true then (some 1) else (some 0)))))=some r:=H;have A4:=am A40;clear A40;by_cases c5:t101=true
 ·
  subst c5;have H1:(if t102=true then (some 0) else (some (-1)))=some r:=by rw [if_pos rfl] at H;exact H
  clear H;have H:=H1;clear H1;by_cases c6:t102=true
  ·
   subst c6;have H1:(some 0)=some r:=by rw [if_pos rfl] at H;exact H
   clear H;have H:=H1;clear H1;obtain rfl:=Qd H;go_enter Tryz.func116,Tryz.ntmps116;go_wp2_with (first|((with_reducible refine gc_ 159 ?_);refine goesL_ (some 8) rfl rfl Tryz.func159 (by kernel_rfl) rfl #[.string a0] rfl (za) ?_;(with_reducible refine (cmp_isNaN_string.calls a0 true _ A3.out).mono ?_);rintro e w' ⟨rfl,⟨nd,rfl⟩⟩;refine⟨_,rfl,?_⟩)|((with_reducible refine gc_ 159 ?_);refine goesL_ (some 10) rfl rfl Tryz.func159 (by kernel_rfl) rfl #[.string a1] rfl (za) ?_;(with_reducible refine (cmp_isNaN_string.calls a1 true _ A4.out).mono ?_);rintro e w' ⟨rfl,⟨nd,rfl⟩⟩;refine⟨_,rfl,?_⟩))
   go_ret;exact⟨ze,zd⟩
  replace c6:=Qj c6;subst c6;have H1:(some (-1))=some r:=by rw [if_neg (show ¬ (false=true) by decide)] at H;exact H
  clear H;have H:=H1;clear H1;obtain rfl:=Qd H;go_enter Tryz.func116,Tryz.ntmps116;go_wp2_with (first|((with_reducible refine gc_ 159 ?_);refine goesL_ (some 8) rfl rfl Tryz.func159 (by kernel_rfl) rfl #[.string a0] rfl (za) ?_;(with_reducible refine (cmp_isNaN_string.calls a0 true _ A3.out).mono ?_);rintro e w' ⟨rfl,⟨nd,rfl⟩⟩;refine⟨_,rfl,?_⟩)|((with_reducible refine gc_ 159 ?_);refine goesL_ (some 10) rfl rfl Tryz.func159 (by kernel_rfl) rfl #[.string a1] rfl (za) ?_;(with_reducible refine (cmp_isNaN_string.calls a1 false _ A4.out).mono ?_);rintro e w' ⟨rfl,⟨nd,rfl⟩⟩;refine⟨_,rfl,?_⟩))
  go_ret;exact⟨ze,zd⟩
 replace c5:=Qj c5;subst c5;have H1:(if t102=true then (some 1) else (if (Op.bytesLess a0.toList a1.toList)=true then (some (-1)) else (if (Op.bytesLess a1.toList a0.toList)=true then (some 1) else (some 0))))=some r:=by rw [if_neg (show ¬ (false=true) by decide)] at H;exact H
 clear H;have H:=H1;clear H1;by_cases c7:t102=true
 ·
  subst c7;have H1:(some 1)=some r:=by rw [if_pos rfl] at H;exact H
  clear H;have H:=H1;clear H1;obtain rfl:=Qd H;go_enter Tryz.func116,Tryz.ntmps116;go_wp2_with (first|((with_reducible refine gc_ 159 ?_);refine goesL_ (some 8) rfl rfl Tryz.func159 (by kernel_rfl) rfl #[.string a0] rfl (za) ?_;(with_reducible refine (cmp_isNaN_string.calls a0 false _ A3.out).mono ?_);rintro e w' ⟨rfl,⟨nd,rfl⟩⟩;refine⟨_,rfl,?_⟩)|((with_reducible refine gc_ 159 ?_);refine goesL_ (some 10) rfl rfl Tryz.func159 (by kernel_rfl) rfl #[.string a1] rfl (za) ?_;(with_reducible refine (cmp_isNaN_string.calls a1 true _ A4.out).mono ?_);rintro e w' ⟨rfl,⟨nd,rfl⟩⟩;refine⟨_,rfl,?_⟩))
  go_ret;exact⟨ze,zd⟩
 replace c7:=Qj c7;subst c7;have H1:(if (Op.bytesLess a0.toList a1.toList)=true then (some (-1)) else (if (Op.bytesLess a1.toList a0.toList)=true then (some 1) else (some 0)))=some r:=by rw [if_neg (show ¬ (false=true) by decide)] at H;exact H
 clear H;have H:=H1;clear H1;by_cases c8:(Op.bytesLess a0.toList a1.toList)=true
 ·
  rw [if_pos c8] at H;have c8b0:(Op.bytesLess a0.toList a1.toList)=true:=c8;clear c8;obtain rfl:=Qd H;go_enter Tryz.func116,Tryz.ntmps116;go_wp2_with (first|((with_reducible refine gc_ 159 ?_);refine goesL_ (some 8) rfl rfl Tryz.func159 (by kernel_rfl) rfl #[.string a0] rfl (za) ?_;(with_reducible refine (cmp_isNaN_string.calls a0 false _ A3.out).mono ?_);rintro e w' ⟨rfl,⟨nd,rfl⟩⟩;refine⟨_,rfl,?_⟩)|((with_reducible refine gc_ 159 ?_);refine goesL_ (some 10) rfl rfl Tryz.func159 (by kernel_rfl) rfl #[.string a1] rfl (za) ?_;(with_reducible refine (cmp_isNaN_string.calls a1 false _ A4.out).mono ?_);rintro e w' ⟨rfl,⟨nd,rfl⟩⟩;refine⟨_,rfl,?_⟩))
  go_ret;exact⟨ze,zd⟩
 rw [if_neg c8] at H;have c8b0:(Op.bytesLess a0.toList a1.toList)=false:=by simpa using c8
 clear c8;by_cases c9:(Op.bytesLess a1.toList a0.toList)=true
 ·
  rw [if_pos c9] at H;have c9b0:(Op.bytesLess a1.toList a0.toList)=true:=c9;clear c9;obtain rfl:=Qd H;go_enter Tryz.func116,Tryz.ntmps116;go_wp2_with (first|((with_reducible refine gc_ 159 ?_);refine goesL_ (some 8) rfl rfl Tryz.func159 (by kernel_rfl) rfl #[.string a0] rfl (za) ?_;(with_reducible refine (cmp_isNaN_string.calls a0 false _ A3.out).mono ?_);rintro e w' ⟨rfl,⟨nd,rfl⟩⟩;refine⟨_,rfl,?_⟩)|((with_reducible refine gc_ 159 ?_);refine goesL_ (some 10) rfl rfl Tryz.func159 (by kernel_rfl) rfl #[.string a1] rfl (za) ?_;(with_reducible refine (cmp_isNaN_string.calls a1 false _ A4.out).mono ?_);rintro e w' ⟨rfl,⟨nd,rfl⟩⟩;refine⟨_,rfl,?_⟩))
  go_ret;exact⟨ze,zd⟩
 rw [if_neg c9] at H;have c9b0:(Op.bytesLess a1.toList a0.toList)=false:=by simpa using c9
 clear c9;obtain rfl:=Qd H;go_enter Tryz.func116,Tryz.ntmps116;go_wp2_with (first|((with_reducible refine gc_ 159 ?_);refine goesL_ (some 8) rfl rfl Tryz.func159 (by kernel_rfl) rfl #[.string a0] rfl (za) ?_;(with_reducible refine (cmp_isNaN_string.calls a0 false _ A3.out).mono ?_);rintro e w' ⟨rfl,⟨nd,rfl⟩⟩;refine⟨_,rfl,?_⟩)|((with_reducible refine gc_ 159 ?_);refine goesL_ (some 10) rfl rfl Tryz.func159 (by kernel_rfl) rfl #[.string a1] rfl (za) ?_;(with_reducible refine (cmp_isNaN_string.calls a1 false _ A4.out).mono ?_);rintro e w' ⟨rfl,⟨nd,rfl⟩⟩;refine⟨_,rfl,?_⟩))
 go_ret;exact⟨ze,zd⟩
def cmp_isNaN_int.f(a0:Int):Option (Bool):=some (a0 != a0)
theorem cmp_isNaN_int.calls(a0:Int)(r:Bool)(w:World)(h:cmp_isNaN_int.f a0=some r) :
  Calls Tryz.prog 160 #[.int .i64 a0] w fun e w'=>e = .returned (.bool r)∧Drawn0 w w':=by
 have H:(some (a0 != a0))=some r:=h;clear h;obtain rfl:=Qd H;go_enter Tryz.func160,Tryz.ntmps160;go_wp2;go_ret;exact⟨ze,zd⟩
def cmp_Compare_int.f(a0:Int)(a1:Int):Option (Int):=(cmp_isNaN_int.f a0).bind fun t101=>((cmp_isNaN_int.f a1).bind fun t102=>(if t101=true then (if t102=true then (some 0) else (some (-1))) else (if t102=true then (some 1) else (if a0<a1 then (some (-1)) else (if a0>a1 then (some 1) else (some 0))))))
theorem cmp_Compare_int.calls(a0:Int)(a1:Int)(r:Int)(w:World)(h:cmp_Compare_int.f a0 a1=some r) :
  Calls Tryz.prog 117 #[.int .i64 a0,.int .i64 a1] w fun e w'=>e = .returned (.int .i64 r)∧Drawn0 w w':=by
 have H:((cmp_isNaN_int.f a0).bind fun t101=>((cmp_isNaN_int.f a1).bind fun t102=>(if t101=true then (if t102=true then (some 0) else (some (-1))) else (if t102=true then (some 1) else (if a0<a1 then (some (-1)) else (if a0>a1 then (some 1) else (some 0)))))))=some r:=h;clear h;replace H:=Qe H;obtain⟨t101,A30,H⟩:=H;replace H:((cmp_isNaN_int.f a1).bind fun t102=>(if t101=true then (if t102=true then (some 0) else (some (-1))) else (if t102=true then (some 1) else (if a0<a1 then (some (-1)) else (if a0>a1 then (some 1) else (some 0))))))=some r:=H;have A3:=am A30;clear A30;replace H:=Qe H;obtain⟨t102,A40,H⟩:=H;replace H:(if t101=true then (if t102=true then (some 0) else (some (-1))) else (if t102=true then (some 1) else (if a0<a1 then (some (-1)) else (if a0>a1 then (some 1) else (some 0)))))=some r:=H;have A4:=am A40;clear A40;by_cases c5:t101=true
 ·
  subst c5;have H1:(if t102=true then (some 0) else (some (-1)))=some r:=by rw [if_pos rfl] at H;exact H
  clear H;have H:=H1;clear H1;by_cases c6:t102=true
  ·
   subst c6;have H1:(some 0)=some r:=by rw [if_pos rfl] at H;exact H
   clear H;have H:=H1;clear H1;obtain rfl:=Qd H;go_enter Tryz.func117,Tryz.ntmps117;go_wp2_with (first|((with_reducible refine gc_ 160 ?_);refine goesL_ (some 8) rfl rfl Tryz.func160 (by kernel_rfl) rfl #[.int .i64 a0] rfl (za) ?_;(with_reducible refine (cmp_isNaN_int.calls a0 true _ A3.out).mono ?_);rintro e w' ⟨rfl,⟨nd,rfl⟩⟩;refine⟨_,rfl,?_⟩)|((with_reducible refine gc_ 160 ?_);refine goesL_ (some 10) rfl rfl Tryz.func160 (by kernel_rfl) rfl #[.int .i64 a1] rfl (za) ?_;(with_reducible refine (cmp_isNaN_int.calls a1 true _ A4.out).mono ?_);rintro e w' ⟨rfl,⟨nd,rfl⟩⟩;refine⟨_,rfl,?_⟩))
   go_ret;exact⟨ze,zd⟩
  replace c6:=Qj c6;subst c6;have H1:(some (-1))=some r:=by rw [if_neg (show ¬ (false=true) by decide)] at H;exact H
  clear H;have H:=H1;clear H1;obtain rfl:=Qd H;go_enter Tryz.func117,Tryz.ntmps117;go_wp2_with (first|((with_reducible refine gc_ 160 ?_);refine goesL_ (some 8) rfl rfl Tryz.func160 (by kernel_rfl) rfl #[.int .i64 a0] rfl (za) ?_;(with_reducible refine (cmp_isNaN_int.calls a0 true _ A3.out).mono ?_);rintro e w' ⟨rfl,⟨nd,rfl⟩⟩;refine⟨_,rfl,?_⟩)|((with_reducible refine gc_ 160 ?_);refine goesL_ (some 10) rfl rfl Tryz.func160 (by kernel_rfl) rfl #[.int .i64 a1] rfl (za) ?_;(with_reducible refine (cmp_isNaN_int.calls a1 false _ A4.out).mono ?_);rintro e w' ⟨rfl,⟨nd,rfl⟩⟩;refine⟨_,rfl,?_⟩))
  go_ret;exact⟨ze,zd⟩
 replace c5:=Qj c5;subst c5;have H1:(if t102=true then (some 1) else (if a0<a1 then (some (-1)) else (if a0>a1 then (some 1) else (some 0))))=some r:=by rw [if_neg (show ¬ (false=true) by decide)] at H;exact H
 clear H;have H:=H1;clear H1;by_cases c7:t102=true
 ·
  subst c7;have H1:(some 1)=some r:=by rw [if_pos rfl] at H;exact H
  clear H;have H:=H1;clear H1;obtain rfl:=Qd H;go_enter Tryz.func117,Tryz.ntmps117;go_wp2_with (first|((with_reducible refine gc_ 160 ?_);refine goesL_ (some 8) rfl rfl Tryz.func160 (by kernel_rfl) rfl #[.int .i64 a0] rfl (za) ?_;(with_reducible refine (cmp_isNaN_int.calls a0 false _ A3.out).mono ?_);rintro e w' ⟨rfl,⟨nd,rfl⟩⟩;refine⟨_,rfl,?_⟩)|((with_reducible refine gc_ 160 ?_);refine goesL_ (some 10) rfl rfl Tryz.func160 (by kernel_rfl) rfl #[.int .i64 a1] rfl (za) ?_;(with_reducible refine (cmp_isNaN_int.calls a1 true _ A4.out).mono ?_);rintro e w' ⟨rfl,⟨nd,rfl⟩⟩;refine⟨_,rfl,?_⟩))
  go_ret;exact⟨ze,zd⟩
 replace c7:=Qj c7;subst c7;have H1:(if a0<a1 then (some (-1)) else (if a0>a1 then (some 1) else (some 0)))=some r:=by rw [if_neg (show ¬ (false=true) by decide)] at H;exact H
 clear H;have H:=H1;clear H1;by_cases c8:a0<a1
 ·
  rw [if_pos c8] at H;have c8b0:decide (a0<a1)=true:=Qb c8;clear c8;obtain rfl:=Qd H;go_enter Tryz.func117,Tryz.ntmps117;go_wp2_with (first|((with_reducible refine gc_ 160 ?_);refine goesL_ (some 8) rfl rfl Tryz.func160 (by kernel_rfl) rfl #[.int .i64 a0] rfl (za) ?_;(with_reducible refine (cmp_isNaN_int.calls a0 false _ A3.out).mono ?_);rintro e w' ⟨rfl,⟨nd,rfl⟩⟩;refine⟨_,rfl,?_⟩)|((with_reducible refine gc_ 160 ?_);refine goesL_ (some 10) rfl rfl Tryz.func160 (by kernel_rfl) rfl #[.int .i64 a1] rfl (za) ?_;(with_reducible refine (cmp_isNaN_int.calls a1 false _ A4.out).mono ?_);rintro e w' ⟨rfl,⟨nd,rfl⟩⟩;refine⟨_,rfl,?_⟩))
  go_ret;exact⟨ze,zd⟩
 rw [if_neg c8] at H;have c8b0:decide (a0<a1)=false:=Qc c8;clear c8;by_cases c9:a0>a1
 ·
  rw [if_pos c9] at H;have c9b0:decide (a1<a0)=true:=Qb c9;clear c9;obtain rfl:=Qd H;go_enter Tryz.func117,Tryz.ntmps117;go_wp2_with (first|((with_reducible refine gc_ 160 ?_);refine goesL_ (some 8) rfl rfl Tryz.func160 (by kernel_rfl) rfl #[.int .i64 a0] rfl (za) ?_;(with_reducible refine (cmp_isNaN_int.calls a0 false _ A3.out).mono ?_);rintro e w' ⟨rfl,⟨nd,rfl⟩⟩;refine⟨_,rfl,?_⟩)|((with_reducible refine gc_ 160 ?_);refine goesL_ (some 10) rfl rfl Tryz.func160 (by kernel_rfl) rfl #[.int .i64 a1] rfl (za) ?_;(with_reducible refine (cmp_isNaN_int.calls a1 false _ A4.out).mono ?_);rintro e w' ⟨rfl,⟨nd,rfl⟩⟩;refine⟨_,rfl,?_⟩))
  go_ret;exact⟨ze,zd⟩
 rw [if_neg c9] at H;have c9b0:decide (a1<a0)=false:=Qc c9;clear c9;obtain rfl:=Qd H;go_enter Tryz.func117,Tryz.ntmps117;go_wp2_with (first|((with_reducible refine gc_ 160 ?_);refine goesL_ (some 8) rfl rfl Tryz.func160 (by kernel_rfl) rfl #[.int .i64 a0] rfl (za) ?_;(with_reducible refine (cmp_isNaN_int.calls a0 false _ A3.out).mono ?_);rintro e w' ⟨rfl,⟨nd,rfl⟩⟩;refine⟨_,rfl,?_⟩)|((with_reducible refine gc_ 160 ?_);refine goesL_ (some 10) rfl rfl Tryz.func160 (by kernel_rfl) rfl #[.int .i64 a1] rfl (za) ?_;(with_reducible refine (cmp_isNaN_int.calls a1 false _ A4.out).mono ?_);rintro e w' ⟨rfl,⟨nd,rfl⟩⟩;refine⟨_,rfl,?_⟩))
 go_ret;exact⟨ze,zd⟩
def cmp_Or_int.l0:Nat→Int→List Int→Int→Int→Option (Int)
  | 0, _, _, _, _ => none
  | k+1,x3,x6,x7,x8=>if x8<x7 then (if 0≤x8 then (if x8<(x6.length:Int) then (if (rd x6 x8)=x3 then (cmp_Or_int.l0 k x3 x6 x7 (wrap64 (x8+1))) else (some (rd x6 x8))) else (none)) else (none)) else (some x3)
def cmp_Or_int.f(k:Nat)(l0:List Int):Option (Int):=cmp_Or_int.l0 k 0 l0 (l0.length:Int) 0
theorem cmp_Or_int.calls(k:Nat)(A0:Option Addr)(c0:Nat)(l0:List Int)(r:Int)(w:World)(hr0:Kd.C (Kd.int .i64) w A0 l0.length l0)(hc0:l0.length≤c0)(h:cmp_Or_int.f k l0=some r) :
  Calls Tryz.prog 64 #[.slice A0 l0.length c0] w fun e w'=>e = .returned (.int .i64 r)∧Drawn0 w w':=by
 have HR0:=am hr0;have HC0:=am hc0;clear hr0 hc0;have H:(cmp_Or_int.l0 k 0 l0 (l0.length:Int) 0)=some r:=h;clear h;have H':=am H;clear H;go_enter Tryz.func64,Tryz.ntmps64;go_wp2;go_loopg [8] k (fun kq v8 w' => ∃ (x8_1:Int),v8 = .int .i64 x8_1∧Aside0 (cmp_Or_int.l0 kq 0 l0 (l0.length:Int) x8_1=some r)∧Aside0 (kq≤k)∧Drawn0 w w')
 case atStart=>exact ⟨(0),(ze),H',⟨Nat.le_refl _⟩,zd⟩
 case round =>
  clear H';obtain⟨x8_1,rfl,HA,HK1,⟨m1,rfl⟩⟩:=hrel
  cases gk with
  | zero => exact absurd HA.out (by simp [cmp_Or_int.l0])
  | succ k1 =>
   have H:=HA.out;clear HA;simp only [cmp_Or_int.l0] at H;by_cases c2:x8_1<(l0.length:Int)
   ·
    rw [if_pos c2] at H;have c2b0:decide (x8_1<(l0.length:Int))=true:=Qb c2;clear c2;by_cases c3:0≤x8_1
    ·
     rw [if_pos c3] at H;have c3b0:decide (0≤x8_1)=true:=Qb c3;clear c3;by_cases c4:x8_1<(l0.length:Int)
     ·
      rw [if_pos c4] at H;have c4b0:decide (x8_1<(l0.length:Int))=true:=Qb c4;clear c4;by_cases c5:(rd l0 x8_1)=0
      ·
       rw [if_pos c5] at H;have c5b0:((rd l0 x8_1) == 0)=true:=Qh c5;have c5b1:((rd l0 x8_1) != 0)=false:=Qf c5;clear c5;have H':=am H;clear H;have p101:0≤(x8_1:Int):=Qo;have q101:x8_1<(l0.length:Int):=Qo;obtain⟨ad101,e101,hx101_0⟩:=Kd.at_int HR0.out x8_1 p101 q101;cases e101;replace p101:=eq_true p101;replace q101:=eq_true q101;go_wp2;go_roundg k1
       case measure=>have:=HK1.out;omega
       case rel=>exact ⟨(wrap64 (x8_1+1)),(ze),H',⟨by have:=HK1.out;omega⟩,zd⟩
      rw [if_neg c5] at H;have c5b0:((rd l0 x8_1) == 0)=false:=Qg c5;have c5b1:((rd l0 x8_1) != 0)=true:=Qi c5;obtain rfl:=Qd H;have p101:0≤(x8_1:Int):=Qo;have q101:x8_1<(l0.length:Int):=Qo;obtain⟨ad101,e101,hx101_0⟩:=Kd.at_int HR0.out x8_1 p101 q101;cases e101;replace p101:=eq_true p101;replace q101:=eq_true q101;go_wp2;go_ret;exact⟨ze,zd⟩
     rw [if_neg c4] at H;exact absurd H (by simp)
    rw [if_neg c3] at H;exact absurd H (by simp)
   rw [if_neg c2] at H;have c2b0:decide (x8_1<(l0.length:Int))=false:=Qc c2;clear c2;obtain rfl:=Qd H;go_wp2;go_ret;exact⟨ze,zd⟩
end Go.Proofs.YtpbembafpnknhaaGreat.Pr
namespace Go.Proofs.YtpbembafpnknhaaGreat.PrD
open Go.Proofs.YtpbembafpnknhaaGreat.Pr
open Go.RowKit Go.Proofs.YtpbembafpnknhaaGreatW.PrintWords Go.Proofs.YtpbembafpnknhaaGreatW.PrintLast Go.Proofs.YtpbembafpnknhaaGreatW.PrintMore
attribute [local go_sem] max2_int min2_int max_two min_two max_three min_three max_four min_four
def norm_cmpOn.f(k:Nat)(a0_0:ByteArray)(a0_1:Int)(a1_0:ByteArray)(a1_1:Int):Option (Int):=(cmp_Compare_string.f a0_0 a1_0).bind fun t103=>((cmp_Compare_int.f a0_1 a1_1).bind fun t104=>((cmp_Or_int.f k (([t103,t104]:List Int))).bind fun t108=>(some t108)))
def norm_cmpOn.T1:Bool × List (List Nat × List Nat):=(true,[([],[]),([0],[0]),([],[]),([2],[2]),([1,3],[1,3]),([],[]),([5],[5]),([],[]),([7],[7]),([6,8,4],[6,8]),([4,9],[4,9]),([10,9],[10]),([11,11,0,1,2,3,4,5,6,7,8,9,10,11],[11])])
def norm_cmpOn.B1:List Nat:=[0,1,0,4,15,0,32,0,128,511,1023,2047,4095]
theorem norm_cmpOn.tab1:rtab .any (opsOf Tryz.f66 1)=norm_cmpOn.T1:=by kernel_rfl
theorem norm_cmpOn.bits1:waitsOk norm_cmpOn.T1.2 norm_cmpOn.B1=true:=by kernel_rfl
theorem norm_cmpOn.calls(k:Nat)(a0_0:ByteArray)(a0_1:Int)(a1_0:ByteArray)(a1_1:Int)(r:Int)(w:World)(h:norm_cmpOn.f k a0_0 a0_1 a1_0 a1_1=some r) :
  Calls Tryz.prog 66 #[.agg #[.string a0_0,.int .i64 a0_1],.agg #[.string a1_0,.int .i64 a1_1]] w fun e w'=>e = .returned (.int .i64 r)∧Below w.heap.size w w':=by
 have hu78:=Tryz.underlying78;have HB:=am (Below.refl w.heap.size w);have H:((cmp_Compare_string.f a0_0 a1_0).bind fun t103=>((cmp_Compare_int.f a0_1 a1_1).bind fun t104=>((cmp_Or_int.f k (([t103,t104]:List Int))).bind fun t108=>(some t108))))=some r:=h;clear h;replace H:=Qe H;obtain⟨t103,A30,H⟩:=H;replace H:((cmp_Compare_int.f a0_1 a1_1).bind fun t104=>((cmp_Or_int.f k (([t103,t104]:List Int))).bind fun t108=>(some t108)))=some r:=H;have A3:=am A30;clear A30;replace H:=Qe H;obtain⟨t104,A40,H⟩:=H;replace H:((cmp_Or_int.f k (([t103,t104]:List Int))).bind fun t108=>(some t108))=some r:=H;have A4:=am A40;clear A40;obtain⟨y105,hy105⟩:∃ y_:List Int,y_=(([t103,t104]:List Int)):=⟨_,rfl⟩;replace H:((cmp_Or_int.f k y105).bind fun t108=>(some t108))=some r:=by first|(rw [hy105];with_reducible exact H)|(have H2_:=(Option.bind_some _ _).symm.trans H;rw [hy105];with_reducible exact H2_)|(have H2_:=(Option.bind_some _ _).symm.trans H;with_reducible exact H2_)|with_reducible exact H|(rw [hy105];exact H)|exact H
 have Ny105:=am hy105;clear hy105;replace H:=Qe H;obtain⟨t108,A50,H⟩:=H;replace H:(some t108)=some r:=H;have A5:=am A50;clear A50;obtain rfl:=Qd H;go_enter Tryz.func66,Tryz.ntmps66;try go_wp2_with (first|((with_reducible refine gd_ 2 ?_);refine bx_ 2 #[.string a0_0,.int .i64 a0_1] 78 ?_;intro gb101 hg w6 hbox hb;have BK101:=am (hbox);have GW101:=am (zg:w.heap.size≤gb101);have GE101:=am (zg:w.heap.size≤gb101);replace HB:=am (below_step (zb) hb);clear hb hbox hg)|((with_reducible refine gd_ 3 ?_);refine bx_ 3 #[.string a1_0,.int .i64 a1_1] 78 ?_;intro gb102 hg w7 hbox hb;have BK102:=am (hbox);have GW102:=am (zg:w.heap.size≤gb102);have GE102:=am (zg:w.heap.size≤gb102);replace HB:=am (below_step (zb) hb);have NB101_102:=am ((zn BK101.out:gb101≠gb102));have NB102_101:=am ((zm BK101.out:gb102≠gb101));replace BK101:=am (zw BK101.out hb);clear hb hbox hg))
 replace BK101:=am (blk_drew BK101.out);replace BK102:=am (blk_drew BK102.out);replace HB:=am (below_drew1 HB.out);refine start_ (n:=13) (S:=fun w'=>w'.cell? ⟨gb101,0,none⟩=some (.string a0_0)∧w'.cell? ⟨gb101,1,none⟩=some (.int .i64 a0_1)∧w'.cell? ⟨gb102,0,none⟩=some (.string a1_0)∧w'.cell? ⟨gb102,1,none⟩=some (.int .i64 a1_1)) (ds:=[]) #[false,false,false,false,false,false,false,false,false,false,false,false,false] (by kernel_rfl) rfl rfl ⟨bc BK101 0,bc BK101 1,bc BK102 0,bc BK102 1⟩ (fun hHeld=>?_);refine with_tabW norm_cmpOn.tab1 norm_cmpOn.bits1 (fun HT_ HW_=>?_);generalize w7.drew=w8 at BK101 BK102 HB hHeld ⊢;refine pz_ 0 5 13 1 ?_;refine pz_ 2 7 13 5 ?_;refine pz_ 5 10 13 37 ?_;refine pz_ 7 12 13 165 ?_;refine tz_ 1 6 13 167 ?_;refine tz_ 3 8 13 175 ?_;refine tz_ 6 11 13 239 ?_;refine tz_ 8 13 13 495 ?_;refine oz_ 4 9 13 511 (fun K hK=>?_);refine goes_ Tryz.func116 (by kernel_rfl) rfl #[.string a0_0,.string a1_0] (by rfl) rfl rfl (za) ?_;with_reducible refine (cmp_Compare_string.calls a0_0 a1_0 t103 _ A3.out).mono ?_
 rintro e w' ⟨rfl,⟨nd,rfl⟩⟩;refine⟨_,rfl,?_⟩;refine hK.out _ _ ⟨bc BK101 0,bc BK101 1,bc BK102 0,bc BK102 1⟩ (fun hHeld=>?_);clear hK K;refine nz_ 9 ?_;refine oz_ 9 14 13 1023 (fun K hK=>?_);refine goes_ Tryz.func117 (by kernel_rfl) rfl #[.int .i64 a0_1,.int .i64 a1_1] (by rfl) rfl rfl (za) ?_;with_reducible refine (cmp_Compare_int.calls a0_1 a1_1 t104 _ A4.out).mono ?_
 rintro e w' ⟨rfl,⟨nd,rfl⟩⟩;refine⟨_,rfl,?_⟩;refine hK.out _ _ ⟨bc BK101 0,bc BK101 1,bc BK102 0,bc BK102 1⟩ (fun hHeld=>?_);clear hK K;refine nz_ 14 ?_;refine oz_ 10 15 13 2047 (fun K hK=>?_);refine Kd.R_lit_step (Kd.int .i64) _ 3 ?hg (N:=15) ?hd (xs:=([t103,t104]:List Int)) (inner:=[.int .i64 t103,.int .i64 t104]) (ok:=fun _=>True) (okp:=fun _=>True) ?hr ?hp (fun _ hk=>hk) trivial (Below.refl _ _) (Nat.le_refl _) (by simp) ?_;(case hd=>rfl);(case hg=>rfl);(case hr=>first|(go_simp;done)|(go_simp;rfl));(case hp=>exact (Reps.one (show Kd.M (Kd.int .i64) _ _ _ t103 [.int .i64 t103] from rfl) (Reps.one (show Kd.M (Kd.int .i64) _ _ _ t104 [.int .i64 t104] from rfl) (Reps.none _ _))));intro v106 w9 ho10 hb hg_ hnew_;clear hg_ hnew_
 (first|rw [← Ny105.out] at ho10|(simp only [Int.reduceToNat] at ho10;rw [← Ny105.out] at ho10))
 have HO107:=am (Kd.R_lower ho10 (below_size (zb)));replace BK101:=am (zw BK101.out hb);replace BK102:=am (zw BK102.out hb);replace HB:=am (below_step (zb) hb);clear hb ho10;obtain⟨Ao11,co11,eo11⟩:=Kd.R_slice HO107.out
 (first|subst eo11|(injection eo11 with f1_ f2_ f3_;have f4_:=f1_.symm;have f5_:=f3_.symm;clear f1_ f2_ f3_;subst f4_;subst f5_))
 refine hK.out _ _ ⟨bc BK101 0,bc BK101 1,bc BK102 0,bc BK102 1⟩ (fun hHeld=>?_);clear hK K;refine nz_ 15 ?_;refine oz_ 11 16 13 4095 (fun K hK=>?_);refine goes_ Tryz.func64 (by kernel_rfl) rfl #[.slice Ao11 y105.length co11] (by rfl) rfl rfl (za) ?_;with_reducible refine (cmp_Or_int.calls k _ _ y105 t108 _ ?side1 ?side2 A5.out).mono ?_
 (case side1=>exact zc (Kd.R_reads' HO107.out).2.2)
 (case side2=>exact (Kd.R_reads' HO107.out).2.1)
 rintro e w' ⟨rfl,⟨nd,rfl⟩⟩;refine⟨_,rfl,?_⟩;refine hK.out _ _ ⟨bc BK101 0,bc BK101 1,bc BK102 0,bc BK102 1⟩ (fun hHeld=>?_);clear hK K;refine nz_ 16 ?_;refine pz_ 12 4 13 8191 ?_;refine done_ (done_of HT_.out (by kernel_rfl)) ?_;try go_wp2
 go_ret;exact⟨zf,zb⟩
def slices_CompareFunc_cmpOn.l0:Nat→List (S78)→List (S78)→List (S78)→Int→Int→Option (Int)
  | 0, _, _, _, _, _ => none
  | k+1,x0,x1,x11,x12,x13=>if x13<x12 then (if 0≤x13 then (if x13<(x11.length:Int) then (if x13≥(x1.length:Int) then (some 1) else (if x13<(x1.length:Int) then ((norm_cmpOn.f k ((rd_T78 x11 x13).f0) ((rd_T78 x11 x13).f1) ((rd_T78 x1 x13).f0) ((rd_T78 x1 x13).f1)).bind fun t105=>(if t105=0 then (slices_CompareFunc_cmpOn.l0 k x0 x1 x11 x12 (wrap64 (x13+1))) else (some t105))) else (none))) else (none)) else (none)) else (if (x0.length:Int)<(x1.length:Int) then (some (-1)) else (some 0))
def slices_CompareFunc_cmpOn.f(k:Nat)(l0:List (S78))(l1:List (S78))  : Option (Int):=slices_CompareFunc_cmpOn.l0 k l0 l1 l0 (l0.length:Int) 0
theorem slices_CompareFunc_cmpOn.calls(k : Nat)(A0 : Option Addr)(c0 : Nat)(l0 : List (S78))(A1 : Option Addr)(c1 : Nat)(l1 : List (S78))(r : Int)(w : World)(hr0 : Kd.C k78 w A0 l0.length l0)(hc0 : l0.length ≤ c0)(hr1 : Kd.C k78 w A1 l1.length l1)(hc1 : l1.length ≤ c1)(h : slices_CompareFunc_cmpOn.f k l0 l1 = some r) :
  Calls Tryz.prog 65 #[.slice A0 l0.length c0,.slice A1 l1.length c1,(.func (.func 66) #[] #[])] w fun e w'=>e = .returned (.int .i64 r)∧Below w.heap.size w w':=by
 have hu78:=Tryz.underlying78;have HR0:=am hr0;have HC0:=am hc0;clear hr0 hc0;have HR1:=am hr1;have HC1:=am hc1;clear hr1 hc1;have HB:=am (Below.refl w.heap.size w);have H:(slices_CompareFunc_cmpOn.l0 k l0 l1 l0 (l0.length:Int) 0)=some r:=h;clear h;have H':=am H;clear H;go_enter Tryz.func65,Tryz.ntmps65;go_wp2;go_loopg [13] k (fun kq v13 w' => ∃ (x13_1:Int),v13 = .int .i64 x13_1∧Aside0 (slices_CompareFunc_cmpOn.l0 kq l0 l1 l0 (l0.length:Int) x13_1=some r)∧Aside0 (kq≤k)∧Aside0 (Below w.heap.size w w'))
 case atStart=>exact ⟨(0),(ze),H',⟨Nat.le_refl _⟩,⟨zb⟩⟩
 case round =>
  clear H';obtain⟨x13_1,rfl,HA,HK1,HB⟩:=hrel
  cases gk with
  | zero => exact absurd HA.out (by simp [slices_CompareFunc_cmpOn.l0])
  | succ k1 =>
   have H:=HA.out;clear HA;simp only [slices_CompareFunc_cmpOn.l0] at H;by_cases c4:x13_1<(l0.length:Int)
   ·
    rw [if_pos c4] at H;have c4b0:=Qb c4;clear c4;by_cases c5:0≤x13_1
    ·
     rw [if_pos c5] at H;have c5b0:=Qb c5;clear c5;by_cases c6:x13_1<(l0.length:Int)
     ·
      rw [if_pos c6] at H;have c6b0:=Qb c6;clear c6;by_cases c7:x13_1≥(l1.length:Int)
      ·
       rw [if_pos c7] at H;have c7b0:decide ((l1.length:Int)≤x13_1)=true:=Qb c7;clear c7;obtain rfl:=Qd H;have p101:0≤(x13_1:Int):=Qo;have q101:x13_1<(l0.length:Int):=Qo;obtain⟨ad101,e101,hx101_0,hx101_1⟩:=at_T78 HR0.out x13_1 p101 q101;cases e101;replace hx101_0:=ba HB hx101_0;replace hx101_1:=ba HB hx101_1;replace p101:=eq_true p101;replace q101:=eq_true q101;go_wp2_with (first|((with_reducible refine gd_ 8 ?_);refine bx_ 8 #[.string (⟨#[]⟩:ByteArray),.int .i64 0] 78 ?_;intro gb102 hg w8 hbox hb;have BK102:=am (hbox);have GW102:=am (zg:w.heap.size≤gb102);have GE102:=am (zg:w.heap.size≤gb102);replace HB:=am (below_step (zb) hb);clear hb hbox hg;obtain⟨hcz9_0,hcz9_1,hfz9_0,hfz9_1⟩:=cf2 BK102.out))
       go_ret;exact⟨zf,zb⟩
      rw [if_neg c7] at H;have c7b0:decide ((l1.length:Int)≤x13_1)=false:=Qc c7;clear c7;by_cases c10:x13_1<(l1.length:Int)
      ·
       rw [if_pos c10] at H;have c10b0:=Qb c10;clear c10;replace H:=Qe H;obtain⟨t105,A110,H⟩:=H;have A11:=am A110;clear A110;by_cases c12:t105=0
       ·
        rw [if_pos c12] at H;have c12b0:=Qh c12;have c12b1:=Qf c12;clear c12;have H':=am H;clear H;have p101:0≤(x13_1:Int):=Qo;have q101:x13_1<(l0.length:Int):=Qo;obtain⟨ad101,e101,hx101_0,hx101_1⟩:=at_T78 HR0.out x13_1 p101 q101;cases e101;replace hx101_0:=ba HB hx101_0;replace hx101_1:=ba HB hx101_1;replace p101:=eq_true p101;replace q101:=eq_true q101;go_wp2_with (first|((with_reducible refine gd_ 8 ?_);refine bx_ 8 #[.string (⟨#[]⟩:ByteArray),.int .i64 0] 78 ?_;intro gb102 hg w13 hbox hb;have BK102:=am (hbox);have GW102:=am (zg:w.heap.size≤gb102);have GE102:=am (zg:w.heap.size≤gb102);replace HB:=am (below_step (zb) hb);clear hb hbox hg;obtain⟨hcz14_0,hcz14_1,hfz14_0,hfz14_1⟩:=cf2 BK102.out;have p103:0≤(x13_1:Int):=Qo;have q103:x13_1<(l1.length:Int):=Qo;obtain⟨ad103,e103,hx103_0,hx103_1⟩:=at_T78 HR1.out x13_1 p103 q103;cases e103;have hn103_0:ad103.block≠gb102:=Nat.ne_of_lt (Nat.lt_of_lt_of_le (zy hx103_0) GW102.out);have hn103_1:ad103.block≠gb102:=Nat.ne_of_lt (Nat.lt_of_lt_of_le (zy hx103_0) GW102.out);replace hx103_0:=ba HB hx103_0;replace hx103_1:=ba HB hx103_1;replace hx103_0:=(cell_far (p:=⟨gb102,0,none⟩) (zx hn103_0) (.string ((rd_T78 l0 x13_1).f0))).trans hx103_0;replace hx103_1:=(cell_far (p:=⟨gb102,0,none⟩) (zx hn103_0) (.string ((rd_T78 l0 x13_1).f0))).trans hx103_1;replace hx103_0:=(cell_far (p:=⟨gb102,1,none⟩) (zx hn103_1) (.int .i64 ((rd_T78 l0 x13_1).f1))).trans hx103_0;replace hx103_1:=(cell_far (p:=⟨gb102,1,none⟩) (zx hn103_1) (.int .i64 ((rd_T78 l0 x13_1).f1))).trans hx103_1;clear hn103_0;clear hn103_1;replace p103:=eq_true p103;replace q103:=eq_true q103)|((with_reducible refine gd_ 9 ?_);refine bx_ 9 #[.string (⟨#[]⟩:ByteArray),.int .i64 0] 78 ?_;intro gb104 hg w15 hbox hb;have BK104:=am (hbox);have GE104:=am (zg:w.heap.size≤gb104);replace HB:=am (below_step (zb) hb);have NB102_104:=am ((by rw [hg];exact Nat.ne_of_lt (blk_lt (g:=gb102) (o:=.cells #[.string ((rd_T78 l0 x13_1).f0),.int .i64 ((rd_T78 l0 x13_1).f1)] 78 (0,0)) (by refine zl ?_;refine blk_put (cs:=#[.string ((rd_T78 l0 x13_1).f0),.int .i64 0]) ?_ 1 _ rfl;refine zl ?_;refine blk_put (cs:=#[.string (⟨#[]⟩:ByteArray),.int .i64 0]) ?_ 0 _ rfl;refine zl ?_;exact BK102.out)):gb102≠gb104));have NB104_102:=am ((by rw [hg];exact Nat.ne_of_gt (blk_lt (g:=gb102) (o:=.cells #[.string ((rd_T78 l0 x13_1).f0),.int .i64 ((rd_T78 l0 x13_1).f1)] 78 (0,0)) (by refine zl ?_;refine blk_put (cs:=#[.string ((rd_T78 l0 x13_1).f0),.int .i64 0]) ?_ 1 _ rfl;refine zl ?_;refine blk_put (cs:=#[.string (⟨#[]⟩:ByteArray),.int .i64 0]) ?_ 0 _ rfl;refine zl ?_;exact BK102.out)):gb104≠gb102));replace BK102:=am (blk_below (g:=gb102) (o:=.cells #[.string ((rd_T78 l0 x13_1).f0),.int .i64 ((rd_T78 l0 x13_1).f1)] 78 (0,0)) (by refine zl ?_;refine blk_put (cs:=#[.string ((rd_T78 l0 x13_1).f0),.int .i64 0]) ?_ 1 _ rfl;refine zl ?_;refine blk_put (cs:=#[.string (⟨#[]⟩:ByteArray),.int .i64 0]) ?_ 0 _ rfl;refine zl ?_;exact BK102.out) hb);clear hb hbox hg;have hnb16:=NB104_102.out;have hnc16:=NB102_104.out;obtain⟨hcz17_0,hcz17_1,hfz17_0,hfz17_1⟩:=cf2 BK104.out;obtain⟨hcz18_0,hcz18_1,hfz18_0,hfz18_1⟩:=cf2 BK102.out)|((with_reducible refine gate_callee_d (f:=66) rfl ?_);refine goesLd_ (some 29) rfl rfl Tryz.func66 (by kernel_rfl) rfl #[.agg #[.string ((rd_T78 l0 x13_1).f0),.int .i64 ((rd_T78 l0 x13_1).f1)],.agg #[.string ((rd_T78 l1 x13_1).f0),.int .i64 ((rd_T78 l1 x13_1).f1)]] rfl (za) ?_;(with_reducible refine (norm_cmpOn.calls k1 ((rd_T78 l0 x13_1).f0) ((rd_T78 l0 x13_1).f1) ((rd_T78 l1 x13_1).f0) ((rd_T78 l1 x13_1).f1) t105 _ A11.out).mono ?_);rintro e w19 ⟨rfl,hb⟩;refine⟨_,rfl,?_⟩;replace BK102:=am (blk_below (g:=gb102) (o:=.cells #[.string ((rd_T78 l0 x13_1).f0),.int .i64 ((rd_T78 l0 x13_1).f1)] 78 (0,0)) (by refine zl ?_;refine blk_far ?_ NB102_104.out _;refine zl ?_;refine blk_far ?_ NB102_104.out _;refine zl ?_;exact BK102.out) hb);replace BK104:=am (blk_below (g:=gb104) (o:=.cells #[.string ((rd_T78 l1 x13_1).f0),.int .i64 ((rd_T78 l1 x13_1).f1)] 78 (0,0)) (by refine zl ?_;refine blk_put (cs:=#[.string ((rd_T78 l1 x13_1).f0),.int .i64 0]) ?_ 1 _ rfl;refine zl ?_;refine blk_put (cs:=#[.string (⟨#[]⟩:ByteArray),.int .i64 0]) ?_ 0 _ rfl;refine zl ?_;exact BK104.out) hb);replace HB:=am (below_step (zb) hb);(try clear hb);(try clear hb2);(try clear hk);(try clear hi)))
        go_roundg k1
        case measure=>have:=HK1.out;omega
        case rel=>exact ⟨(wrap64 (x13_1+1)),(ze),H',⟨by have:=HK1.out;omega⟩,⟨zb⟩⟩
       rw [if_neg c12] at H;have c12b0:=Qg c12;have c12b1:=Qi c12;obtain rfl:=Qd H;have p101:0≤(x13_1:Int):=Qo;have q101:x13_1<(l0.length:Int):=Qo;obtain⟨ad101,e101,hx101_0,hx101_1⟩:=at_T78 HR0.out x13_1 p101 q101;cases e101;replace hx101_0:=ba HB hx101_0;replace hx101_1:=ba HB hx101_1;replace p101:=eq_true p101;replace q101:=eq_true q101;go_wp2_with (first|((with_reducible refine gd_ 8 ?_);refine bx_ 8 #[.string (⟨#[]⟩:ByteArray),.int .i64 0] 78 ?_;intro gb102 hg w20 hbox hb;have BK102:=am (hbox);have GW102:=am (zg:w.heap.size≤gb102);have GE102:=am (zg:w.heap.size≤gb102);replace HB:=am (below_step (zb) hb);clear hb hbox hg;obtain⟨hcz21_0,hcz21_1,hfz21_0,hfz21_1⟩:=cf2 BK102.out;have p103:0≤(x13_1:Int):=Qo;have q103:x13_1<(l1.length:Int):=Qo;obtain⟨ad103,e103,hx103_0,hx103_1⟩:=at_T78 HR1.out x13_1 p103 q103;cases e103;have hn103_0:ad103.block≠gb102:=Nat.ne_of_lt (Nat.lt_of_lt_of_le (zy hx103_0) GW102.out);have hn103_1:ad103.block≠gb102:=Nat.ne_of_lt (Nat.lt_of_lt_of_le (zy hx103_0) GW102.out);replace hx103_0:=ba HB hx103_0;replace hx103_1:=ba HB hx103_1;replace hx103_0:=(cell_far (p:=⟨gb102,0,none⟩) (zx hn103_0) (.string ((rd_T78 l0 x13_1).f0))).trans hx103_0;replace hx103_1:=(cell_far (p:=⟨gb102,0,none⟩) (zx hn103_0) (.string ((rd_T78 l0 x13_1).f0))).trans hx103_1;replace hx103_0:=(cell_far (p:=⟨gb102,1,none⟩) (zx hn103_1) (.int .i64 ((rd_T78 l0 x13_1).f1))).trans hx103_0;replace hx103_1:=(cell_far (p:=⟨gb102,1,none⟩) (zx hn103_1) (.int .i64 ((rd_T78 l0 x13_1).f1))).trans hx103_1;clear hn103_0;clear hn103_1;replace p103:=eq_true p103;replace q103:=eq_true q103)|((with_reducible refine gd_ 9 ?_);refine bx_ 9 #[.string (⟨#[]⟩:ByteArray),.int .i64 0] 78 ?_;intro gb104 hg w22 hbox hb;have BK104:=am (hbox);have GE104:=am (zg:w.heap.size≤gb104);replace HB:=am (below_step (zb) hb);have NB102_104:=am ((by rw [hg];exact Nat.ne_of_lt (blk_lt (g:=gb102) (o:=.cells #[.string ((rd_T78 l0 x13_1).f0),.int .i64 ((rd_T78 l0 x13_1).f1)] 78 (0,0)) (by refine zl ?_;refine blk_put (cs:=#[.string ((rd_T78 l0 x13_1).f0),.int .i64 0]) ?_ 1 _ rfl;refine zl ?_;refine blk_put (cs:=#[.string (⟨#[]⟩:ByteArray),.int .i64 0]) ?_ 0 _ rfl;refine zl ?_;exact BK102.out)):gb102≠gb104));have NB104_102:=am ((by rw [hg];exact Nat.ne_of_gt (blk_lt (g:=gb102) (o:=.cells #[.string ((rd_T78 l0 x13_1).f0),.int .i64 ((rd_T78 l0 x13_1).f1)] 78 (0,0)) (by refine zl ?_;refine blk_put (cs:=#[.string ((rd_T78 l0 x13_1).f0),.int .i64 0]) ?_ 1 _ rfl;refine zl ?_;refine blk_put (cs:=#[.string (⟨#[]⟩:ByteArray),.int .i64 0]) ?_ 0 _ rfl;refine zl ?_;exact BK102.out)):gb104≠gb102));replace BK102:=am (blk_below (g:=gb102) (o:=.cells #[.string ((rd_T78 l0 x13_1).f0),.int .i64 ((rd_T78 l0 x13_1).f1)] 78 (0,0)) (by refine zl ?_;refine blk_put (cs:=#[.string ((rd_T78 l0 x13_1).f0),.int .i64 0]) ?_ 1 _ rfl;refine zl ?_;refine blk_put (cs:=#[.string (⟨#[]⟩:ByteArray),.int .i64 0]) ?_ 0 _ rfl;refine zl ?_;exact BK102.out) hb);clear hb hbox hg;have hnb23:=NB104_102.out;have hnc23:=NB102_104.out;obtain⟨hcz24_0,hcz24_1,hfz24_0,hfz24_1⟩:=cf2 BK104.out;obtain⟨hcz25_0,hcz25_1,hfz25_0,hfz25_1⟩:=cf2 BK102.out)|((with_reducible refine gate_callee_d (f:=66) rfl ?_);refine goesLd_ (some 29) rfl rfl Tryz.func66 (by kernel_rfl) rfl #[.agg #[.string ((rd_T78 l0 x13_1).f0),.int .i64 ((rd_T78 l0 x13_1).f1)],.agg #[.string ((rd_T78 l1 x13_1).f0),.int .i64 ((rd_T78 l1 x13_1).f1)]] rfl (za) ?_;(with_reducible refine (norm_cmpOn.calls k1 ((rd_T78 l0 x13_1).f0) ((rd_T78 l0 x13_1).f1) ((rd_T78 l1 x13_1).f0) ((rd_T78 l1 x13_1).f1) t105 _ A11.out).mono ?_);rintro e w26 ⟨rfl,hb⟩;refine⟨_,rfl,?_⟩;replace BK102:=am (blk_below (g:=gb102) (o:=.cells #[.string ((rd_T78 l0 x13_1).f0),.int .i64 ((rd_T78 l0 x13_1).f1)] 78 (0,0)) (by refine zl ?_;refine blk_far ?_ NB102_104.out _;refine zl ?_;refine blk_far ?_ NB102_104.out _;refine zl ?_;exact BK102.out) hb);replace BK104:=am (blk_below (g:=gb104) (o:=.cells #[.string ((rd_T78 l1 x13_1).f0),.int .i64 ((rd_T78 l1 x13_1).f1)] 78 (0,0)) (by refine zl ?_;refine blk_put (cs:=#[.string ((rd_T78 l1 x13_1).f0),.int .i64 0]) ?_ 1 _ rfl;refine zl ?_;refine blk_put (cs:=#[.string (⟨#[]⟩:ByteArray),.int .i64 0]) ?_ 0 _ rfl;refine zl ?_;exact BK104.out) hb);replace HB:=am (below_step (zb) hb);(try clear hb);(try clear hb2);(try clear hk);(try clear hi)))
       go_ret;exact⟨zf,zb⟩
      rw [if_neg c10] at H;exact absurd H (by simp)
     rw [if_neg c6] at H;exact absurd H (by simp)
    rw [if_neg c5] at H;exact absurd H (by simp)
   rw [if_neg c4] at H;have c4b0:=Qc c4;clear c4;by_cases c27:(l0.length:Int)<(l1.length:Int)
   ·
    rw [if_pos c27] at H;have c27b0:=Qb c27;have c27b1:decide (l0.length<l1.length)=true:=Qb (Int.ofNat_lt.mp c27);clear c27;obtain rfl:=Qd H;go_wp2;go_ret;exact⟨zf,zb⟩
   rw [if_neg c27] at H;have c27b0:=Qc c27;have c27b1:decide (l0.length<l1.length)=false:=Qc (fun h=>c27 (Int.ofNat_lt.mpr h));clear c27;obtain rfl:=Qd H;go_wp2;go_ret;exact⟨zf,zb⟩
def norm_cmpIf.f(k:Nat)(a0_0:ByteArray)(a0_1:ByteArray)(a0_2:Int)(a1_0:ByteArray)(a1_1:ByteArray)(a1_2:Int):Option (Int):=(cmp_Compare_string.f a0_0 a1_0).bind fun t103=>((cmp_Compare_string.f a0_1 a1_1).bind fun t104=>((cmp_Compare_int.f a0_2 a1_2).bind fun t105=>((cmp_Or_int.f k (([t103,t104,t105]:List Int))).bind fun t109=>(some t109))))
def norm_cmpIf.T1:Bool × List (List Nat × List Nat):=(true,[([],[]),([0],[0]),([],[]),([2],[2]),([1,3],[1,3]),([],[]),([5],[5]),([],[]),([7],[7]),([6,8,4],[6,8]),([],[]),([10],[10]),([],[]),([12],[12]),([11,13,9],[11,13]),([4,9,14],[4,9,14]),([15,14],[15]),([16,16,0,1,2,3,4,5,6,7,8,9,10,11,12,13,14,15,16],[16])])
def norm_cmpIf.B1:List Nat:=[0,1,0,4,15,0,32,0,128,511,0,1024,0,4096,16383,32767,65535,131071]
theorem norm_cmpIf.tab1:rtab .any (opsOf Tryz.f68 1)=norm_cmpIf.T1:=by kernel_rfl
theorem norm_cmpIf.bits1:waitsOk norm_cmpIf.T1.2 norm_cmpIf.B1=true:=by kernel_rfl
theorem norm_cmpIf.calls(k:Nat)(a0_0:ByteArray)(a0_1:ByteArray)(a0_2:Int)(a1_0:ByteArray)(a1_1:ByteArray)(a1_2:Int)(r:Int)(w:World)(h:norm_cmpIf.f k a0_0 a0_1 a0_2 a1_0 a1_1 a1_2=some r) :
  Calls Tryz.prog 68 #[.agg #[.string a0_0,.string a0_1,.int .i64 a0_2],.agg #[.string a1_0,.string a1_1,.int .i64 a1_2]] w fun e w'=>e = .returned (.int .i64 r)∧Below w.heap.size w w':=by
 have hu93:=Tryz.underlying93;have HB:=am (Below.refl w.heap.size w);have H:((cmp_Compare_string.f a0_0 a1_0).bind fun t103=>((cmp_Compare_string.f a0_1 a1_1).bind fun t104=>((cmp_Compare_int.f a0_2 a1_2).bind fun t105=>((cmp_Or_int.f k (([t103,t104,t105]:List Int))).bind fun t109=>(some t109)))))=some r:=h;clear h;replace H:=Qe H;obtain⟨t103,A30,H⟩:=H;have A3:=am A30;clear A30;replace H:=Qe H;obtain⟨t104,A40,H⟩:=H;have A4:=am A40;clear A40;replace H:=Qe H;obtain⟨t105,A50,H⟩:=H;have A5:=am A50;clear A50;obtain⟨y106,hy106⟩:∃ y_:List Int,y_=(([t103,t104,t105]:List Int)):=⟨_,rfl⟩;replace H:((cmp_Or_int.f k y106).bind fun t109=>(some t109))=some r:=by first|(rw [hy106];with_reducible exact H)|(have H2_:=(Option.bind_some _ _).symm.trans H;rw [hy106];with_reducible exact H2_)|(have H2_:=(Option.bind_some _ _).symm.trans H;with_reducible exact H2_)|with_reducible exact H|(rw [hy106];exact H)|exact H
 have Ny106:=am hy106;clear hy106;replace H:=Qe H;obtain⟨t109,A60,H⟩:=H;have A6:=am A60;clear A60;obtain rfl:=Qd H;go_enter Tryz.func68,Tryz.ntmps68;try go_wp2_with (first|((with_reducible refine gd_ 2 ?_);refine bx_ 2 #[.string a0_0,.string a0_1,.int .i64 a0_2] 93 ?_;intro gb101 hg w7 hbox hb;have BK101:=am (hbox);have GE101:=am (zg:w.heap.size≤gb101);replace HB:=am (below_step (zb) hb);clear hb hbox hg)|((with_reducible refine gd_ 3 ?_);refine bx_ 3 #[.string a1_0,.string a1_1,.int .i64 a1_2] 93 ?_;intro gb102 hg w8 hbox hb;have BK102:=am (hbox);have GE102:=am (zg:w.heap.size≤gb102);replace HB:=am (below_step (zb) hb);replace BK101:=am (zw BK101.out hb);clear hb hbox hg))
 replace BK101:=am (blk_drew BK101.out);replace BK102:=am (blk_drew BK102.out);replace HB:=am (below_drew1 HB.out);refine start_ (n:=18) (S:=fun w'=>w'.cell? ⟨gb101,0,none⟩=some (.string a0_0)∧w'.cell? ⟨gb101,1,none⟩=some (.string a0_1)∧w'.cell? ⟨gb101,2,none⟩=some (.int .i64 a0_2)∧w'.cell? ⟨gb102,0,none⟩=some (.string a1_0)∧w'.cell? ⟨gb102,1,none⟩=some (.string a1_1)∧w'.cell? ⟨gb102,2,none⟩=some (.int .i64 a1_2)) (ds:=[]) #[false,false,false,false,false,false,false,false,false,false,false,false,false,false,false,false,false,false] (by kernel_rfl) rfl rfl ⟨bc BK101 0,bc BK101 1,bc BK101 2,bc BK102 0,bc BK102 1,bc BK102 2⟩ (fun hHeld=>?_);refine with_tabW norm_cmpIf.tab1 norm_cmpIf.bits1 (fun HT_ HW_=>?_);generalize w8.drew=w9 at BK101 BK102 HB hHeld ⊢;refine pz_ 0 5 18 1 ?_;refine pz_ 2 7 18 5 ?_;refine pz_ 5 10 18 37 ?_;refine pz_ 7 12 18 165 ?_;refine pz_ 10 15 18 1189 ?_;refine pz_ 12 17 18 5285 ?_;refine tz_ 1 6 18 5287 ?_;refine tz_ 3 8 18 5295 ?_;refine tz_ 6 11 18 5359 ?_;refine tz_ 8 13 18 5615 ?_;refine tz_ 11 16 18 7663 ?_;refine tz_ 13 18 18 15855 ?_;refine oz_ 4 9 18 15871 (fun K hK=>?_);refine goes_ Tryz.func116 (by kernel_rfl) rfl #[.string a0_0,.string a1_0] (by rfl) rfl rfl (za) ?_;with_reducible refine (cmp_Compare_string.calls a0_0 a1_0 t103 _ A3.out).mono ?_
 rintro e w' ⟨rfl,⟨nd,rfl⟩⟩;refine⟨_,rfl,?_⟩;refine hK.out _ _ ⟨bc BK101 0,bc BK101 1,bc BK101 2,bc BK102 0,bc BK102 1,bc BK102 2⟩ (fun hHeld=>?_);clear hK K;refine nz_ 9 ?_;refine oz_ 9 14 18 16383 (fun K hK=>?_);refine goes_ Tryz.func116 (by kernel_rfl) rfl #[.string a0_1,.string a1_1] (by rfl) rfl rfl (za) ?_;with_reducible refine (cmp_Compare_string.calls a0_1 a1_1 t104 _ A4.out).mono ?_
 rintro e w' ⟨rfl,⟨nd,rfl⟩⟩;refine⟨_,rfl,?_⟩;refine hK.out _ _ ⟨bc BK101 0,bc BK101 1,bc BK101 2,bc BK102 0,bc BK102 1,bc BK102 2⟩ (fun hHeld=>?_);clear hK K;refine nz_ 14 ?_;refine oz_ 14 19 18 32767 (fun K hK=>?_);refine goes_ Tryz.func117 (by kernel_rfl) rfl #[.int .i64 a0_2,.int .i64 a1_2] (by rfl) rfl rfl (za) ?_;with_reducible refine (cmp_Compare_int.calls a0_2 a1_2 t105 _ A5.out).mono ?_
 rintro e w' ⟨rfl,⟨nd,rfl⟩⟩;refine⟨_,rfl,?_⟩;refine hK.out _ _ ⟨bc BK101 0,bc BK101 1,bc BK101 2,bc BK102 0,bc BK102 1,bc BK102 2⟩ (fun hHeld=>?_);clear hK K;refine nz_ 19 ?_;refine oz_ 15 20 18 65535 (fun K hK=>?_);refine Kd.R_lit_step (Kd.int .i64) _ 3 ?hg (N:=20) ?hd (xs:=([t103,t104,t105]:List Int)) (inner:=[.int .i64 t103,.int .i64 t104,.int .i64 t105]) (ok:=fun _=>True) (okp:=fun _=>True) ?hr ?hp (fun _ hk=>hk) trivial (Below.refl _ _) (Nat.le_refl _) (by simp) ?_;(case hd=>rfl);(case hg=>rfl);(case hr=>first|(go_simp;done)|(go_simp;rfl));(case hp=>exact (Reps.one (show Kd.M (Kd.int .i64) _ _ _ t103 [.int .i64 t103] from rfl) (Reps.one (show Kd.M (Kd.int .i64) _ _ _ t104 [.int .i64 t104] from rfl) (Reps.one (show Kd.M (Kd.int .i64) _ _ _ t105 [.int .i64 t105] from rfl) (Reps.none _ _)))));intro v107 w10 ho11 hb hg_ hnew_;clear hg_ hnew_
 (first|rw [← Ny106.out] at ho11|(simp only [Int.reduceToNat] at ho11;rw [← Ny106.out] at ho11))
 have HO108:=am (Kd.R_lower ho11 (below_size (zb)));replace BK101:=am (zw BK101.out hb);replace BK102:=am (zw BK102.out hb);replace HB:=am (below_step (zb) hb);clear hb ho11;obtain⟨Ao12,co12,eo12⟩:=Kd.R_slice HO108.out
 (first|subst eo12|(injection eo12 with f1_ f2_ f3_;have f4_:=f1_.symm;have f5_:=f3_.symm;clear f1_ f2_ f3_;subst f4_;subst f5_))
 refine hK.out _ _ ⟨bc BK101 0,bc BK101 1,bc BK101 2,bc BK102 0,bc BK102 1,bc BK102 2⟩ (fun hHeld=>?_);clear hK K;refine nz_ 20 ?_;refine oz_ 16 21 18 131071 (fun K hK=>?_);refine goes_ Tryz.func64 (by kernel_rfl) rfl #[.slice Ao12 y106.length co12] (by rfl) rfl rfl (za) ?_;with_reducible refine (cmp_Or_int.calls k _ _ y106 t109 _ ?side1 ?side2 A6.out).mono ?_
 (case side1=>exact zc (Kd.R_reads' HO108.out).2.2)
 (case side2=>exact (Kd.R_reads' HO108.out).2.1)
 rintro e w' ⟨rfl,⟨nd,rfl⟩⟩;refine⟨_,rfl,?_⟩;refine hK.out _ _ ⟨bc BK101 0,bc BK101 1,bc BK101 2,bc BK102 0,bc BK102 1,bc BK102 2⟩ (fun hHeld=>?_);clear hK K;refine nz_ 21 ?_;refine pz_ 17 4 18 262143 ?_;refine done_ (done_of HT_.out (by kernel_rfl)) ?_;try go_wp2
 go_ret;exact⟨zf,zb⟩
def slices_CompareFunc_cmpIf.l0:Nat→List (S93)→List (S93)→List (S93)→Int→Int→Option (Int)
  | 0, _, _, _, _, _ => none
  | k+1,x0,x1,x11,x12,x13=>if x13<x12 then (if 0≤x13 then (if x13<(x11.length:Int) then (if x13≥(x1.length:Int) then (some 1) else (if x13<(x1.length:Int) then ((norm_cmpIf.f k ((rd_T93 x11 x13).f0) ((rd_T93 x11 x13).f1) ((rd_T93 x11 x13).f2) ((rd_T93 x1 x13).f0) ((rd_T93 x1 x13).f1) ((rd_T93 x1 x13).f2)).bind fun t105=>(if t105=0 then (slices_CompareFunc_cmpIf.l0 k x0 x1 x11 x12 (wrap64 (x13+1))) else (some t105))) else (none))) else (none)) else (none)) else (if (x0.length:Int)<(x1.length:Int) then (some (-1)) else (some 0))
def slices_CompareFunc_cmpIf.f(k:Nat)(l0:List (S93))(l1:List (S93))  : Option (Int):=slices_CompareFunc_cmpIf.l0 k l0 l1 l0 (l0.length:Int) 0
theorem slices_CompareFunc_cmpIf.calls(k : Nat)(A0 : Option Addr)(c0 : Nat)(l0 : List (S93))(A1 : Option Addr)(c1 : Nat)(l1 : List (S93))(r : Int)(w : World)(hr0 : Kd.C k93 w A0 l0.length l0)(hc0 : l0.length ≤ c0)(hr1 : Kd.C k93 w A1 l1.length l1)(hc1 : l1.length ≤ c1)(h : slices_CompareFunc_cmpIf.f k l0 l1 = some r) :
  Calls Tryz.prog 67 #[.slice A0 l0.length c0,.slice A1 l1.length c1,(.func (.func 68) #[] #[])] w fun e w'=>e = .returned (.int .i64 r)∧Below w.heap.size w w':=by
 have hu93:=Tryz.underlying93;have HR0:=am hr0;have HC0:=am hc0;clear hr0 hc0;have HR1:=am hr1;have HC1:=am hc1;clear hr1 hc1;have HB:=am (Below.refl w.heap.size w);have H:(slices_CompareFunc_cmpIf.l0 k l0 l1 l0 (l0.length:Int) 0)=some r:=h;clear h;have H':=am H;clear H;go_enter Tryz.func67,Tryz.ntmps67;go_wp2;go_loopg [13] k (fun kq v13 w' => ∃ (x13_1:Int),v13 = .int .i64 x13_1∧Aside0 (slices_CompareFunc_cmpIf.l0 kq l0 l1 l0 (l0.length:Int) x13_1=some r)∧Aside0 (kq≤k)∧Aside0 (Below w.heap.size w w'))
 case atStart=>exact ⟨(0),(ze),H',⟨Nat.le_refl _⟩,⟨zb⟩⟩
 case round =>
  clear H';obtain⟨x13_1,rfl,HA,HK1,HB⟩:=hrel
  cases gk with
  | zero => exact absurd HA.out (by simp [slices_CompareFunc_cmpIf.l0])
  | succ k1 =>
   have H:=HA.out;clear HA;simp only [slices_CompareFunc_cmpIf.l0] at H;by_cases c4:x13_1<(l0.length:Int)
   ·
    rw [if_pos c4] at H;have c4b0:=Qb c4;clear c4;by_cases c5:0≤x13_1
    ·
     rw [if_pos c5] at H;have c5b0:=Qb c5;clear c5;by_cases c6:x13_1<(l0.length:Int)
     ·
      rw [if_pos c6] at H;have c6b0:=Qb c6;clear c6;by_cases c7:x13_1≥(l1.length:Int)
      ·
       rw [if_pos c7] at H;have c7b0:decide ((l1.length:Int)≤x13_1)=true:=Qb c7;clear c7;obtain rfl:=Qd H;have p101:0≤(x13_1:Int):=Qo;have q101:x13_1<(l0.length:Int):=Qo;obtain⟨ad101,e101,hx101_0,hx101_1,hx101_2⟩:=at_T93 HR0.out x13_1 p101 q101;cases e101;replace hx101_0:=ba HB hx101_0;replace hx101_1:=ba HB hx101_1;replace hx101_2:=ba HB hx101_2;replace p101:=eq_true p101;replace q101:=eq_true q101;go_wp2_with (first|((with_reducible refine gd_ 8 ?_);refine bx_ 8 #[.string (⟨#[]⟩:ByteArray),.string (⟨#[]⟩:ByteArray),.int .i64 0] 93 ?_;intro gb102 hg w8 hbox hb;have BK102:=am (hbox);have GW102:=am (zg:w.heap.size≤gb102);have GE102:=am (zg:w.heap.size≤gb102);replace HB:=am (below_step (zb) hb);clear hb hbox hg;obtain⟨hcz9_0,hcz9_1,hcz9_2,hfz9_0,hfz9_1,hfz9_2⟩:=cf3 BK102.out))
       go_ret;exact⟨zf,zb⟩
      rw [if_neg c7] at H;have c7b0:decide ((l1.length:Int)≤x13_1)=false:=Qc c7;clear c7;by_cases c10:x13_1<(l1.length:Int)
      ·
       rw [if_pos c10] at H;have c10b0:=Qb c10;clear c10;replace H:=Qe H;obtain⟨t105,A110,H⟩:=H;have A11:=am A110;clear A110;by_cases c12:t105=0
       ·
        rw [if_pos c12] at H;have c12b0:=Qh c12;have c12b1:=Qf c12;clear c12;have H':=am H;clear H;have p101:0≤(x13_1:Int):=Qo;have q101:x13_1<(l0.length:Int):=Qo;obtain⟨ad101,e101,hx101_0,hx101_1,hx101_2⟩:=at_T93 HR0.out x13_1 p101 q101;cases e101;replace hx101_0:=ba HB hx101_0;replace hx101_1:=ba HB hx101_1;replace hx101_2:=ba HB hx101_2;replace p101:=eq_true p101;replace q101:=eq_true q101;go_wp2_with (first|((with_reducible refine gd_ 8 ?_);refine bx_ 8 #[.string (⟨#[]⟩:ByteArray),.string (⟨#[]⟩:ByteArray),.int .i64 0] 93 ?_;intro gb102 hg w13 hbox hb;have BK102:=am (hbox);have GW102:=am (zg:w.heap.size≤gb102);have GE102:=am (zg:w.heap.size≤gb102);replace HB:=am (below_step (zb) hb);clear hb hbox hg;obtain⟨hcz14_0,hcz14_1,hcz14_2,hfz14_0,hfz14_1,hfz14_2⟩:=cf3 BK102.out;have p103:0≤(x13_1:Int):=Qo;have q103:x13_1<(l1.length:Int):=Qo;obtain⟨ad103,e103,hx103_0,hx103_1,hx103_2⟩:=at_T93 HR1.out x13_1 p103 q103;cases e103;have hn103_0:ad103.block≠gb102:=Nat.ne_of_lt (Nat.lt_of_lt_of_le (zy hx103_0) GW102.out);have hn103_1:ad103.block≠gb102:=Nat.ne_of_lt (Nat.lt_of_lt_of_le (zy hx103_0) GW102.out);have hn103_2:ad103.block≠gb102:=Nat.ne_of_lt (Nat.lt_of_lt_of_le (zy hx103_0) GW102.out);replace hx103_0:=ba HB hx103_0;replace hx103_1:=ba HB hx103_1;replace hx103_2:=ba HB hx103_2;replace hx103_0:=(cell_far (p:=⟨gb102,0,none⟩) (zx hn103_0) (.string ((rd_T93 l0 x13_1).f0))).trans hx103_0;replace hx103_1:=(cell_far (p:=⟨gb102,0,none⟩) (zx hn103_0) (.string ((rd_T93 l0 x13_1).f0))).trans hx103_1;replace hx103_2:=(cell_far (p:=⟨gb102,0,none⟩) (zx hn103_0) (.string ((rd_T93 l0 x13_1).f0))).trans hx103_2;replace hx103_0:=(cell_far (p:=⟨gb102,1,none⟩) (zx hn103_1) (.string ((rd_T93 l0 x13_1).f1))).trans hx103_0;replace hx103_1:=(cell_far (p:=⟨gb102,1,none⟩) (zx hn103_1) (.string ((rd_T93 l0 x13_1).f1))).trans hx103_1;replace hx103_2:=(cell_far (p:=⟨gb102,1,none⟩) (zx hn103_1) (.string ((rd_T93 l0 x13_1).f1))).trans hx103_2;replace hx103_0:=(cell_far (p:=⟨gb102,2,none⟩) (zx hn103_2) (.int .i64 ((rd_T93 l0 x13_1).f2))).trans hx103_0;replace hx103_1:=(cell_far (p:=⟨gb102,2,none⟩) (zx hn103_2) (.int .i64 ((rd_T93 l0 x13_1).f2))).trans hx103_1;replace hx103_2:=(cell_far (p:=⟨gb102,2,none⟩) (zx hn103_2) (.int .i64 ((rd_T93 l0 x13_1).f2))).trans hx103_2;clear hn103_0;clear hn103_1;clear hn103_2;replace p103:=eq_true p103;replace q103:=eq_true q103)|((with_reducible refine gd_ 9 ?_);refine bx_ 9 #[.string (⟨#[]⟩:ByteArray),.string (⟨#[]⟩:ByteArray),.int .i64 0] 93 ?_;intro gb104 hg w15 hbox hb;have BK104:=am (hbox);have GE104:=am (zg:w.heap.size≤gb104);replace HB:=am (below_step (zb) hb);have NB102_104:=am ((by rw [hg];exact Nat.ne_of_lt (blk_lt (g:=gb102) (o:=.cells #[.string ((rd_T93 l0 x13_1).f0),.string ((rd_T93 l0 x13_1).f1),.int .i64 ((rd_T93 l0 x13_1).f2)] 93 (0,0)) (by refine zl ?_;refine blk_put (cs:=#[.string ((rd_T93 l0 x13_1).f0),.string ((rd_T93 l0 x13_1).f1),.int .i64 0]) ?_ 2 _ rfl;refine zl ?_;refine blk_put (cs:=#[.string ((rd_T93 l0 x13_1).f0),.string (⟨#[]⟩:ByteArray),.int .i64 0]) ?_ 1 _ rfl;refine zl ?_;refine blk_put (cs:=#[.string (⟨#[]⟩:ByteArray),.string (⟨#[]⟩:ByteArray),.int .i64 0]) ?_ 0 _ rfl;refine zl ?_;exact BK102.out)):gb102≠gb104));have NB104_102:=am ((by rw [hg];exact Nat.ne_of_gt (blk_lt (g:=gb102) (o:=.cells #[.string ((rd_T93 l0 x13_1).f0),.string ((rd_T93 l0 x13_1).f1),.int .i64 ((rd_T93 l0 x13_1).f2)] 93 (0,0)) (by refine zl ?_;refine blk_put (cs:=#[.string ((rd_T93 l0 x13_1).f0),.string ((rd_T93 l0 x13_1).f1),.int .i64 0]) ?_ 2 _ rfl;refine zl ?_;refine blk_put (cs:=#[.string ((rd_T93 l0 x13_1).f0),.string (⟨#[]⟩:ByteArray),.int .i64 0]) ?_ 1 _ rfl;refine zl ?_;refine blk_put (cs:=#[.string (⟨#[]⟩:ByteArray),.string (⟨#[]⟩:ByteArray),.int .i64 0]) ?_ 0 _ rfl;refine zl ?_;exact BK102.out)):gb104≠gb102));replace BK102:=am (blk_below (g:=gb102) (o:=.cells #[.string ((rd_T93 l0 x13_1).f0),.string ((rd_T93 l0 x13_1).f1),.int .i64 ((rd_T93 l0 x13_1).f2)] 93 (0,0)) (by refine zl ?_;refine blk_put (cs:=#[.string ((rd_T93 l0 x13_1).f0),.string ((rd_T93 l0 x13_1).f1),.int .i64 0]) ?_ 2 _ rfl;refine zl ?_;refine blk_put (cs:=#[.string ((rd_T93 l0 x13_1).f0),.string (⟨#[]⟩:ByteArray),.int .i64 0]) ?_ 1 _ rfl;refine zl ?_;refine blk_put (cs:=#[.string (⟨#[]⟩:ByteArray),.string (⟨#[]⟩:ByteArray),.int .i64 0]) ?_ 0 _ rfl;refine zl ?_;exact BK102.out) hb);clear hb hbox hg;have hnb16:=NB104_102.out;have hnc16:=NB102_104.out;obtain⟨hcz17_0,hcz17_1,hcz17_2,hfz17_0,hfz17_1,hfz17_2⟩:=cf3 BK104.out;obtain⟨hcz18_0,hcz18_1,hcz18_2,hfz18_0,hfz18_1,hfz18_2⟩:=cf3 BK102.out)|((with_reducible refine gate_callee_d (f:=68) rfl ?_);refine goesLd_ (some 29) rfl rfl Tryz.func68 (by kernel_rfl) rfl #[.agg #[.string ((rd_T93 l0 x13_1).f0),.string ((rd_T93 l0 x13_1).f1),.int .i64 ((rd_T93 l0 x13_1).f2)],.agg #[.string ((rd_T93 l1 x13_1).f0),.string ((rd_T93 l1 x13_1).f1),.int .i64 ((rd_T93 l1 x13_1).f2)]] rfl (za) ?_;(with_reducible refine (norm_cmpIf.calls k1 ((rd_T93 l0 x13_1).f0) ((rd_T93 l0 x13_1).f1) ((rd_T93 l0 x13_1).f2) ((rd_T93 l1 x13_1).f0) ((rd_T93 l1 x13_1).f1) ((rd_T93 l1 x13_1).f2) t105 _ A11.out).mono ?_);rintro e w19 ⟨rfl,hb⟩;refine⟨_,rfl,?_⟩;replace BK102:=am (blk_below (g:=gb102) (o:=.cells #[.string ((rd_T93 l0 x13_1).f0),.string ((rd_T93 l0 x13_1).f1),.int .i64 ((rd_T93 l0 x13_1).f2)] 93 (0,0)) (by refine zl ?_;refine blk_far ?_ NB102_104.out _;refine zl ?_;refine blk_far ?_ NB102_104.out _;refine zl ?_;refine blk_far ?_ NB102_104.out _;refine zl ?_;exact BK102.out) hb);replace BK104:=am (blk_below (g:=gb104) (o:=.cells #[.string ((rd_T93 l1 x13_1).f0),.string ((rd_T93 l1 x13_1).f1),.int .i64 ((rd_T93 l1 x13_1).f2)] 93 (0,0)) (by refine zl ?_;refine blk_put (cs:=#[.string ((rd_T93 l1 x13_1).f0),.string ((rd_T93 l1 x13_1).f1),.int .i64 0]) ?_ 2 _ rfl;refine zl ?_;refine blk_put (cs:=#[.string ((rd_T93 l1 x13_1).f0),.string (⟨#[]⟩:ByteArray),.int .i64 0]) ?_ 1 _ rfl;refine zl ?_;refine blk_put (cs:=#[.string (⟨#[]⟩:ByteArray),.string (⟨#[]⟩:ByteArray),.int .i64 0]) ?_ 0 _ rfl;refine zl ?_;exact BK104.out) hb);replace HB:=am (below_step (zb) hb);(try clear hb);(try clear hb2);(try clear hk);(try clear hi)))
        go_roundg k1
        case measure=>have:=HK1.out;omega
        case rel=>exact ⟨(wrap64 (x13_1+1)),(ze),H',⟨by have:=HK1.out;omega⟩,⟨zb⟩⟩
       rw [if_neg c12] at H;have c12b0:=Qg c12;have c12b1:=Qi c12;obtain rfl:=Qd H;have p101:0≤(x13_1:Int):=Qo;have q101:x13_1<(l0.length:Int):=Qo;obtain⟨ad101,e101,hx101_0,hx101_1,hx101_2⟩:=at_T93 HR0.out x13_1 p101 q101;cases e101;replace hx101_0:=ba HB hx101_0;replace hx101_1:=ba HB hx101_1;replace hx101_2:=ba HB hx101_2;replace p101:=eq_true p101;replace q101:=eq_true q101;go_wp2_with (first|((with_reducible refine gd_ 8 ?_);refine bx_ 8 #[.string (⟨#[]⟩:ByteArray),.string (⟨#[]⟩:ByteArray),.int .i64 0] 93 ?_;intro gb102 hg w20 hbox hb;have BK102:=am (hbox);have GW102:=am (zg:w.heap.size≤gb102);have GE102:=am (zg:w.heap.size≤gb102);replace HB:=am (below_step (zb) hb);clear hb hbox hg;obtain⟨hcz21_0,hcz21_1,hcz21_2,hfz21_0,hfz21_1,hfz21_2⟩:=cf3 BK102.out;have p103:0≤(x13_1:Int):=Qo;have q103:x13_1<(l1.length:Int):=Qo;obtain⟨ad103,e103,hx103_0,hx103_1,hx103_2⟩:=at_T93 HR1.out x13_1 p103 q103;cases e103;have hn103_0:ad103.block≠gb102:=Nat.ne_of_lt (Nat.lt_of_lt_of_le (zy hx103_0) GW102.out);have hn103_1:ad103.block≠gb102:=Nat.ne_of_lt (Nat.lt_of_lt_of_le (zy hx103_0) GW102.out);have hn103_2:ad103.block≠gb102:=Nat.ne_of_lt (Nat.lt_of_lt_of_le (zy hx103_0) GW102.out);replace hx103_0:=ba HB hx103_0;replace hx103_1:=ba HB hx103_1;replace hx103_2:=ba HB hx103_2;replace hx103_0:=(cell_far (p:=⟨gb102,0,none⟩) (zx hn103_0) (.string ((rd_T93 l0 x13_1).f0))).trans hx103_0;replace hx103_1:=(cell_far (p:=⟨gb102,0,none⟩) (zx hn103_0) (.string ((rd_T93 l0 x13_1).f0))).trans hx103_1;replace hx103_2:=(cell_far (p:=⟨gb102,0,none⟩) (zx hn103_0) (.string ((rd_T93 l0 x13_1).f0))).trans hx103_2;replace hx103_0:=(cell_far (p:=⟨gb102,1,none⟩) (zx hn103_1) (.string ((rd_T93 l0 x13_1).f1))).trans hx103_0;replace hx103_1:=(cell_far (p:=⟨gb102,1,none⟩) (zx hn103_1) (.string ((rd_T93 l0 x13_1).f1))).trans hx103_1;replace hx103_2:=(cell_far (p:=⟨gb102,1,none⟩) (zx hn103_1) (.string ((rd_T93 l0 x13_1).f1))).trans hx103_2;replace hx103_0:=(cell_far (p:=⟨gb102,2,none⟩) (zx hn103_2) (.int .i64 ((rd_T93 l0 x13_1).f2))).trans hx103_0;replace hx103_1:=(cell_far (p:=⟨gb102,2,none⟩) (zx hn103_2) (.int .i64 ((rd_T93 l0 x13_1).f2))).trans hx103_1;replace hx103_2:=(cell_far (p:=⟨gb102,2,none⟩) (zx hn103_2) (.int .i64 ((rd_T93 l0 x13_1).f2))).trans hx103_2;clear hn103_0;clear hn103_1;clear hn103_2;replace p103:=eq_true p103;replace q103:=eq_true q103)|((with_reducible refine gd_ 9 ?_);refine bx_ 9 #[.string (⟨#[]⟩:ByteArray),.string (⟨#[]⟩:ByteArray),.int .i64 0] 93 ?_;intro gb104 hg w22 hbox hb;have BK104:=am (hbox);have GE104:=am (zg:w.heap.size≤gb104);replace HB:=am (below_step (zb) hb);have NB102_104:=am ((by rw [hg];exact Nat.ne_of_lt (blk_lt (g:=gb102) (o:=.cells #[.string ((rd_T93 l0 x13_1).f0),.string ((rd_T93 l0 x13_1).f1),.int .i64 ((rd_T93 l0 x13_1).f2)] 93 (0,0)) (by refine zl ?_;refine blk_put (cs:=#[.string ((rd_T93 l0 x13_1).f0),.string ((rd_T93 l0 x13_1).f1),.int .i64 0]) ?_ 2 _ rfl;refine zl ?_;refine blk_put (cs:=#[.string ((rd_T93 l0 x13_1).f0),.string (⟨#[]⟩:ByteArray),.int .i64 0]) ?_ 1 _ rfl;refine zl ?_;refine blk_put (cs:=#[.string (⟨#[]⟩:ByteArray),.string (⟨#[]⟩:ByteArray),.int .i64 0]) ?_ 0 _ rfl;refine zl ?_;exact BK102.out)):gb102≠gb104));have NB104_102:=am ((by rw [hg];exact Nat.ne_of_gt (blk_lt (g:=gb102) (o:=.cells #[.string ((rd_T93 l0 x13_1).f0),.string ((rd_T93 l0 x13_1).f1),.int .i64 ((rd_T93 l0 x13_1).f2)] 93 (0,0)) (by refine zl ?_;refine blk_put (cs:=#[.string ((rd_T93 l0 x13_1).f0),.string ((rd_T93 l0 x13_1).f1),.int .i64 0]) ?_ 2 _ rfl;refine zl ?_;refine blk_put (cs:=#[.string ((rd_T93 l0 x13_1).f0),.string (⟨#[]⟩:ByteArray),.int .i64 0]) ?_ 1 _ rfl;refine zl ?_;refine blk_put (cs:=#[.string (⟨#[]⟩:ByteArray),.string (⟨#[]⟩:ByteArray),.int .i64 0]) ?_ 0 _ rfl;refine zl ?_;exact BK102.out)):gb104≠gb102));replace BK102:=am (blk_below (g:=gb102) (o:=.cells #[.string ((rd_T93 l0 x13_1).f0),.string ((rd_T93 l0 x13_1).f1),.int .i64 ((rd_T93 l0 x13_1).f2)] 93 (0,0)) (by refine zl ?_;refine blk_put (cs:=#[.string ((rd_T93 l0 x13_1).f0),.string ((rd_T93 l0 x13_1).f1),.int .i64 0]) ?_ 2 _ rfl;refine zl ?_;refine blk_put (cs:=#[.string ((rd_T93 l0 x13_1).f0),.string (⟨#[]⟩:ByteArray),.int .i64 0]) ?_ 1 _ rfl;refine zl ?_;refine blk_put (cs:=#[.string (⟨#[]⟩:ByteArray),.string (⟨#[]⟩:ByteArray),.int .i64 0]) ?_ 0 _ rfl;refine zl ?_;exact BK102.out) hb);clear hb hbox hg;have hnb23:=NB104_102.out;have hnc23:=NB102_104.out;obtain⟨hcz24_0,hcz24_1,hcz24_2,hfz24_0,hfz24_1,hfz24_2⟩:=cf3 BK104.out;obtain⟨hcz25_0,hcz25_1,hcz25_2,hfz25_0,hfz25_1,hfz25_2⟩:=cf3 BK102.out)|((with_reducible refine gate_callee_d (f:=68) rfl ?_);refine goesLd_ (some 29) rfl rfl Tryz.func68 (by kernel_rfl) rfl #[.agg #[.string ((rd_T93 l0 x13_1).f0),.string ((rd_T93 l0 x13_1).f1),.int .i64 ((rd_T93 l0 x13_1).f2)],.agg #[.string ((rd_T93 l1 x13_1).f0),.string ((rd_T93 l1 x13_1).f1),.int .i64 ((rd_T93 l1 x13_1).f2)]] rfl (za) ?_;(with_reducible refine (norm_cmpIf.calls k1 ((rd_T93 l0 x13_1).f0) ((rd_T93 l0 x13_1).f1) ((rd_T93 l0 x13_1).f2) ((rd_T93 l1 x13_1).f0) ((rd_T93 l1 x13_1).f1) ((rd_T93 l1 x13_1).f2) t105 _ A11.out).mono ?_);rintro e w26 ⟨rfl,hb⟩;refine⟨_,rfl,?_⟩;replace BK102:=am (blk_below (g:=gb102) (o:=.cells #[.string ((rd_T93 l0 x13_1).f0),.string ((rd_T93 l0 x13_1).f1),.int .i64 ((rd_T93 l0 x13_1).f2)] 93 (0,0)) (by refine zl ?_;refine blk_far ?_ NB102_104.out _;refine zl ?_;refine blk_far ?_ NB102_104.out _;refine zl ?_;refine blk_far ?_ NB102_104.out _;refine zl ?_;exact BK102.out) hb);replace BK104:=am (blk_below (g:=gb104) (o:=.cells #[.string ((rd_T93 l1 x13_1).f0),.string ((rd_T93 l1 x13_1).f1),.int .i64 ((rd_T93 l1 x13_1).f2)] 93 (0,0)) (by refine zl ?_;refine blk_put (cs:=#[.string ((rd_T93 l1 x13_1).f0),.string ((rd_T93 l1 x13_1).f1),.int .i64 0]) ?_ 2 _ rfl;refine zl ?_;refine blk_put (cs:=#[.string ((rd_T93 l1 x13_1).f0),.string (⟨#[]⟩:ByteArray),.int .i64 0]) ?_ 1 _ rfl;refine zl ?_;refine blk_put (cs:=#[.string (⟨#[]⟩:ByteArray),.string (⟨#[]⟩:ByteArray),.int .i64 0]) ?_ 0 _ rfl;refine zl ?_;exact BK104.out) hb);replace HB:=am (below_step (zb) hb);(try clear hb);(try clear hb2);(try clear hk);(try clear hi)))
       go_ret;exact⟨zf,zb⟩
      rw [if_neg c10] at H;exact absurd H (by simp)
     rw [if_neg c6] at H;exact absurd H (by simp)
    rw [if_neg c5] at H;exact absurd H (by simp)
   rw [if_neg c4] at H;have c4b0:=Qc c4;clear c4;by_cases c27:(l0.length:Int)<(l1.length:Int)
   ·
    rw [if_pos c27] at H;have c27b0:=Qb c27;have c27b1:decide (l0.length<l1.length)=true:=Qb (Int.ofNat_lt.mp c27);clear c27;obtain rfl:=Qd H;go_wp2;go_ret;exact⟨zf,zb⟩
   rw [if_neg c27] at H;have c27b0:=Qc c27;have c27b1:decide (l0.length<l1.length)=false:=Qc (fun h=>c27 (Int.ofNat_lt.mpr h));clear c27;obtain rfl:=Qd H;go_wp2;go_ret;exact⟨zf,zb⟩
def norm_CmpSentry.f(k:Nat)(l0_0:List (S78))(l0_1:List (S93))(l1_0:List (S78))(l1_1:List (S93)):Option (Int):=(slices_CompareFunc_cmpOn.f k l0_0 l1_0).bind fun t103=>((slices_CompareFunc_cmpIf.f k l0_1 l1_1).bind fun t104=>((cmp_Or_int.f k (([t103,t104]:List Int))).bind fun t108=>(some t108)))
def norm_CmpSentry.T1:Bool × List (List Nat × List Nat):=(true,[([],[]),([0],[0]),([],[]),([2],[2]),([1,3],[1,3]),([],[]),([5],[5]),([],[]),([7],[7]),([6,8,4],[6,8]),([4,9],[4,9]),([10,9],[10]),([11,11,0,1,2,3,4,5,6,7,8,9,10,11],[11])])
def norm_CmpSentry.B1:List Nat:=[0,1,0,4,15,0,32,0,128,511,1023,2047,4095]
theorem norm_CmpSentry.tab1:rtab .any (opsOf Tryz.f32 1)=norm_CmpSentry.T1:=by kernel_rfl
theorem norm_CmpSentry.bits1:waitsOk norm_CmpSentry.T1.2 norm_CmpSentry.B1=true:=by kernel_rfl
theorem norm_CmpSentry.calls(k:Nat)(A0_0:Option Addr)(c0_0:Nat)(l0_0:List (S78))(A0_1:Option Addr)(c0_1:Nat)(l0_1:List (S93))(A1_0:Option Addr)(c1_0:Nat)(l1_0:List (S78))(A1_1:Option Addr)(c1_1:Nat)(l1_1:List (S93))(r:Int)(w:World)(hr0_0:Kd.C k78 w A0_0 l0_0.length l0_0)(hc0_0:l0_0.length≤c0_0)(hr0_1:Kd.C k93 w A0_1 l0_1.length l0_1)(hc0_1:l0_1.length≤c0_1)(hr1_0:Kd.C k78 w A1_0 l1_0.length l1_0)(hc1_0:l1_0.length≤c1_0)(hr1_1:Kd.C k93 w A1_1 l1_1.length l1_1)(hc1_1:l1_1.length≤c1_1)(h:norm_CmpSentry.f k l0_0 l0_1 l1_0 l1_1=some r) :
  Calls Tryz.prog 32 #[.agg #[.slice A0_0 l0_0.length c0_0,.slice A0_1 l0_1.length c0_1],.agg #[.slice A1_0 l1_0.length c1_0,.slice A1_1 l1_1.length c1_1]] w fun e w'=>e = .returned (.int .i64 r)∧Below w.heap.size w w':=by
 have hu29:=Tryz.underlying29;have HR0_0:=am hr0_0;have HC0_0:=am hc0_0;clear hr0_0 hc0_0;have HR0_1:=am hr0_1;have HC0_1:=am hc0_1;clear hr0_1 hc0_1;have HR1_0:=am hr1_0;have HC1_0:=am hc1_0;clear hr1_0 hc1_0;have HR1_1:=am hr1_1;have HC1_1:=am hc1_1;clear hr1_1 hc1_1;have HB:=am (Below.refl w.heap.size w);have H:((slices_CompareFunc_cmpOn.f k l0_0 l1_0).bind fun t103=>((slices_CompareFunc_cmpIf.f k l0_1 l1_1).bind fun t104=>((cmp_Or_int.f k (([t103,t104]:List Int))).bind fun t108=>(some t108))))=some r:=h;clear h;replace H:=Qe H;obtain⟨t103,A30,H⟩:=H;have A3:=am A30;clear A30;replace H:=Qe H;obtain⟨t104,A40,H⟩:=H;have A4:=am A40;clear A40;obtain⟨y105,hy105⟩:∃ y_:List Int,y_=(([t103,t104]:List Int)):=⟨_,rfl⟩;replace H:((cmp_Or_int.f k y105).bind fun t108=>(some t108))=some r:=by first|(rw [hy105];with_reducible exact H)|(have H2_:=(Option.bind_some _ _).symm.trans H;rw [hy105];with_reducible exact H2_)|(have H2_:=(Option.bind_some _ _).symm.trans H;with_reducible exact H2_)|with_reducible exact H|(rw [hy105];exact H)|exact H
 have Ny105:=am hy105;clear hy105;replace H:=Qe H;obtain⟨t108,A50,H⟩:=H;have A5:=am A50;clear A50;obtain rfl:=Qd H;go_enter Tryz.func32,Tryz.ntmps32;try go_wp2_with (first|((with_reducible refine gd_ 2 ?_);refine bx_ 2 #[.slice A0_0 l0_0.length c0_0,.slice A0_1 l0_1.length c0_1] 29 ?_;intro gb101 hg w6 hbox hb;have BK101:=am (hbox);have GE101:=am (zg:w.heap.size≤gb101);replace HB:=am (below_step (zb) hb);clear hb hbox hg)|((with_reducible refine gd_ 3 ?_);refine bx_ 3 #[.slice A1_0 l1_0.length c1_0,.slice A1_1 l1_1.length c1_1] 29 ?_;intro gb102 hg w7 hbox hb;have BK102:=am (hbox);have GE102:=am (zg:w.heap.size≤gb102);replace HB:=am (below_step (zb) hb);replace BK101:=am (zw BK101.out hb);clear hb hbox hg))
 replace BK101:=am (blk_drew BK101.out);replace BK102:=am (blk_drew BK102.out);replace HB:=am (below_drew1 HB.out);refine start_ (n:=13) (S:=fun w'=>w'.cell? ⟨gb101,0,none⟩=some (.slice A0_0 l0_0.length c0_0)∧w'.cell? ⟨gb101,1,none⟩=some (.slice A0_1 l0_1.length c0_1)∧w'.cell? ⟨gb102,0,none⟩=some (.slice A1_0 l1_0.length c1_0)∧w'.cell? ⟨gb102,1,none⟩=some (.slice A1_1 l1_1.length c1_1)) (ds:=[]) #[false,false,false,false,false,false,false,false,false,false,false,false,false] (by kernel_rfl) rfl rfl ⟨bc BK101 0,bc BK101 1,bc BK102 0,bc BK102 1⟩ (fun hHeld=>?_);refine with_tabW norm_CmpSentry.tab1 norm_CmpSentry.bits1 (fun HT_ HW_=>?_);generalize w7.drew=w8 at BK101 BK102 HB hHeld ⊢;refine pz_ 0 5 13 1 ?_;refine pz_ 2 7 13 5 ?_;refine pz_ 5 10 13 37 ?_;refine pz_ 7 12 13 165 ?_;refine tz_ 1 6 13 167 ?_;refine tz_ 3 8 13 175 ?_;refine tz_ 6 11 13 239 ?_;refine tz_ 8 13 13 495 ?_;refine oz_ 4 9 13 511 (fun K hK=>?_);refine goes_ Tryz.func65 (by kernel_rfl) rfl #[.slice A0_0 l0_0.length c0_0,.slice A1_0 l1_0.length c1_0,(.func (.func 66) #[] #[])] (by rfl) rfl rfl (za) ?_;with_reducible refine (slices_CompareFunc_cmpOn.calls k _ _ l0_0 _ _ l1_0 t103 _ ?side1 ?side2 ?side3 ?side4 A3.out).mono ?_
 (case side1=>exact zc (Kd.C_below HR0_0.out HB.out))
 (case side2=>exact HC0_0.out)
 (case side3=>exact zc (Kd.C_below HR1_0.out HB.out))
 (case side4=>exact HC1_0.out)
 rintro e w9 ⟨rfl,hb⟩;refine⟨_,rfl,?_⟩;replace BK101:=am (zw BK101.out hb);replace BK102:=am (zw BK102.out hb);replace HB:=am (below_step (zb) hb)
 (try clear hb)
 (try clear hb2)
 (try clear hk)
 (try clear hi)
 refine hK.out _ _ ⟨bc BK101 0,bc BK101 1,bc BK102 0,bc BK102 1⟩ (fun hHeld=>?_);clear hK K;refine nz_ 9 ?_;refine oz_ 9 14 13 1023 (fun K hK=>?_);refine goes_ Tryz.func67 (by kernel_rfl) rfl #[.slice A0_1 l0_1.length c0_1,.slice A1_1 l1_1.length c1_1,(.func (.func 68) #[] #[])] (by rfl) rfl rfl (za) ?_;with_reducible refine (slices_CompareFunc_cmpIf.calls k _ _ l0_1 _ _ l1_1 t104 _ ?side1 ?side2 ?side3 ?side4 A4.out).mono ?_
 (case side1=>exact zc (Kd.C_below HR0_1.out HB.out))
 (case side2=>exact HC0_1.out)
 (case side3=>exact zc (Kd.C_below HR1_1.out HB.out))
 (case side4=>exact HC1_1.out)
 rintro e w10 ⟨rfl,hb⟩;refine⟨_,rfl,?_⟩;replace BK101:=am (zw BK101.out hb);replace BK102:=am (zw BK102.out hb);replace HB:=am (below_step (zb) hb)
 (try clear hb)
 (try clear hb2)
 (try clear hk)
 (try clear hi)
 refine hK.out _ _ ⟨bc BK101 0,bc BK101 1,bc BK102 0,bc BK102 1⟩ (fun hHeld=>?_);clear hK K;refine nz_ 14 ?_;refine oz_ 10 15 13 2047 (fun K hK=>?_);refine Kd.R_lit_step (Kd.int .i64) _ 3 ?hg (N:=15) ?hd (xs:=([t103,t104]:List Int)) (inner:=[.int .i64 t103,.int .i64 t104]) (ok:=fun _=>True) (okp:=fun _=>True) ?hr ?hp (fun _ hk=>hk) trivial (Below.refl _ _) (Nat.le_refl _) (by simp) ?_;(case hd=>rfl);(case hg=>rfl);(case hr=>first|(go_simp;done)|(go_simp;rfl));(case hp=>exact (Reps.one (show Kd.M (Kd.int .i64) _ _ _ t103 [.int .i64 t103] from rfl) (Reps.one (show Kd.M (Kd.int .i64) _ _ _ t104 [.int .i64 t104] from rfl) (Reps.none _ _))));intro v106 w11 ho12 hb hg_ hnew_;clear hg_ hnew_
 (first|rw [← Ny105.out] at ho12|(simp only [Int.reduceToNat] at ho12;rw [← Ny105.out] at ho12))
 have HO107:=am (Kd.R_lower ho12 (below_size (zb)));replace BK101:=am (zw BK101.out hb);replace BK102:=am (zw BK102.out hb);replace HB:=am (below_step (zb) hb);clear hb ho12;obtain⟨Ao13,co13,eo13⟩:=Kd.R_slice HO107.out
 (first|subst eo13|(injection eo13 with f1_ f2_ f3_;have f4_:=f1_.symm;have f5_:=f3_.symm;clear f1_ f2_ f3_;subst f4_;subst f5_))
 refine hK.out _ _ ⟨bc BK101 0,bc BK101 1,bc BK102 0,bc BK102 1⟩ (fun hHeld=>?_);clear hK K;refine nz_ 15 ?_;refine oz_ 11 16 13 4095 (fun K hK=>?_);refine goes_ Tryz.func64 (by kernel_rfl) rfl #[.slice Ao13 y105.length co13] (by rfl) rfl rfl (za) ?_;with_reducible refine (cmp_Or_int.calls k _ _ y105 t108 _ ?side1 ?side2 A5.out).mono ?_
 (case side1=>exact zc (Kd.R_reads' HO107.out).2.2)
 (case side2=>exact (Kd.R_reads' HO107.out).2.1)
 rintro e w' ⟨rfl,⟨nd,rfl⟩⟩;refine⟨_,rfl,?_⟩;refine hK.out _ _ ⟨bc BK101 0,bc BK101 1,bc BK102 0,bc BK102 1⟩ (fun hHeld=>?_);clear hK K;refine nz_ 16 ?_;refine pz_ 12 4 13 8191 ?_;refine done_ (done_of HT_.out (by kernel_rfl)) ?_;try go_wp2
 go_ret;exact⟨zf,zb⟩
end Go.Proofs.YtpbembafpnknhaaGreat.PrD
namespace Go.Proofs.YtpbembafpnknhaaGreat.Pr
open Go.RowKit Sn Go.Proofs.YtpbembafpnknhaaGreatW.PrintWords
theorem bs_inj{a b:ByteArray}(h:a.toList=b.toList):a=b:=by
  rw [ByteArray.toList_eq,ByteArray.toList_eq] at h;exact ByteArray.ext (Array.ext' h)
def cmpS(a b:ByteArray):Int:=cmpBs a.toList b.toList
def cmpOn(a b:S78):Int:=orC (cmpS a.f0 b.f0) (cmpInt a.f1 b.f1)
def cmpIf(a b:S93):Int:=orC (cmpS a.f0 b.f0) (orC (cmpS a.f1 b.f1) (cmpInt a.f2 b.f2))
def cmpSe(a b:S29):Int:=orC (cmpList cmpOn a.f0 b.f0) (cmpList cmpIf a.f1 b.f1)
theorem isCmp_s:IsCmp cmpS where
  rng a b:=isCmp_bs.rng _ _
  anti a b:=isCmp_bs.anti _ _
  eq0 a b:=by rw [cmpS,isCmp_bs.eq0];exact⟨bs_inj,fun h=>by rw [h]⟩
  tr a b d:=isCmp_bs.tr _ _ _
theorem isCmp_on:IsCmp cmpOn:=isCmp_s.lex isCmp_int S78.f0 S78.f1 (fun a b h1 h2=>by cases a;cases b;simp_all)
theorem isCmp_if:IsCmp cmpIf:=by
  have h:=isCmp_s.lex isCmp_int (α:=ByteArray × Int) Prod.fst Prod.snd (fun a b h1 h2=>Prod.ext h1 h2);have h2:=isCmp_s.lex h S93.f0 (fun x=>(x.f1,x.f2)) (fun a b h1 h2=>by cases a;cases b;simp_all);exact h2
theorem isCmp_se:IsCmp cmpSe:=isCmp_on.list.lex isCmp_if.list S29.f0 S29.f1 (fun a b h1 h2=>by cases a;cases b;simp_all)
theorem less_cmp(a b:List UInt8):(if (Op.bytesLess a b)=true then (some (-1)) else (if (Op.bytesLess b a)=true then (some 1) else (some 0)))=some (cmpBs a b):=by
  rw [bytesLess_eq,bytesLess_eq];unfold cmpBs;by_cases h1:a<b
  · simp [h1]
  by_cases h2:b<a <;> simp [h1,h2]
theorem compare_s(a b:ByteArray):cmp_Compare_string.f a b=some (cmpS a b):=by
  unfold cmp_Compare_string.f cmp_isNaN_string.f;simp only [Option.bind_some,bne_self_eq_false,Bool.false_eq_true,if_false];exact less_cmp _ _
theorem compare_i(a b:Int):cmp_Compare_int.f a b=some (cmpInt a b):=by
  unfold cmp_Compare_int.f cmp_isNaN_int.f cmpInt;simp only [Option.bind_some,bne_self_eq_false,Bool.false_eq_true,if_false];by_cases h1:a<b
  · simp [h1]
  by_cases h2:b<a
  · simp [h1,h2]
  simp [h1,h2]
theorem or2(k:Nat)(a b:Int):cmp_Or_int.f (k+3) [a,b]=some (orC a b):=by
  unfold cmp_Or_int.f orC;by_cases h1:a=0 <;> by_cases h2:b=0 <;> simp [cmp_Or_int.l0,rd,h1,h2,wrap64]
theorem or3(k:Nat)(a b c:Int):cmp_Or_int.f (k+4) [a,b,c]=some (orC a (orC b c)):=by
  unfold cmp_Or_int.f orC;by_cases h1:a=0 <;> by_cases h2:b=0 <;> by_cases h3:c=0 <;> simp [cmp_Or_int.l0,rd,h1,h2,h3,wrap64]
end Go.Proofs.YtpbembafpnknhaaGreat.Pr
namespace Go.Proofs.YtpbembafpnknhaaGreat.PrD
open Go.RowKit Sn Go.Proofs.YtpbembafpnknhaaGreatW.PrintWords Go.Proofs.YtpbembafpnknhaaGreat.Pr
theorem cmpOn_f(k:Nat)(x y:S78):norm_cmpOn.f (k+3) x.f0 x.f1 y.f0 y.f1=some (cmpOn x y):=by
  unfold norm_cmpOn.f;rw [compare_s,compare_i];simp only [Option.bind_some];rw [or2];rfl
theorem cmpIf_f(k:Nat)(x y:S93):norm_cmpIf.f (k+4) x.f0 x.f1 x.f2 y.f0 y.f1 y.f2=some (cmpIf x y):=by
  unfold norm_cmpIf.f;rw [compare_s,compare_s,compare_i];simp only [Option.bind_some];rw [or3];rfl
theorem compareOn_l(xs ys : List S78)(hx : xs.length ≤ 9223372036854775807) : ∀ (d k i : Nat), xs.length - i = d → i ≤ xs.length → d + 5 ≤ k → slices_CompareFunc_cmpOn.l0 k xs ys xs (xs.length : Int) (i : Int) = some (if i ≤ ys.length then cmpList cmpOn (xs.drop i) (ys.drop i) else 1) ∨ ys.length < i := by
  intro d
  induction d with
  | zero =>
    intro k i hd hi hk;by_cases hy:ys.length<i
    · exact .inr hy
    left
    obtain⟨k,rfl⟩:∃ m,k=m+1:=⟨k - 1,by omega⟩;have e1:i=xs.length:=by omega
    subst e1;rw [if_pos (by omega)];simp only [slices_CompareFunc_cmpOn.l0];rw [if_neg (by omega),List.drop_length];by_cases h:xs.length<ys.length
    · rw [if_pos (by omega), List.drop_eq_getElem_cons h]
      rfl
    rw [if_neg (by omega),List.drop_eq_nil_of_le (by omega)]
    rfl
  | succ d ih =>
    intro k i hd hi hk;by_cases hy:ys.length<i
    · exact .inr hy
    left
    obtain⟨k,rfl⟩:∃ m,k=m+1:=⟨k - 1,by omega⟩;have hlt:i<xs.length:=by omega
    rw [if_pos (by omega)];simp only [slices_CompareFunc_cmpOn.l0];obtain⟨k,rfl⟩:∃ m,k=m+3:=⟨k - 3,by omega⟩;rw [if_pos (by omega),if_pos (by omega),if_pos (by omega),List.drop_eq_getElem_cons hlt];by_cases h:i<ys.length
    · rw [if_neg (by omega), if_pos (by omega), List.drop_eq_getElem_cons h]
      have e1:rd_T78 xs (i:Int)=xs[i]:=by simp [rd_T78,List.getD_eq_getElem?_getD,hlt]
      have e2:rd_T78 ys (i:Int)=ys[i]:=by simp [rd_T78,List.getD_eq_getElem?_getD,h]
      rw [e1,e2,cmpOn_f];simp only [Option.bind_some];unfold cmpList;by_cases hc:cmpOn xs[i] ys[i]=0
      · rw [if_pos hc, if_neg (by simp [hc])]
        have ew:wrap64 ((i:Int)+1)=((i+1:Nat):Int):=by unfold wrap64;omega
        rw [ew];rcases ih (k+3) (i+1) (by omega) (by omega) (by omega) with h1|h1
        · rw [h1,if_pos (by omega)]
        omega
      rw [if_neg hc,if_pos hc]
    have e3:ys.drop i=[]:=List.drop_eq_nil_of_le (by omega);rw [if_pos (by omega),e3];rfl
theorem compareOn_f(k:Nat)(xs ys:List S78)(hx:xs.length≤9223372036854775807)(hk:xs.length+5≤k):slices_CompareFunc_cmpOn.f k xs ys=some (cmpList cmpOn xs ys):=by
  unfold slices_CompareFunc_cmpOn.f;rcases compareOn_l xs ys hx xs.length k 0 (by omega) (by omega) hk with h|h
  · rw [if_pos (by omega)] at h
    exact h
  omega
theorem compareIf_l(xs ys : List S93)(hx : xs.length ≤ 9223372036854775807) : ∀ (d k i : Nat), xs.length - i = d → i ≤ xs.length → d + 6 ≤ k → slices_CompareFunc_cmpIf.l0 k xs ys xs (xs.length : Int) (i : Int) = some (if i ≤ ys.length then cmpList cmpIf (xs.drop i) (ys.drop i) else 1) ∨ ys.length < i := by
  intro d
  induction d with
  | zero =>
    intro k i hd hi hk;by_cases hy:ys.length<i
    · exact .inr hy
    left
    obtain⟨k,rfl⟩:∃ m,k=m+1:=⟨k - 1,by omega⟩;have e1:i=xs.length:=by omega
    subst e1;rw [if_pos (by omega)];simp only [slices_CompareFunc_cmpIf.l0];rw [if_neg (by omega),List.drop_length];by_cases h:xs.length<ys.length
    · rw [if_pos (by omega), List.drop_eq_getElem_cons h]
      rfl
    rw [if_neg (by omega),List.drop_eq_nil_of_le (by omega)]
    rfl
  | succ d ih =>
    intro k i hd hi hk;by_cases hy:ys.length<i
    · exact .inr hy
    left
    obtain⟨k,rfl⟩:∃ m,k=m+1:=⟨k - 1,by omega⟩;have hlt:i<xs.length:=by omega
    rw [if_pos (by omega)];simp only [slices_CompareFunc_cmpIf.l0];obtain⟨k,rfl⟩:∃ m,k=m+4:=⟨k - 4,by omega⟩;rw [if_pos (by omega),if_pos (by omega),if_pos (by omega),List.drop_eq_getElem_cons hlt];by_cases h:i<ys.length
    · rw [if_neg (by omega), if_pos (by omega), List.drop_eq_getElem_cons h]
      have e1:rd_T93 xs (i:Int)=xs[i]:=by simp [rd_T93,List.getD_eq_getElem?_getD,hlt]
      have e2:rd_T93 ys (i:Int)=ys[i]:=by simp [rd_T93,List.getD_eq_getElem?_getD,h]
      rw [e1,e2,cmpIf_f];simp only [Option.bind_some];unfold cmpList;by_cases hc:cmpIf xs[i] ys[i]=0
      · rw [if_pos hc, if_neg (by simp [hc])]
        have ew:wrap64 ((i:Int)+1)=((i+1:Nat):Int):=by unfold wrap64;omega
        rw [ew];rcases ih (k+4) (i+1) (by omega) (by omega) (by omega) with h1|h1
        · rw [h1,if_pos (by omega)]
        omega
      rw [if_neg hc,if_pos hc]
    have e3:ys.drop i=[]:=List.drop_eq_nil_of_le (by omega);rw [if_pos (by omega),e3];rfl
theorem compareIf_f(k:Nat)(xs ys:List S93)(hx:xs.length≤9223372036854775807)(hk:xs.length+6≤k):slices_CompareFunc_cmpIf.f k xs ys=some (cmpList cmpIf xs ys):=by
  unfold slices_CompareFunc_cmpIf.f;rcases compareIf_l xs ys hx xs.length k 0 (by omega) (by omega) hk with h|h
  · rw [if_pos (by omega)] at h
    exact h
  omega
theorem cmpSe_f(k:Nat)(x y:S29)(h0:x.f0.length≤9223372036854775807)(h1:x.f1.length≤9223372036854775807)(hk:x.f0.length+x.f1.length+9≤k):norm_CmpSentry.f k x.f0 x.f1 y.f0 y.f1=some (cmpSe x y):=by
  unfold norm_CmpSentry.f;rw [compareOn_f k _ _ h0 (by omega),compareIf_f k _ _ h1 (by omega)];simp only [Option.bind_some];obtain⟨k,rfl⟩:∃ m,k=m+3:=⟨k - 3,by omega⟩;rw [or2];rfl
end Go.Proofs.YtpbembafpnknhaaGreat.PrD
namespace Sn
section
variable{I κ : Type}[DecidableEq κ](id par : I → κ)
def kidsOf(l:List I)(s:κ):List I:=l.filter fun y=>par y=s
def pre(ord:List I→List I)(f:I→I)(l:List I):Nat→I→List I
  | 0, _ => []
  | k+1,x=>f x::(ord (kidsOf par l (id x))).flatMap (pre ord f l k)
def Anc(l:List I)(a:I):I→Nat→Prop
  | y, 0 => y = a
  | y,n+1 => ∃ p,p ∈ l∧id p=par y∧Anc l a p n
structure Rooted (l:List I) (r:I):Prop where
  nodup:(l.map id).Nodup
  mem:r ∈ l
  top:∀ p ∈ l,id p≠par r
variable{id par}{l : List I}{r : I}
omit [DecidableEq κ] in
theorem id_inj(h:(l.map id).Nodup){a b:I}(ha:a ∈ l)(hb:b ∈ l)(he:id a=id b):a=b:=by
  induction l with
  | nil => cases ha
  | cons x t ih =>
    rw [List.map_cons,List.nodup_cons] at h;have hm:∀ z,z ∈ t→id z≠id x:=fun z hz e=>h.1 (e ▸ List.mem_map_of_mem (f:=id) hz)
    rcases List.mem_cons.1 ha with h1|h1 <;> rcases List.mem_cons.1 hb with h2|h2
    · rw [h1,h2]
    · subst h1;exact absurd he.symm (hm b h2)
    · subst h2;exact absurd he (hm a h1)
    exact ih h.2 h1 h2
theorem nodup_of_map{α β:Type}{g:α→β}{l:List α}(h:(l.map g).Nodup):l.Nodup:=by
  unfold List.Nodup at h ⊢;rw [List.pairwise_map] at h;exact h.imp (fun hne e=>hne (by rw [e]))
theorem nodup_flatMap'{α β:Type}{g:α→List β}:∀ {l:List α},(∀ a ∈ l,(g a).Nodup)→(l.Pairwise fun a b => ∀ x,x ∈ g a→x ∉ g b)→(l.flatMap g).Nodup
  | [], _, _ => by simp
  | a :: t, h, hp => by
    rw [List.pairwise_cons] at hp;rw [List.flatMap_cons,List.nodup_append];refine⟨h a List.mem_cons_self,nodup_flatMap' (fun b hb=>h b (List.mem_cons_of_mem _ hb)) hp.2,?_⟩;rintro x hx y hy rfl;obtain⟨b,hb,hy⟩:=List.mem_flatMap.1 hy;exact hp.1 b hb x hx hy
omit [DecidableEq κ] in
theorem Anc.inj(h:(l.map id).Nodup){a b:I}:∀ {n:Nat} {y:I},Anc id par l a y n→Anc id par l b y n→a=b
  | 0, y, ha, hb => ha.symm.trans hb
  | n + 1, y, ⟨p, hp, e, ha⟩, ⟨q, hq, e2, hb⟩ => by
    have:p=q:=id_inj h hp hq (e.trans e2.symm);subst this;exact Anc.inj h ha hb
omit [DecidableEq κ] in
theorem Anc.trans{a b:I}:∀ {m:Nat} {y:I} {n:Nat},Anc id par l b y m→Anc id par l a b n→Anc id par l a y (m+n)
  | 0, y, n, h, h2 => by
    have:y=b:=h;subst this
    rw [Nat.zero_add]; exact h2
  | m + 1, y, n, ⟨p, hp, e, h⟩, h2 => by
    rw [Nat.add_right_comm];exact⟨p,hp,e,Anc.trans h h2⟩
omit [DecidableEq κ] in
theorem Rooted.level(h:Rooted id par l r):∀ {n m:Nat} {y:I},Anc id par l r y n→Anc id par l r y m→n=m
  | 0, 0, _, _, _ => rfl
  | 0, m + 1, y, h0, ⟨p, hp, e, _⟩ => by
    have:y=r:=h0;subst this
    exact absurd e (h.top p hp)
  | n + 1, 0, y, ⟨p, hp, e, _⟩, h0 => by
    have:y=r:=h0;subst this
    exact absurd e (h.top p hp)
  | n + 1, m + 1, y, ⟨p, hp, e, h1⟩, ⟨q, hq, e2, h2⟩ => by
    have:p=q:=id_inj h.nodup hp hq (e.trans e2.symm);subst this;rw [h.level h1 h2]
theorem mem_kidsOf{s:κ}{y:I}:y ∈ kidsOf par l s↔y ∈ l∧par y=s:=by simp [kidsOf]
def IsOrd(ord:List I→List I):Prop:=∀ k:List I,(ord k).Perm k
section
variable{ord : List I → List I}(ho : IsOrd ord){f : I → I}
include ho
theorem mem_ord{k:List I}{y:I}:y ∈ ord k↔y ∈ k:=(ho k).mem_iff
theorem mem_pre{z : I} : ∀ {k : Nat} {x : I}, x ∈ l → (z ∈ pre id par ord f l k x ↔ ∃ y n, z = f y ∧ y ∈ l ∧ n < k ∧ Anc id par l x y n)
  | 0, x, _ => by simp [pre]
  | k + 1, x, hx => by
    unfold pre;rw [List.mem_cons,List.mem_flatMap];constructor
    · rintro (rfl | ⟨c, hc, hz⟩)
      · exact ⟨x,0,rfl,hx,by omega,rfl⟩
      rw [mem_ord ho,mem_kidsOf] at hc;obtain⟨y,n,rfl,hy,hn,ha⟩:=(mem_pre hc.1).1 hz;exact⟨y,n+1,rfl,hy,by omega,ha.trans (n:=1) ⟨x,hx,hc.2.symm,rfl⟩⟩
    rintro ⟨y,n,rfl,hy,hn,ha⟩
    -- the chain's last step but one
    have key:∀ (n:Nat) (y:I),y ∈ l→Anc id par l x y (n+1)→∃ c,c ∈ l∧par c=id x∧Anc id par l c y n:=by
      intro n
      induction n with
      | zero =>
        rintro y hy ⟨p,hp,e,h0⟩;have:p=x:=h0;subst this
        exact ⟨y, hy, e.symm, rfl⟩
      | succ n ih =>
        rintro y hy ⟨p,hp,e,h0⟩;obtain⟨c,hc,e2,h1⟩:=ih p hp h0;exact⟨c,hc,e2,p,hp,e,h1⟩
    cases n with
    | zero =>
      have:y=x:=ha;subst this
      exact .inl rfl
    | succ n =>
      obtain⟨c,hc,e,h1⟩:=key n y hy ha;exact .inr ⟨c,(mem_ord ho).2 (mem_kidsOf.2 ⟨hc,e⟩),(mem_pre hc).2 ⟨y,n,rfl,hy,by omega,h1⟩⟩
theorem pre_nodup(hf:∀ x,id (f x)=id x)(h:Rooted id par l r):∀ {k:Nat} {x:I} {d:Nat},x ∈ l→Anc id par l r x d→((pre id par ord f l k x).map id).Nodup
  | 0, _, _, _, _ => by simp [pre]
  | k + 1, x, d, hx, hd => by
    unfold pre;rw [List.map_cons,List.nodup_cons,List.map_flatMap];have hkid:∀ c,c ∈ ord (kidsOf par l (id x))→c ∈ l∧Anc id par l r c (d+1):=by
      intro c hc;rw [mem_ord ho,mem_kidsOf] at hc;refine⟨hc.1,?_⟩;rw [Nat.add_comm];exact Anc.trans (m:=1) ⟨x,hx,hc.2.symm,rfl⟩ hd
    have hin:∀ c,c ∈ ord (kidsOf par l (id x))→∀ s,s ∈ (pre id par ord f l k c).map id→∃ y n,id y=s∧y ∈ l∧Anc id par l c y n∧Anc id par l r y (n+(d+1)):=by
      intro c hc s hs;obtain⟨z,hz,rfl⟩:=List.mem_map.1 hs;obtain⟨y,n,rfl,hy,_,ha⟩:=(mem_pre ho (hkid c hc).1).1 hz;exact⟨y,n,(hf y).symm,hy,ha,ha.trans (hkid c hc).2⟩
    refine⟨fun hm=>?_,?_⟩
    · rw [List.mem_flatMap] at hm
      obtain⟨c,hc,hs⟩:=hm;obtain⟨y,n,e,hy,_,hl⟩:=hin c hc _ hs;have:y=x:=id_inj h.nodup hy hx (e.trans (hf x));subst this;have:=h.level hd hl;omega
    refine nodup_flatMap' (fun c hc=>pre_nodup hf h (hkid c hc).1 (hkid c hc).2) ?_;have hnd:(ord (kidsOf par l (id x))).Nodup:=by
      rw [(ho _).nodup_iff];exact List.Pairwise.filter _ (nodup_of_map h.nodup)
    refine(List.Pairwise.and_mem.1 hnd).imp ?_;rintro a b ⟨ha,hb,hne⟩;intro s hsa hsb;obtain⟨y,n,e,hy,han,hl⟩:=hin a ha s hsa;obtain⟨y2,m,e2,hy2,ham,hl2⟩:=hin b hb s hsb;have:y=y2:=id_inj h.nodup hy hy2 (e.trans e2.symm);subst this;have hnm:=h.level hl hl2;have:n=m:=by omega
    subst this;exact hne (Anc.inj h.nodup han ham)
end
end
section
variable{I κ : Type}[DecidableEq κ]{id par : I → κ}{l : List I}{r : I}
theorem flatMap_one{α β : Type}{g : α → List β}{a : α} : ∀ {L : List α}, L.Nodup → a ∈ L → (∀ b ∈ L, b ≠ a → g b = []) → L.flatMap g = g a
  | [], _, h, _ => by cases h
  | b :: t, hn, h, hz => by
    rw [List.nodup_cons] at hn;rw [List.flatMap_cons];by_cases e:b=a
    · subst e
      have:t.flatMap g=[]:=by
        rw [List.flatMap_eq_nil_iff];exact fun c hc=>hz c (List.mem_cons_of_mem _ hc) (fun e=>hn.1 (e ▸ hc))
      rw [this,List.append_nil]
    rw [hz b List.mem_cons_self e,List.nil_append];have hat:a ∈ t:=by
      rcases List.mem_cons.1 h with h|h
      · exact absurd h.symm e
      exact h
    exact flatMap_one hn.2 hat (fun c hc=>hz c (List.mem_cons_of_mem _ hc))
theorem flatMap_congr'{α β:Type}{g g':α→List β}:∀ {L:List α},(∀ a ∈ L,g a=g' a)→L.flatMap g=L.flatMap g'
  | [], _ => rfl
  | a :: t, h => by
    rw [List.flatMap_cons,List.flatMap_cons,h a List.mem_cons_self,flatMap_congr' (fun b hb=>h b (List.mem_cons_of_mem _ hb))]
theorem flatMap_singles{α β:Type}{g:α→List β}{f:α→β}:∀ {L:List α},(∀ a ∈ L,g a=[f a])→L.flatMap g=L.map f
  | [], _ => rfl
  | a :: t, h => by
    rw [List.flatMap_cons,h a List.mem_cons_self,flatMap_singles (fun b hb=>h b (List.mem_cons_of_mem _ hb))];rfl
theorem kidsOf_nil{s:κ}{L:List I}(h:∀ z ∈ L,par z≠s):kidsOf par L s=[]:=by
  unfold kidsOf;rw [List.filter_eq_nil_iff];exact fun z hz=>by simpa using h z hz
omit [DecidableEq κ] in
theorem Rooted.depth(h : Rooted id par l r) : ∀ {n : Nat} {y : I}, y ∈ l → Anc id par l r y n → n < l.length := by
  have key:∀ (n:Nat) (y:I),y ∈ l→Anc id par l r y n→∃ c:List I,c.length=n+1∧c.Nodup∧∀ z ∈ c,z ∈ l∧∃ m,m≤n∧Anc id par l r z m:=by
    intro n
    induction n with
    | zero => exact fun y hy ha => ⟨[y], rfl, by simp, fun z hz => by rw [List.mem_singleton.1 hz]; exact ⟨hy, 0, Nat.le_refl _, ha⟩⟩
    | succ n ih =>
      rintro y hy ⟨p,hp,e,ha⟩;obtain⟨c,hl,hn,hc⟩:=ih p hp ha;refine⟨y::c,by simp [hl],List.nodup_cons.2 ⟨fun hm=>?_,hn⟩,fun z hz=>?_⟩
      · obtain ⟨_, m, hm, h2⟩ := hc y hm
        have:=h.level h2 (show Anc id par l r y (n+1) from ⟨p,hp,e,ha⟩);omega
      rcases List.mem_cons.1 hz with rfl|hz
      · exact ⟨hy,n+1,Nat.le_refl _,p,hp,e,ha⟩
      obtain⟨h1,m,hm,h2⟩:=hc z hz;exact⟨h1,m,by omega,h2⟩
  intro n y hy ha;obtain⟨c,hl,hn,hc⟩:=key n y hy ha;have:=hn.length_le_of_subset (fun z hz=>(hc z hz).1);omega
section
variable{ord : List I → List I}(ho : IsOrd ord){f : I → I}(hf : ∀ x, id (f x) = id x)(hp : ∀ x, par (f x) = par x)
include ho hf hp
omit hf in
theorem kidsOf_pre(h : Rooted id par l r) : ∀ {n k d : Nat} {x y : I}, x ∈ l → y ∈ l → Anc id par l r x d → Anc id par l x y n → n + 1 < k → kidsOf par (pre id par ord f l k x) (id y) = (ord (kidsOf par l (id y))).map f
  | n, 0, _, _, _, _, _, _, _, hk => by omega
  | n, k + 1, d, x, y, hx, hy, hd, ha, hk => by
    have hkid:∀ c,c ∈ ord (kidsOf par l (id x))→c ∈ l∧par c=id x∧Anc id par l r c (d+1):=by
      intro c hc;rw [mem_ord ho,mem_kidsOf] at hc;refine⟨hc.1,hc.2,?_⟩;rw [Nat.add_comm];exact Anc.trans (m:=1) ⟨x,hx,hc.2.symm,rfl⟩ hd
    -- who stands below a kid,and right in y
    have hbelow:∀ c,c ∈ ord (kidsOf par l (id x))→∀ z,z ∈ pre id par ord f l k c→par z=id y→∃ w m,z=f w∧w ∈ l∧par w=id y∧Anc id par l c w m∧m+(d+1)=d+n+1:=by
      intro c hc z hz e;obtain⟨w,m,rfl,hw,_,hm⟩:=(mem_pre ho (hkid c hc).1).1 hz;rw [hp] at e;refine⟨w,m,rfl,hw,e,hm,?_⟩;have h1:=hm.trans (hkid c hc).2.2;have h2:Anc id par l r w (n+d+1):=⟨y,hy,e.symm,ha.trans hd⟩;have:=h.level h1 h2;omega
    have hfx:kidsOf par (f x::(ord (kidsOf par l (id x))).flatMap (pre id par ord f l k)) (id y)=kidsOf par ((ord (kidsOf par l (id x))).flatMap (pre id par ord f l k)) (id y):=by
      unfold kidsOf;rw [List.filter_cons,if_neg];simp only [decide_eq_true_eq,hp];intro e;have h2:Anc id par l r x (n+d+1):=⟨y,hy,e.symm,ha.trans hd⟩;have:=h.level hd h2;omega
    have hfm:kidsOf par ((ord (kidsOf par l (id x))).flatMap (pre id par ord f l k)) (id y)=(ord (kidsOf par l (id x))).flatMap (fun c=>kidsOf par (pre id par ord f l k c) (id y)):=by
      unfold kidsOf;exact List.filter_flatMap
    have hnd:(ord (kidsOf par l (id x))).Nodup:=by
      rw [(ho _).nodup_iff];exact List.Pairwise.filter _ (nodup_of_map h.nodup)
    unfold pre;rw [hfx,hfm]
    cases n with
    | zero =>
      have:y=x:=ha;subst this;refine flatMap_singles (fun c hc=>?_);obtain⟨k,rfl⟩:∃ m,k=m+1:=⟨k - 1,by omega⟩;unfold pre;have hc1:∀ L:List I,kidsOf par (f c::L) (id y)=f c::kidsOf par L (id y):=fun L=>by
        unfold kidsOf;rw [List.filter_cons,if_pos (by simp [hp,(hkid c hc).2.1])]
      rw [hc1]
      congr 1
      refine kidsOf_nil (fun z hz e=>?_);obtain⟨b,hb,hzb⟩:=List.mem_flatMap.1 hz;rw [mem_ord ho,mem_kidsOf] at hb;obtain⟨w,m,rfl,hw,_,hm⟩:=(mem_pre ho hb.1).1 hzb;rw [hp] at e;have hb1:Anc id par l r b (1+(d+1)):=Anc.trans (m:=1) ⟨c,(hkid c hc).1,hb.2.symm,rfl⟩ (hkid c hc).2.2;have h1:=hm.trans hb1;have h2:Anc id par l r w (d+1):=⟨y,hy,e.symm,hd⟩;have:=h.level h1 h2
      omega
    | succ n =>
      -- the kid through which y is reached
      have key:∀ (n:Nat) (y:I),y ∈ l→Anc id par l x y (n+1)→∃ c,c ∈ l∧par c=id x∧Anc id par l c y n:=by
        intro n
        induction n with
        | zero =>
          rintro y hy ⟨p,hp,e,h0⟩;have:p=x:=h0;subst this
          exact ⟨y, hy, e.symm, rfl⟩
        | succ n ih =>
          rintro y hy ⟨p,hp,e,h0⟩;obtain⟨c,hc,e2,h1⟩:=ih p hp h0;exact⟨c,hc,e2,p,hp,e,h1⟩
      obtain⟨c,hc,ec,hcy⟩:=key n y hy ha;have hcm:c ∈ ord (kidsOf par l (id x)):=(mem_ord ho).2 (mem_kidsOf.2 ⟨hc,ec⟩);rw [flatMap_one hnd hcm (fun b hb hne=>?_)]
      · exact kidsOf_pre h hc hy (hkid c hcm).2.2 hcy (by omega)
      refine kidsOf_nil (fun z hz e=>?_);obtain⟨w,m,rfl,hw,e2,hm,hmn⟩:=hbelow b hb z hz e;obtain⟨m,rfl⟩:∃ q,m=q+1:=⟨m - 1,by omega⟩;obtain⟨p,hpl,ep,hbp⟩:=hm;have:p=y:=id_inj h.nodup hpl hy (ep.trans e2);subst this;have:m=n:=by omega
      subst this;exact hne (Anc.inj h.nodup hbp hcy)
theorem pre_pre(h:Rooted id par l r){K:Nat}(hK:∀ y ∈ l,∀ n,Anc id par l r y n→n+1<K){ord' ord2:List I→List I}{f':I→I}(h2:∀ y ∈ l,ord' ((ord (kidsOf par l (id y))).map f)=(ord2 (kidsOf par l (id y))).map f)(ho2:IsOrd ord2) :
    ∀ {k d : Nat} {x : I}, x ∈ l → Anc id par l r x d → pre id par ord' f' (pre id par ord f l K r) k (f x) = pre id par ord2 (fun z => f' (f z)) l k x
  | 0, _, _, _, _ => rfl
  | k + 1, d, x, hx, hd => by
    unfold pre;rw [hf,kidsOf_pre ho hp h h.mem hx (show Anc id par l r r 0 from rfl) hd (hK x hx d hd),h2 x hx]
    congr 1
    rw [List.flatMap_map];refine flatMap_congr' (fun c hc=>?_);rw [mem_ord ho2,mem_kidsOf] at hc;refine pre_pre h hK h2 ho2 hc.1 (d:=1+d) ?_;exact Anc.trans (m:=1) ⟨x,hx,hc.2.symm,rfl⟩ hd
end
theorem pre_perm{ord:List I→List I}(ho:IsOrd ord){f:I→I}(hf:∀ x,id (f x)=id x)(h:Rooted id par l r){K:Nat}(hall:∀ y ∈ l,∃ n,n<K∧Anc id par l r y n):(pre id par ord f l K r).Perm (l.map f):=by
  have h1:((pre id par ord f l K r).map id).Nodup:=pre_nodup ho hf h h.mem (show Anc id par l r r 0 from rfl);have h2:((l.map f).map id).Nodup:=by
    rw [List.map_map];have:id ∘ f=id:=by funext x;exact hf x
    rw [this];exact h.nodup
  rw [List.perm_ext_iff_of_nodup (nodup_of_map h1) (nodup_of_map h2)];intro z;rw [mem_pre ho h.mem,List.mem_map];constructor
  · rintro ⟨y, n, rfl, hy, _, _⟩
    exact⟨y,hy,rfl⟩
  rintro ⟨y,hy,rfl⟩;obtain⟨n,hn,ha⟩:=hall y hy;exact⟨y,n,rfl,hy,hn,ha⟩
end
section
variable{I κ : Type}[DecidableEq κ](id par : I → κ)
inductive Forest:I→List I→Prop where
  | nil (p : I) : Forest p []
  | cons (p y:I) (A B:List I):par y=id p→Forest y A→Forest p B→Forest p (y::(A++B))
def popTo(q:κ):List I→List I
  | [] => []
  | p::ps=>if id p=q then p::ps else popTo q ps
def standsB(chk : List I → Bool) : List I → List I → Bool
  | _, [] => true
  | st, y :: t => match popTo id (par y) st with
    | [] => false
    | p::ps=>chk (p::ps)&&standsB chk (y::p::ps) t
variable{id par}{l : List I}{r : I}
end
section
variable{I κ : Type}[DecidableEq κ](id par : I → κ)
inductive Chain (l:List I) (r:I):List I→Prop where
  | top : Chain l r [r]
  | step (y p:I) (st:List I):y ∈ l→par y=id p→Chain l r (p::st)→Chain l r (y::p::st)
variable{id par}{l : List I}{r : I}
omit [DecidableEq κ] in
theorem Chain.mem_all(hr:r ∈ l){c:List I}(h:Chain id par l r c):∀ z ∈ c,z ∈ l:=by
  induction h with
  | top => intro z hz; rw [List.mem_singleton.1 hz]; exact hr
  | step y p st hy _ _ ih =>
    intro z hz;rcases List.mem_cons.1 hz with rfl|hz
    · exact hy
    exact ih z hz
omit [DecidableEq κ] in
theorem Chain.anc(hr:r ∈ l){c:List I}(h:Chain id par l r c):∀ {x:I} {st:List I},c=x::st→Anc id par l r x st.length:=by
  induction h with
  | top =>
    intro x st e;injection e with e1 e2;subst e1;subst e2
    exact rfl
  | step y p st hy e hc ih =>
    intro x st' e';injection e' with e1 e2;subst e1;subst e2;exact⟨p,hc.mem_all hr p List.mem_cons_self,e.symm,ih rfl⟩
omit [DecidableEq κ] in
theorem Chain.tail{x y:I}{st:List I}(h:Chain id par l r (x::y::st)):Chain id par l r (y::st):=by
  cases h with
  | step _ _ _ _ _ h=>exact h
omit [DecidableEq κ] in
theorem Chain.sub(hr:r ∈ l):∀ {c:List I},Chain id par l r c→∀ z ∈ c,∃ n,n<c.length∧Anc id par l r z n:=by
  intro c h
  induction h with
  | top => intro z hz; rw [List.mem_singleton.1 hz]; exact ⟨0, by simp, rfl⟩
  | step y p st hy e hc ih =>
    intro z hz;rcases List.mem_cons.1 hz with rfl|hz
    · exact ⟨st.length+1,by simp,(Chain.step z p st hy e hc).anc hr rfl⟩
    obtain⟨n,hn,ha⟩:=ih z hz;exact⟨n,by simp only [List.length_cons] at hn ⊢;omega,ha⟩
omit [DecidableEq κ] in
theorem Chain.uniq(h : Rooted id par l r) : ∀ {st st' : List I} {x : I}, Chain id par l r (x :: st) → Chain id par l r (x :: st') → st = st'
  | [], [], _, _, _ => rfl
  | [], y :: st', x, h1, h2 => by
    have:=h.level (h1.anc h.mem rfl) (h2.anc h.mem rfl)
    simp at this
  | y :: st, [], x, h1, h2 => by
    have:=h.level (h1.anc h.mem rfl) (h2.anc h.mem rfl)
    simp at this
  | y :: st, z :: st', x, h1, h2 => by
    have hy:=h1.tail.mem_all h.mem y List.mem_cons_self;have hz:=h2.tail.mem_all h.mem z List.mem_cons_self;have e:y=z:=by
      cases h1 with
      | step _ _ _ _ e1 _ =>
        cases h2 with
        | step _ _ _ _ e2 _=>exact id_inj h.nodup hy hz (e1.symm.trans e2)
    subst e;rw [Chain.uniq h h1.tail h2.tail]
theorem popTo_chain{q:κ}:∀ {st:List I},Chain id par l r st→∀ {p:I} {ps:List I},popTo id q st=p::ps→Chain id par l r (p::ps)∧id p=q:=by
  intro st h
  induction h with
  | top =>
    intro p ps e;unfold popTo at e
    split at e
    · injection e with e1 e2
      subst e1;subst e2;exact⟨.top,‹_›⟩
    simp [popTo] at e
  | step y p st hy e hc ih =>
    intro p' ps e';unfold popTo at e'
    split at e'
    · injection e' with e1 e2
      subst e1;subst e2;exact⟨.step _ _ _ hy e hc,‹_›⟩
    exact ih e'
theorem stands_chk(h:Rooted id par l r)(chk:List I→Bool):∀ {F:List I} {st:List I},Chain id par l r st→(∀ y ∈ F,y ∈ l)→standsB id par chk st F=true →
    ∀ y ∈ F, ∃ p ps, par y = id p ∧ Chain id par l r (p :: ps) ∧ chk (p :: ps) = true
  | [], _, _, _, _ => fun y hy => by cases hy
  | y :: t, st, hst, hF, hs => by
    unfold standsB at hs
    split at hs
    · cases hs
    rename_i p ps hp
    simp only [Bool.and_eq_true] at hs;obtain⟨hc,e⟩:=popTo_chain hst hp;intro z hz;rcases List.mem_cons.1 hz with rfl|hz
    · exact ⟨p,ps,e.symm,hc,hs.1⟩
    exact stands_chk h chk (.step y p ps (hF y List.mem_cons_self) e.symm hc) (fun w hw=>hF w (List.mem_cons_of_mem _ hw)) hs.2 z hz
def After(id par:I→κ)(chk:List I→Bool)(st T:List I):Prop:=∀ ext:List I,(∀ e ∈ ext,∀ s ∈ st,id e≠id s)→standsB id par chk (ext++st) T=true
theorem popTo_ext{ext st:List I}{x:I}(h:∀ e ∈ ext,id e≠id x):popTo id (id x) (ext++x::st)=x::st:=by
  induction ext with
  | nil => simp [popTo]
  | cons e t ih =>
    rw [List.cons_append,popTo,if_neg (h e List.mem_cons_self)];exact ih (fun z hz=>h z (List.mem_cons_of_mem _ hz))
section
variable{ord : List I → List I}(ho : IsOrd ord){f : I → I}(hf : ∀ x, id (f x) = id x)(hp : ∀ x, par (f x) = par x)(chk : List I → Bool)
include ho hf hp
theorem pre_after(h : Rooted id par l r)(hchk : ∀ x st c, Chain id par l r (x :: st) → c ∈ l → par c = id x → chk ((x :: st).map f) = true) :
    ∀ (k:Nat) (x:I) (st T:List I),Chain id par l r (x::st)→After id par chk ((x::st).map f) T→After id par chk ((x::st).map f) ((ord (kidsOf par l (id x))).flatMap (pre id par ord f l k)++T):=by
  intro k
  induction k with
  | zero =>
    intro x st T _ hT;have:(ord (kidsOf par l (id x))).flatMap (pre id par ord f l 0)=[]:=by
      rw [List.flatMap_eq_nil_iff];exact fun _ _=>rfl
    rw [this]; exact hT
  | succ k ih =>
    intro x st T hc hT;have key:∀ L:List I,(∀ c ∈ L,c ∈ l∧par c=id x)→After id par chk ((x::st).map f) (L.flatMap (pre id par ord f l (k+1))++T):=by
      intro L
      induction L with
      | nil => exact fun _ => hT
      | cons c L ihL =>
        intro hL;have hT':=ihL (fun b hb=>hL b (List.mem_cons_of_mem _ hb));obtain⟨hcl,hcp⟩:=hL c List.mem_cons_self;have hcc:Chain id par l r (c::x::st):=.step c x st hcl hcp hc;intro ext hext;rw [List.flatMap_cons,List.append_assoc];generalize L.flatMap (pre id par ord f l (k+1))++T=T' at hT';unfold pre;rw [List.cons_append];unfold standsB;have e1:popTo id (par (f c)) (ext++(x::st).map f)=(x::st).map f:=by
          rw [hp,hcp,← hf x,List.map_cons];exact popTo_ext (fun e he=>hext e he (f x) (by simp))
        rw [e1,List.map_cons];simp only [Bool.and_eq_true];refine⟨by have:=hchk x st c hc hcl hcp;rwa [List.map_cons] at this,?_⟩;have h2:After id par chk ((c::x::st).map f) T':=by
          intro ext' he';have:=hT' (ext' ++ [f c]) (fun e he s hs=>?_)
          · rw [List.append_assoc] at this
            rw [List.map_cons];exact this
          rcases List.mem_append.1 he with he|he
          · exact he' e he s (by rw [List.map_cons];exact List.mem_cons_of_mem _ hs)
          rw [List.mem_singleton.1 he];obtain⟨z,hz,rfl⟩:=List.mem_map.1 hs;rw [hf,hf];intro e2;have hzl:=hc.mem_all h.mem z hz;have:=id_inj h.nodup hcl hzl e2;subst this;obtain⟨n,hn,ha⟩:=hc.sub h.mem c hz;have:=h.level ha (hcc.anc h.mem rfl);simp only [List.length_cons] at hn this;omega
        have h3:=ih c (x::st) T' hcc h2 [] (fun e he=>by cases he)
        rwa [List.nil_append,List.map_cons,List.map_cons] at h3
    exact key _ (fun c hcm=>by rwa [mem_ord ho,mem_kidsOf] at hcm)
theorem pre_stands(h:Rooted id par l r)(hchk:∀ x st c,Chain id par l r (x::st)→c ∈ l→par c=id x→chk ((x::st).map f)=true)(k:Nat) :
    standsB id par chk [f r] ((ord (kidsOf par l (id r))).flatMap (pre id par ord f l k))=true:=by
  have:=pre_after ho hf hp chk h hchk k r [] [] .top (fun ext _=>rfl) [] (fun e he=>by cases he)
  rwa [List.append_nil,List.nil_append] at this
end
end
end Sn
namespace Go.Proofs.YtpbembafpnknhaaGreat.Pr
open Go.RowKit Go.Proofs.YtpbembafpnknhaaGreatW.PrintWords Go.Proofs.YtpbembafpnknhaaGreatW.PrintLast Go.Proofs.YtpbembafpnknhaaGreatW.PrintMore
open Go.Sort (HoldsK flatK putRowK Holds putRow grow get_flatK size_flatK putCells mapBlock onCells)
section
variable{α : Type}[Inhabited α]{enc : α → List Value}{k : Nat}
omit [Inhabited α] in
theorem flat_length(hk:∀ x,(enc x).length=k):∀ xs:List α,(xs.flatMap enc).length=xs.length * k
  | [] => by simp
  | x::r=>by rw [List.flatMap_cons,List.length_append,hk,flat_length hk r,List.length_cons,Nat.add_mul,Nat.one_mul,Nat.add_comm]
theorem flat_get(hk:∀ x,(enc x).length=k):∀ (xs:List α) (t:Nat),t<xs.length * k→(xs.flatMap enc)[t]? = some ((enc xs[t / k]!)[t % k]!)
  | [], t, h => by simp at h
  | x :: r, t, h => by
    have hk0:0<k:=by
      rcases Nat.eq_zero_or_pos k with h0|h0
      · subst h0;simp at h
      exact h0
    rw [List.flatMap_cons];by_cases ht:t<k
    · rw [List.getElem?_append_left (by rw [hk]; exact ht), Nat.div_eq_of_lt ht, Nat.mod_eq_of_lt ht]
      rw [List.getElem?_eq_getElem (by rw [hk];exact ht)];simp [hk,ht]
    rw [List.getElem?_append_right (by rw [hk];omega),hk];rw [List.length_cons,Nat.add_mul,Nat.one_mul] at h;rw [flat_get hk r (t - k) (by omega)];have e1:t / k=(t - k) / k+1:=by
      conv=>lhs;rw [show t=(t - k)+k by omega]
      exact Nat.add_div_right _ hk0
    have e2:t % k=(t - k) % k:=by
      conv=>lhs;rw [show t=(t - k)+k by omega]
      exact Nat.add_mod_right _ _
    rw [e1,e2];simp
theorem holdsK_of_own(hk:∀ x,(enc x).length=k){w:World}{base e n cap g:Nat}{xs:List α}(_hn:xs.length=n)(h:w.ownsRow base e k (.slice (some ⟨g,0,none⟩) n cap) n (xs.flatMap enc)):HoldsK enc k w g 0 xs.toArray:=by
  intro j hj;rw [size_flatK] at hj;simp only [List.size_toArray] at hj;have hg:=flat_get hk xs j hj;have h1:=h.cells (g:=g) rfl j _ hg;rw [add_plain] at h1;have e1:id (flatK enc k xs.toArray)[j]! = (enc xs[j / k]!)[j % k]!:=by
    show (flatK enc k xs.toArray)[j]! = _
    rw [get_flatK _ _ _ _ (by simpa using hj)];simp
  refine⟨by rw [e1,Nat.zero_add];exact h1,?_⟩;rcases h.2 with ⟨he,_⟩ | ⟨g',cap',cur,he,_,hh,_⟩
  · cases he
  injection he with he1;injection he1 with he1;injection he1 with he1;subst he1;simp [World.frozen?,hh]
theorem own_sorted(hk:∀ x,(enc x).length=k){w:World}{base e n cap g m:Nat}{xs:List α}{d':Array α}{os:Array Obj}(hd:d'.size=n)(h:w.ownsRow base e k (.slice (some ⟨g,0,none⟩) n cap) n (xs.flatMap enc)) :
    (sortWorldK enc k w g 0 m d' os).ownsRow base e k (.slice (some ⟨g,0,none⟩) n cap) n (d'.toList.flatMap enc)∧w.grownBy (sortWorldK enc k w g 0 m d' os) (some g)∧w.drawn≤(sortWorldK enc k w g 0 m d' os).drawn:=by
  obtain⟨hlen,h2⟩:=h;rcases h2 with ⟨he,_⟩ | ⟨g',cap',cur,he,hb,hh,hnc,hcm,hcs,htk⟩
  · cases he
  injection he with he1 he2 he3;injection he1 with he1;injection he1 with he1;subst he1;subst he3;have hlt:g<w.heap.size:=(Array.getElem?_eq_some_iff.1 hh).1;have hblk:(sortWorldK enc k w g 0 m d' os).heap[g]? = some (.cells (putCells id 0 (flatK enc k d') cur) e (0,0)):=by
    show ((w.heap.modify g (onCells (putCells id 0 (flatK enc k d'))))++os)[g]? = _
    rw [Array.getElem?_append_left (by simpa using hlt),Array.getElem?_modify,if_pos rfl,hh];rfl
  refine⟨⟨by rw [flat_length hk,Array.length_toList,hd],.inr ⟨g,cap,_,rfl,hb,hblk,hnc,hcm,by simp [putCells,hcs],?_⟩⟩,⟨rfl,rfl,rfl,?_,?_⟩,?_⟩
  · apply List.ext_getElem?
    intro t;by_cases ht:t<n * k
    · have hcn : n * k ≤ cap * k := Nat.mul_le_mul_right k hnc
      rw [List.getElem?_take_of_lt ht,flat_get hk _ _ (by rw [Array.length_toList,hd];exact ht)];rw [Array.getElem?_toList];simp only [putCells,Array.getElem?_mapIdx];have hc:cur[t]? = some cur[t]!:=by rw [Array.getElem?_eq_getElem (by omega),getElem!_pos cur t (by omega)]
      rw [hc];simp only [Option.map_some,size_flatK,hd];rw [if_pos ⟨Nat.zero_le _,by omega⟩,Nat.sub_zero,get_flatK _ _ _ _ (by rw [hd];exact ht)];have e3:d'.toList[t / k]! = d'[t / k]!:=by simp [Array.getElem!_eq_getD,Array.getD_eq_getD_getElem?]
      rw [e3];rfl
    rw [List.getElem?_eq_none (by simp;omega),List.getElem?_eq_none (by rw [flat_length hk,Array.length_toList,hd];omega)]
  · show w.heap.size ≤ (w.heap.modify g _ ++ os).size
    simp
  · intro i hi hne
    show (w.heap.modify g _++os)[i]? = _
    rw [Array.getElem?_append_left (by simpa using hi),Array.getElem?_modify,if_neg (fun e=>hne (by rw [e]))]
  show w.drawn≤w.drawn+m
  omega
end
end Go.Proofs.YtpbembafpnknhaaGreat.Pr
