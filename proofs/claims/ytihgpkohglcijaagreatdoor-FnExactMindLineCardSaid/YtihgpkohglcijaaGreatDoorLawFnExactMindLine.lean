-- Written by a program of this session (wip/hook.py), which runs the kit's printer; Lean checks it.
import Derived.Test.YtihgpkohglcijaaGreatDoorRows
import Derived.Test.YtihgpkohglcijaaGreatDoorTie
import Derived.Test.YtihgpkohglcijaaGreatDoorCards
import Derived.Test.YtihgpkohglcijaaGreatDoorHead
import Derived.Test.YtihgpkohglcijaaGreatDoorOpen
import Derived.Test.YtihgpkohglcijaaGreatDoorPx27
import Derived.Test.YtihgpkohglcijaaGreatDoorPureFnExactMindLine
import Derived.WalkKit
import Derived.ProofKit
import Derived.OpenShut
import Derived.ShutString
import Derived.ChangeOld
import Derived.Below
import Derived.SizedLaws
import Derived.HandedShaped
import Derived.Shelf.Vars
import Derived.Lib.LaidTab
import Derived.Lib.LaidIn
import Derived.LaidHandle
import Derived.SevenTiedAt
import Derived.Carry
namespace Go.Proofs.YtihgpkohglcijaaGreatDoor.fnExactMindLine
open Go.ChangeShapes Go.WideShapes Go.ChangeAt Go.RowKit Go.Proofs.YtihgpkohglcijaaGreatDoorW.PrintWords
open Go.ChangeMaps (open_string shut_string)
set_option linter.unusedVariables false
theorem own:ownKnob Tryz.prog.godebug=none:=by kernel_rfl
theorem laidOut:laidOutB Tryz.prog=true:=by kernel_rfl
def datumCells:DataW Unit→Array Value
 | .agg l=>(l.map fun d=>match d with
  | .lit (.int k n)=>Value.int k n
  | _=>undef).toArray
 | _=> #[]
noncomputable def laidWorld (os:Os):World:=
 let w0:=World.holding Tryz.prog os ⟨#[], #[],[]⟩
 let lay:=fun(d:DataW Unit) (o:Obj)=>match o with
  | .cells _ t frozen=>Obj.cells (datumCells d) t frozen
  |o=>o
 {w0 with heap:=((w0.heap.modify 1 (lay Rows.laid_internal_strconv_uint64pow10)).modify 2 (lay Rows.laid_math_bits_deBruijn32tab)).modify 3 (lay Rows.laid_math_bits_deBruijn64tab)}
theorem laid_met (os:Os) (args:Array Value):laidMet Tryz.prog Rows.fnExactMindLineRow.laid ((laidWorld os).forCall (fun _ _=>0) ⟨#[],args,[]⟩).memory:=
 (LaidIn.of_run [2,3,1] 8 (by kernel_rfl) (by kernel_rfl) (by kernel_rfl) (by kernel_rfl)).met
theorem laid_metH (os:Os) (args:Array Value):laidMetH Tryz.prog Rows.fnExactMindLineRow.laid ((laidWorld os).forCall (fun _ _=>0) ⟨#[],args,[]⟩).memory:=
 laidMetH_of_parts (laid_met os args) (by kernel_rfl)
set_option maxRecDepth 100000 in
theorem lifted (os:Os) (started:os.Started) (H:Type) (enc:TypeId×Value→H):
  ReturnsInHanded {} Tryz.checked os 7 .any (fun w args=>(Rows.fnExactMindLineSpec.pre enc Tryz.prog Tryz.f7 Rows.fnExactMindLineRow.domain false w args∧laidMetH Tryz.prog Rows.fnExactMindLineRow.laid w)∧sizedMet enc Tryz.prog Tryz.f7 (OpenSpec.ofChange Rows.fnExactMindLineSpec) false w args) (Rows.fnExactMindLineSpec.post enc Tryz.prog Tryz.f7 false true false false):=by
 refine returnsInHanded_of_calls (C:=Tryz.checked) own started (by kernel_rfl)
  (ChangeSpec.witness_at (enc:=enc) (C:=Tryz.checked) (os:=os) (X:=fun w _=>laidMetH Tryz.prog Rows.fnExactMindLineRow.laid w) false (laidWorld os) #[.agg #[.int .i64 0,.slice none 0 0,.slice none 0 0],.string ByteArray.empty] 8 rfl (by kernel_rfl) (by kernel_rfl) (by kernel_rfl) (by kernel_rfl) (by kernel_rfl) (laid_metH os _)) ?_
 intro w0 tape i _ hsh _ hok hpre hholds
 obtain⟨_,_,_,fn',hfn',_,_,_,_,hval0⟩:=hok
 have efn:fn'=Tryz.f7:=Option.some.inj (hfn'.symm.trans Tryz.func7)
 subst efn
 obtain⟨⟨⟨ds,gs,before,hwh,hcnd⟩,_⟩,hz⟩:=hpre
 have hW0:=DataW.Whole.of_heap (w':=w0.forCall tape i) (by rfl) hwh
 have hsz0:=hz.weights hwh
 clear hwh hz hholds
 suffices hgo:Calls Tryz.prog 7 i.args (w0.forCall tape i) fun e W'=>∃v,e= .returned v∧Rows.fnExactMindLineSpec.post enc Tryz.prog Tryz.f7 false true false false (w0.forCall tape i) i.args v W' from
  hgo.mono fun e W' ⟨v,he,hp⟩=>by
   subst he
   exact ChangeSpec.post_blind hp
 obtain⟨m,hm⟩:=cell_of_shapedOpen_int (P:=Tryz.prog) (g:=0) (t:=3) (zero:= #[.int .i64 0]) hsh (of_decide_eq_true (by kernel_rfl)) (by kernel_rfl) rfl (by kernel_rfl) (by kernel_rfl) Tryz.underlying3
 revert hval0 hW0 hcnd hsz0 hm
 generalize w0.forCall tape i=W
 generalize w0.heap.size=base
 generalize i.args=args
 intro hval0 hcnd hW hsz0 hm
 have hsz:(DataW.weightsEach Tryz.prog (Tryz.f7.params.toList++Rows.fnExactMindLineSpec.plain.varTypes Tryz.prog) (ds++gs)).all (·≤reachBytes)=true:=hsz0
 have hval:∀(j:Nat) t v,Tryz.f7.params[j]?=some t→args[j]?=some v→Value.okWide Tryz.prog W .any base t v:=hval0
 have hW':=hW
 obtain⟨p,q,hA0,hV,rfl,hfz,hnd⟩:=hW
 have hA:DataW.TrodAll enc Tryz.prog W 0 (fun _=>true) true Tryz.f7.params.toList args.toList ds p:=hA0
 rw[Tryz.params7]at hA hval hsz
 obtain⟨v0,vs0,d0,ds0,p0,q0,hargs,rfl,rfl,h0,r0⟩:=trodAll_cons hA
 obtain⟨v1,vs1,d1,ds1,p1,q1,rfl,rfl,rfl,h1,r1⟩:=trodAll_cons r0
 obtain⟨rfl,rfl,rfl⟩:=trodAll_nil r1
 obtain rfl:args= #[v0,v1]:=by cases args;simp_all
 obtain⟨rfl,rfl⟩:=trodVars_none hV
 have k0:=h0
 have lt0:∀x∈p0,x.block<W.heap.size:=by obtain⟨m,hm⟩:=k0;exact DataW.trod_lt m _ _ _ hm
 obtain⟨cs0,rfl,z0⟩:=okWide_struct Tryz.underlying42 (hval 0 42 v0 rfl rfl)
 have z0n:cs0.toList.length=3:=by rw[Array.length_toList,z0];kernel_rfl
 obtain⟨x0,K0,u0⟩:∃x:P.S42,P.k42.K W x cs0.toList∧((Lit.int .i64 x.f0).wf=true∧(x.f1.length≤maxLen∧∀y0∈x.f1,(Lit.int .i64 y0).wf=true)∧(x.f2.length≤maxLen∧∀y0∈x.f2,(y0.length≤maxLen∧∀y1∈y0,(Lit.int .i64 y1).wf=true))):=by
  obtain⟨fuel,hf⟩:=h0
  exact(Open.op_struct3 Tryz.underlying42 (by kernel_rfl) (by kernel_rfl) rfl rfl rfl (Open.op_int Tryz.underlying3) (Open.op_slice Tryz.underlying23 (by kernel_rfl) (Open.op_int Tryz.underlying3)) (Open.op_slice Tryz.underlying24 (by kernel_rfl) (Open.op_slice Tryz.underlying23 (by kernel_rfl) (Open.op_int Tryz.underlying3))) (fun x:P.S42=>(x.f0,x.f1,x.f2)) (fun b0 b1 b2=>⟨⟨b0,b1,b2⟩,rfl⟩)) fuel _ _ z0n hf
 obtain⟨a1,rfl,rfl,rfl,y1⟩:=open_string Tryz.underlying9 (hval 1 9 v1 rfl rfl) h1
 have w1:a1.size≤140737488351232:=by
  have z:=sized_string hsz (j:=1) (t:=9) rfl rfl
  rw[Array.length_toList]at z
  exact z
 clear hA0 hval0 hsz0 hsz
 refine(P.laws_FnExactMindLine.walk Pure.FnExactMindLine x0 cs0 a1 W K0 u0 w1 m hm).mono fun e W' ⟨he,bel⟩=>?_
 subst he
 exact⟨_,rfl,_,_,_,[],_,[],hW',trodAll_mk1 (shut_bool Tryz.underlying4 _),(trodAll_cons_mk (Below.trod laidOut (by kernel_rfl) (of_decide_eq_true (by kernel_rfl)) k0 bel lt0) (trodAll_cons_mk (shut_string Tryz.underlying9 y1) trodAll_mk0)),rfl,bel.frame _,fun h=>by cases h⟩
theorem and_t {a b:Bool} (h:a=true) (k:b=true):(a&&b)=true:=by rw[h,k];rfl
theorem fact0:(Rows.fnExactMindLineRow.wf (OpenSpec.ofChange Rows.fnExactMindLineSpec))=true:=by kernel_rfl
theorem fact1:(laidOutB Tryz.checked.prog)=true:=by kernel_rfl
theorem fact2:(mapsRowed Tryz.checked.prog)=true:=by kernel_rfl
theorem fact3:(Tryz.f7.params.all (Tryz.checked.prog.readableRec ·))=true:=by kernel_rfl
theorem fact4:(namedTie Tryz.checked.prog Rows.fnExactMindLineRow.named Rows.fnExactMindLineSpec.vars)=true:=by kernel_rfl
theorem fact5:((Rows.fnExactMindLineRow.stops== []))=true:=by kernel_rfl
theorem fact6:((Tryz.checked.prog.stops== []))=true:=by kernel_rfl
theorem fact7:((Rows.fnExactMindLineRow.knobs== []))=true:=by kernel_rfl
theorem fact8:((Tryz.checked.prog.stopKnobs== []))=true:=by kernel_rfl
theorem fact9:((Rows.fnExactMindLineRow.inPlace==Tryz.checked.prog.inPlace 7))=true:=by kernel_rfl
theorem fact10:((Rows.fnExactMindLineRow.unfollowed==Tryz.checked.prog.unfollowed 7))=true:=by kernel_rfl
theorem fact11:((Rows.fnExactMindLineRow.recurses==Tryz.checked.prog.recurses 7))=true:=by kernel_rfl
theorem fact12:((Rows.fnExactMindLineRow.named==Tryz.checked.prog.varsNamed 7))=true:=by kernel_rfl
theorem fact13:((Rows.fnExactMindLineRow.maps==(Tryz.f7.params.toList++Rows.fnExactMindLineSpec.plain.varTypes Tryz.checked.prog).any (Tryz.checked.prog.mapsRec ·)))=true:=by kernel_rfl
theorem fact14:((Rows.fnExactMindLineRow.ifaces==(Tryz.f7.params.toList++Rows.fnExactMindLineSpec.plain.varTypes Tryz.checked.prog).any (Tryz.checked.prog.ifacesRec ·)))=true:=by kernel_rfl
theorem fact15:((Rows.fnExactMindLineRow.mapsOut==Tryz.checked.prog.mapsAmong Tryz.f7.resultTypes.toList))=true:=by kernel_rfl
theorem fact16:((Rows.fnExactMindLineRow.loops==(Tryz.f7.params.toList++Rows.fnExactMindLineSpec.plain.varTypes Tryz.checked.prog).any (Tryz.checked.prog.loopsFrom ·)))=true:=by kernel_rfl
theorem fact17:((Rows.fnExactMindLineRow.wideKeys==(Tryz.f7.params.toList++Rows.fnExactMindLineSpec.plain.varTypes Tryz.checked.prog++Tryz.f7.resultTypes.toList).any (Tryz.checked.prog.wideKeysFrom ·)))=true:=by kernel_rfl
theorem fact18:(Rows.fnExactMindLineSpec.vars.all (Tryz.checked.prog.varReadable ·))=true:=by kernel_rfl
theorem fact19:(Tryz.f7.resultTypes.all (fun t=>Tryz.checked.prog.readableRec t&&decide (t<Tryz.checked.prog.types.size)))=true:=by kernel_rfl
theorem fact20:((Rows.fnExactMindLineRow.ifacesOut==Tryz.f7.resultTypes.toList.any (Tryz.checked.prog.ifacesRec ·)))=true:=by kernel_rfl
theorem fact21:((Rows.fnExactMindLineRow.loopsOut==Tryz.f7.resultTypes.toList.any (Tryz.checked.prog.loopsFrom ·)))=true:=by kernel_rfl
theorem fact22:((Rows.fnExactMindLineRow.plainKeys==Tryz.checked.prog.plainKeys))=true:=by kernel_rfl
theorem fact23:(Rows.fnExactMindLineRow.shortTexts.isNone)=true:=by kernel_rfl
theorem fact24:(Tryz.checked.prog.stopsHeard)=true:=by kernel_rfl
theorem fact25:(Tryz.checked.prog.mayEnter)=true:=Head.mayEnter
theorem fact26:((Rows.fnExactMindLineRow.lifted==Tryz.checked.prog.liftsFinal))=true:=by rw[Head.liftsFinal];kernel_rfl
theorem fact27:((Tryz.checked.prog.make==some Rows.fnExactMindLineRow.make))=true:=by rw[Head.make];kernel_rfl
theorem fact28:((Rows.fnExactMindLineRow.kinds==(if Rows.fnExactMindLineRow.domain.isEmpty then[]else Tryz.f7.params.toList.map fun t=>match Tryz.checked.prog.underlying t with|some (.int k)=>some k| _=>none)))=true:=by kernel_rfl
theorem fact29:((Rows.fnExactMindLineRow.pinned==Rows.fnExactMindLineRow.pinnedBy))=true:=by kernel_rfl
theorem fact30:((Rows.fnExactMindLineRow.veiled==(Tryz.f7.params.toList++Rows.fnExactMindLineSpec.plain.varTypes Tryz.checked.prog++Tryz.f7.resultTypes.toList).any (Tryz.checked.prog.veiledRec ·)))=true:=by kernel_rfl
theorem fact31:(Rows.fnExactMindLineRow.veiledFits Tryz.checked.prog Tryz.f7.params.toList (Tryz.f7.params.toList++Rows.fnExactMindLineSpec.plain.varTypes Tryz.checked.prog++Tryz.f7.resultTypes.toList))=true:=by kernel_rfl
set_option maxRecDepth 1000000 in
theorem closed:joinedFacts Tryz.checked.prog 7 Tryz.f7 Rows.fnExactMindLineSpec Rows.fnExactMindLineRow=true:=(and_t (and_t (and_t (and_t (and_t (and_t (and_t (and_t (and_t (and_t (and_t (and_t (and_t (and_t (and_t (and_t (and_t (and_t (and_t (and_t (and_t (and_t (and_t (and_t (and_t (and_t (and_t (and_t (and_t (and_t (and_t fact0 fact1) fact2) fact3) fact4) fact5) fact6) fact7) fact8) fact9) fact10) fact11) fact12) fact13) fact14) fact15) fact16) fact17) fact18) fact19) fact20) fact21) fact22) fact23) fact24) fact25) fact26) fact27) fact28) fact29) fact30) fact31)
theorem over:Rows.fnExactMindLineRow.holds Tryz.pinned (OpenSpec.ofChange Rows.fnExactMindLineSpec):=
 OpenClaim.holds_of_wide 7 Tryz.f7 rfl rfl rfl rfl rfl rfl rfl ⟨rfl,rfl,rfl,rfl,rfl⟩ rfl rfl rfl rfl rfl (by kernel_rfl) Tryz.func7 closed
  (of_decide_eq_true (by kernel_rfl)) (by unfold Func.isWrapper;first|(rw[if_pos (by decide+kernel)];kernel_rfl)|(rw[if_neg (by decide+kernel)];exact⟨rfl,rfl⟩))
  (fun os started H enc _=>lifted os started H enc)
theorem proved:Rows.FnExactMindLineSaid:=over
#print axioms proved
theorem card:Rows.FnExactMindLineCardSaid:=
 Claim7.holds_tied_plain_at .later [] [.data,.data,.data] true (true, "cb30ea8f979f6b9780377dfa4a1b6eb3a1a837e0f6636e0d5744b4fa5f2912ad") false
  over (fun _ h=>by cases h) (by kernel_rfl) (fun _ h=>by cases h) fnExactMindLine_row_tie rfl ⟨rfl,rfl⟩ (by kernel_rfl) rfl
  (fun f fn hf hfn=>by
   obtain rfl:f=7:=Option.some.inj ((show Tryz.prog.funcNamed "loop.example/beliefchanges/laws.FnExactMindLine" =some 7 by kernel_rfl).symm.trans hf)|>.symm
   obtain rfl:fn=Tryz.f7:=(Option.some.inj (Tryz.func7.symm.trans hfn)).symm
   refine⟨by kernel_rfl,fun j t ht=>?_⟩
   have h:=(Array.all_eq_true_iff_forall_mem.1 (show Tryz.f7.params.all (fun t=>Tryz.prog.wantsStandIn t==false)=true by kernel_rfl)) t (Array.mem_of_getElem? ht)
   exact beq_iff_eq.1 h)
  (by kernel_rfl)
end Go.Proofs.YtihgpkohglcijaaGreatDoor.fnExactMindLine
namespace Go.Proofs.YtihgpkohglcijaaGreatDoor
end Go.Proofs.YtihgpkohglcijaaGreatDoor
namespace Go.Proofs.YtihgpkohglcijaaGreatDoor
theorem fnExactMindLine_holds:Rows.FnExactMindLineCardSaid:=fnExactMindLine.card
end Go.Proofs.YtihgpkohglcijaaGreatDoor
