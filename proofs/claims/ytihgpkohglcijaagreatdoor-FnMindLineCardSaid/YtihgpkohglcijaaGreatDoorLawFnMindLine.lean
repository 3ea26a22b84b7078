-- Written by a program of this session (wip/hook.py), which runs the kit's printer; Lean checks it.
import Derived.Test.YtihgpkohglcijaaGreatDoorRows
import Derived.Test.YtihgpkohglcijaaGreatDoorTie
import Derived.Test.YtihgpkohglcijaaGreatDoorCards
import Derived.Test.YtihgpkohglcijaaGreatDoorHead
import Derived.Test.YtihgpkohglcijaaGreatDoorPx32
import Derived.Test.YtihgpkohglcijaaGreatDoorPureFnMindLine
import Derived.WalkKit
import Derived.ProofKit
import Derived.OpenShut
import Derived.ShutString
import Derived.ChangeOld
import Derived.Below
import Derived.SizedLaws
import Derived.HandedShaped
import Derived.Shelf.Vars
import Derived.Lib.LaidTab
import Derived.Lib.LaidIn
import Derived.LaidHandle
import Derived.SevenTiedAt
import Derived.Test.YtihgpkohglcijaaGreatDoorV0
namespace Go.Proofs.YtihgpkohglcijaaGreatDoor.fnMindLine
open Go.ChangeShapes Go.WideShapes Go.ChangeAt Go.RowKit
open Go.ChangeMaps (open_string shut_string)
set_option linter.unusedVariables false
theorem own:ownKnob Tryz.prog.godebug=none:=by kernel_rfl
theorem laidOut:laidOutB Tryz.prog=true:=by kernel_rfl
def DI (k:IntKind) (w:World) (a:Option Addr) (len cap:Nat) (zs:List Int):Prop:=
 (a=none∧len=0∧cap=0∧zs= [])∨
 ∃x,a=some x∧len≤cap∧cap≤maxLen∧zs.length=cap∧(∀i,i<zs.length→w.cell? (x.add i)=some (.int k (zs.getD i 0)))∧∀n∈zs,(Lit.int k n).wf=true
def xz:DataW Unit→Array Value
 | .agg l=>(l.map fun d=>match d with
  | .lit (.int k n)=>Value.int k n
  | _=>undef).toArray
 | _=> #[]
noncomputable def laidWorld (os:Os):World:=
 let w0:=World.holding Tryz.prog os ⟨#[], #[],[]⟩
 let lay:=fun(d:DataW Unit) (o:Obj)=>match o with
  | .cells _ t frozen=>Obj.cells (xz d) t frozen
  |o=>o
 {w0 with heap:=((w0.heap.modify 1 (lay Rows.laid_internal_strconv_uint64pow10)).modify 2 (lay Rows.laid_math_bits_deBruijn32tab)).modify 3 (lay Rows.laid_math_bits_deBruijn64tab)}
theorem laid_met (os:Os) (args:Array Value):laidMet Tryz.prog Rows.fnMindLineRow.laid ((laidWorld os).forCall (fun _ _=>0) ⟨#[],args,[]⟩).memory:=
 (LaidIn.of_run [2,3,1] 8 (by kernel_rfl) (by kernel_rfl) (by kernel_rfl) (by kernel_rfl)).met
theorem yH (os:Os) (args:Array Value):laidMetH Tryz.prog Rows.fnMindLineRow.laid ((laidWorld os).forCall (fun _ _=>0) ⟨#[],args,[]⟩).memory:=
 laidMetH_of_parts (laid_met os args) (by kernel_rfl)
set_option maxRecDepth 100000 in
theorem lifted (os:Os) (started:os.Started) (H:Type) (enc:TypeId×Value→H):
  ReturnsInHanded {} Tryz.checked os 3 .any (fun w args=>(Rows.fnMindLineSpec.pre enc Tryz.prog Tryz.f3 Rows.fnMindLineRow.domain false w args∧laidMetH Tryz.prog Rows.fnMindLineRow.laid w)∧sizedMet enc Tryz.prog Tryz.f3 (OpenSpec.ofChange Rows.fnMindLineSpec) false w args) (Rows.fnMindLineSpec.post enc Tryz.prog Tryz.f3 false true false false):=by
 refine returnsInHanded_of_calls (C:=Tryz.checked) own started (by kernel_rfl)
  (ChangeSpec.witness_at (enc:=enc) (C:=Tryz.checked) (os:=os) (X:=fun w _=>laidMetH Tryz.prog Rows.fnMindLineRow.laid w) false (laidWorld os) #[.slice none 0 0] 8 rfl (by kernel_rfl) (by kernel_rfl) (by kernel_rfl) (by kernel_rfl) (by kernel_rfl) (yH os _)) ?_
 intro w0 tape i _ hsh _ hok hpre hholds
 obtain⟨_,_,_,fn',hfn',_,_,_,_,hval0⟩:=hok
 have FR:fn'=Tryz.f3:=Option.some.inj (hfn'.symm.trans Tryz.func3)
 subst FR
 obtain⟨⟨⟨ds,gs,before,hwh,hcnd⟩,_⟩,hz⟩:=hpre
 have hW0:=DataW.Whole.of_heap (w':=w0.forCall tape i) (by rfl) hwh
 have hsz0:=hz.weights hwh
 clear hwh hz hholds
 suffices hgo:Calls Tryz.prog 3 i.args (w0.forCall tape i) fun e W'=>∃v,e= .returned v∧Rows.fnMindLineSpec.post enc Tryz.prog Tryz.f3 false true false false (w0.forCall tape i) i.args v W' from
  hgo.mono fun e W' ⟨v,he,hp⟩=>by
   subst he
   exact ChangeSpec.post_blind hp
 obtain⟨m,hm⟩:=cell_of_shapedOpen_int (P:=Tryz.prog) (g:=0) (t:=3) (zero:= #[.int .i64 0]) hsh (of_decide_eq_true (by kernel_rfl)) (by kernel_rfl) rfl (by kernel_rfl) (by kernel_rfl) Tryz.underlying3
 revert hval0 hW0 hcnd hsz0 hm
 generalize w0.forCall tape i=W
 generalize w0.heap.size=base
 generalize i.args=args
 intro hval0 hcnd hW hsz0 hm
 have hsz:(DataW.weightsEach Tryz.prog (Tryz.f3.params.toList++Rows.fnMindLineSpec.plain.varTypes Tryz.prog) (ds++gs)).all (·≤reachBytes)=true:=hsz0
 have hval:∀(j:Nat) t v,Tryz.f3.params[j]?=some t→args[j]?=some v→Value.okWide Tryz.prog W .any base t v:=hval0
 have hW':=hW
 obtain⟨p,q,hA0,hV,rfl,hfz,hnd⟩:=hW
 have hA:DataW.TrodAll enc Tryz.prog W 0 (fun _=>true) true Tryz.f3.params.toList args.toList ds p:=hA0
 rw[Tryz.params3]at hA hval hsz
 obtain⟨v0,FV,d0,ds0,p0,q0,hargs,rfl,rfl,h0,r0⟩:=trodAll_cons hA
 obtain⟨rfl,rfl,rfl⟩:=trodAll_nil r0
 obtain rfl:args= #[v0]:=by cases args;simp_all
 obtain⟨rfl,rfl⟩:=trodVars_none hV
 obtain⟨a0,len0,cap0,rfl⟩:=okWide_slice Tryz.underlying22 (hval 0 22 v0 rfl rfl)
 have k0:=h0
 have FT:∀x∈p0,x.block<W.heap.size:=by obtain⟨m,hm⟩:=k0;exact DataW.trod_lt m _ _ _ hm
 obtain⟨z0,w0⟩:∃zs,DI .u8 W a0 len0 cap0 zs:=by
  obtain⟨fuel,hf⟩:=h0
  rcases open_ints Tryz.underlying22 Tryz.underlying5 (by kernel_rfl) hf with⟨hcs,_⟩|⟨x,l,c,zs,hcs,_,hl,hm,hz,_,hcell,hwz⟩
  ·simp[Value.cells]at hcs
   obtain⟨rfl,rfl,rfl⟩:=hcs
   exact⟨[],.inl ⟨rfl,rfl,rfl,rfl⟩⟩
  ·simp[Value.cells]at hcs
   obtain⟨rfl,rfl,rfl⟩:=hcs
   exact⟨zs,.inr ⟨_,rfl,hl,hm,by simpa using hz,hcell,hwz⟩⟩
 have y0:len0*1≤140737488351232:=Go.Proofs.YtihgpkohglcijaaGreatDoorW.PrintWords.sized_ints hsz (j:=0) (t:=22) rfl rfl Tryz.underlying22 Tryz.underlying5 (by kernel_rfl) (by kernel_rfl) h0
 clear hA0 hval0 hsz0 hsz
 refine(P.kk.walk Pure.FnMindLine a0 len0 cap0 z0 W w0 y0 m hm).mono fun e W' ⟨he,bel⟩=>?_
 subst he
 exact⟨_,rfl,_,_,_,[],_,[],hW',trodAll_mk1 (shut_bool Tryz.underlying4 _),(trodAll_cons_mk (Below.trod laidOut (by kernel_rfl) (of_decide_eq_true (by kernel_rfl)) k0 bel FT) trodAll_mk0),rfl,bel.frame _,fun h=>by cases h⟩
theorem mJ {a b:Bool} (h:a=true) (k:b=true):(a&&b)=true:=by rw[h,k];rfl
theorem DJ:(Rows.fnMindLineRow.wf (OpenSpec.ofChange Rows.fnMindLineSpec))=true:=by kernel_rfl
theorem DK:(laidOutB Tryz.checked.prog)=true:=by kernel_rfl
theorem DL:(mapsRowed Tryz.checked.prog)=true:=by kernel_rfl
theorem DM:(Tryz.f3.params.all (Tryz.checked.prog.readableRec ·))=true:=by kernel_rfl
theorem DN:(namedTie Tryz.checked.prog Rows.fnMindLineRow.named Rows.fnMindLineSpec.vars)=true:=by kernel_rfl
theorem DP:((Rows.fnMindLineRow.stops== []))=true:=by kernel_rfl
theorem DQ:((Tryz.checked.prog.stops== []))=true:=by kernel_rfl
theorem DR:((Rows.fnMindLineRow.knobs== []))=true:=by kernel_rfl
theorem DS:((Tryz.checked.prog.stopKnobs== []))=true:=by kernel_rfl
theorem DT:((Rows.fnMindLineRow.inPlace==Tryz.checked.prog.inPlace 3))=true:=by kernel_rfl
theorem Cn:((Rows.fnMindLineRow.unfollowed==Tryz.checked.prog.unfollowed 3))=true:=by kernel_rfl
theorem Co:((Rows.fnMindLineRow.recurses==Tryz.checked.prog.recurses 3))=true:=by kernel_rfl
theorem Cp:((Rows.fnMindLineRow.named==Tryz.checked.prog.varsNamed 3))=true:=by kernel_rfl
theorem Cq:((Rows.fnMindLineRow.maps==(Tryz.f3.params.toList++Rows.fnMindLineSpec.plain.varTypes Tryz.checked.prog).any (Tryz.checked.prog.mapsRec ·)))=true:=by kernel_rfl
theorem Cr:((Rows.fnMindLineRow.ifaces==(Tryz.f3.params.toList++Rows.fnMindLineSpec.plain.varTypes Tryz.checked.prog).any (Tryz.checked.prog.ifacesRec ·)))=true:=by kernel_rfl
theorem Cs:((Rows.fnMindLineRow.mapsOut==Tryz.checked.prog.mapsAmong Tryz.f3.resultTypes.toList))=true:=by kernel_rfl
theorem Ct:((Rows.fnMindLineRow.loops==(Tryz.f3.params.toList++Rows.fnMindLineSpec.plain.varTypes Tryz.checked.prog).any (Tryz.checked.prog.loopsFrom ·)))=true:=by kernel_rfl
theorem Cu:((Rows.fnMindLineRow.wideKeys==(Tryz.f3.params.toList++Rows.fnMindLineSpec.plain.varTypes Tryz.checked.prog++Tryz.f3.resultTypes.toList).any (Tryz.checked.prog.wideKeysFrom ·)))=true:=by kernel_rfl
theorem Cv:(Rows.fnMindLineSpec.vars.all (Tryz.checked.prog.varReadable ·))=true:=by kernel_rfl
theorem Cw:(Tryz.f3.resultTypes.all (fun t=>Tryz.checked.prog.readableRec t&&decide (t<Tryz.checked.prog.types.size)))=true:=by kernel_rfl
theorem Cx:((Rows.fnMindLineRow.ifacesOut==Tryz.f3.resultTypes.toList.any (Tryz.checked.prog.ifacesRec ·)))=true:=by kernel_rfl
theorem Cy:((Rows.fnMindLineRow.loopsOut==Tryz.f3.resultTypes.toList.any (Tryz.checked.prog.loopsFrom ·)))=true:=by kernel_rfl
theorem Cz:((Rows.fnMindLineRow.plainKeys==Tryz.checked.prog.plainKeys))=true:=by kernel_rfl
theorem CA:(Rows.fnMindLineRow.shortTexts.isNone)=true:=by kernel_rfl
theorem CB:(Tryz.checked.prog.stopsHeard)=true:=by kernel_rfl
theorem CC:(Tryz.checked.prog.mayEnter)=true:=Head.mayEnter
theorem CD:((Rows.fnMindLineRow.lifted==Tryz.checked.prog.liftsFinal))=true:=by rw[Head.liftsFinal];kernel_rfl
theorem CE:((Tryz.checked.prog.make==some Rows.fnMindLineRow.make))=true:=by rw[Head.make];kernel_rfl
theorem CF:((Rows.fnMindLineRow.kinds==(if Rows.fnMindLineRow.domain.isEmpty then[]else Tryz.f3.params.toList.map fun t=>match Tryz.checked.prog.underlying t with|some (.int k)=>some k| _=>none)))=true:=by kernel_rfl
theorem CG:((Rows.fnMindLineRow.pinned==Rows.fnMindLineRow.pinnedBy))=true:=by kernel_rfl
theorem CH:((Rows.fnMindLineRow.veiled==(Tryz.f3.params.toList++Rows.fnMindLineSpec.plain.varTypes Tryz.checked.prog++Tryz.f3.resultTypes.toList).any (Tryz.checked.prog.veiledRec ·)))=true:=by kernel_rfl
theorem CI:(Rows.fnMindLineRow.veiledFits Tryz.checked.prog Tryz.f3.params.toList (Tryz.f3.params.toList++Rows.fnMindLineSpec.plain.varTypes Tryz.checked.prog++Tryz.f3.resultTypes.toList))=true:=by kernel_rfl
set_option maxRecDepth 1000000 in
theorem closed:joinedFacts Tryz.checked.prog 3 Tryz.f3 Rows.fnMindLineSpec Rows.fnMindLineRow=true:=(mJ (mJ (mJ (mJ (mJ (mJ (mJ (mJ (mJ (mJ (mJ (mJ (mJ (mJ (mJ (mJ (mJ (mJ (mJ (mJ (mJ (mJ (mJ (mJ (mJ (mJ (mJ (mJ (mJ (mJ (mJ DJ DK) DL) DM) DN) DP) DQ) DR) DS) DT) Cn) Co) Cp) Cq) Cr) Cs) Ct) Cu) Cv) Cw) Cx) Cy) Cz) CA) CB) CC) CD) CE) CF) CG) CH) CI)
theorem over:Rows.fnMindLineRow.holds Tryz.pinned (OpenSpec.ofChange Rows.fnMindLineSpec):=
 OpenClaim.holds_of_wide 3 Tryz.f3 rfl rfl rfl rfl rfl rfl rfl ⟨rfl,rfl,rfl,rfl,rfl⟩ rfl rfl rfl rfl rfl (by kernel_rfl) Tryz.func3 closed
  (of_decide_eq_true (by kernel_rfl)) (by unfold Func.isWrapper;first|(rw[if_pos (by decide+kernel)];kernel_rfl)|(rw[if_neg (by decide+kernel)];exact⟨rfl,rfl⟩))
  (fun os started H enc _=>lifted os started H enc)
theorem proved:Rows.FnMindLineSaid:=over
#print axioms proved
theorem card:Rows.FnMindLineCardSaid:=
 Claim7.holds_tied_plain_at .later [] [.data,.data,.data] true (true, "cb30ea8f979f6b9780377dfa4a1b6eb3a1a837e0f6636e0d5744b4fa5f2912ad") false
  over (fun _ h=>by cases h) (by kernel_rfl) (fun _ h=>by cases h) fnMindLine_row_tie rfl ⟨rfl,rfl⟩ (by kernel_rfl) rfl
  (fun f fn hf hfn=>by
   obtain rfl:f=3:=Option.some.inj ((show Tryz.prog.funcNamed "loop.example/beliefchanges/laws.FnMindLine" =some 3 by kernel_rfl).symm.trans hf)|>.symm
   obtain rfl:fn=Tryz.f3:=(Option.some.inj (Tryz.func3.symm.trans hfn)).symm
   refine⟨by kernel_rfl,fun j t ht=>?_⟩
   have h:=(Array.all_eq_true_iff_forall_mem.1 (show Tryz.f3.params.all (fun t=>Tryz.prog.wantsStandIn t==false)=true by kernel_rfl)) t (Array.mem_of_getElem? ht)
   exact beq_iff_eq.1 h)
  (by kernel_rfl)
end Go.Proofs.YtihgpkohglcijaaGreatDoor.fnMindLine
namespace Go.Proofs.YtihgpkohglcijaaGreatDoor
end Go.Proofs.YtihgpkohglcijaaGreatDoor
namespace Go.Proofs.YtihgpkohglcijaaGreatDoor
theorem fnMindLine_holds:Rows.FnMindLineCardSaid:=fnMindLine.card
end Go.Proofs.YtihgpkohglcijaaGreatDoor
