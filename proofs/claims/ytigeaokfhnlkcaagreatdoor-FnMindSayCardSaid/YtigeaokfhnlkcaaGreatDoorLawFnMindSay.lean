-- Written by a program of this session (wip/hook.py), which runs the kit's printer; Lean checks it.
import Derived.Test.YtigeaokfhnlkcaaGreatDoorRows
import Derived.Test.YtigeaokfhnlkcaaGreatDoorTie
import Derived.Test.YtigeaokfhnlkcaaGreatDoorCards
import Derived.Test.YtigeaokfhnlkcaaGreatDoorHead
import Derived.Test.YtigeaokfhnlkcaaGreatDoorPx33
import Derived.Test.YtigeaokfhnlkcaaGreatDoorPureFnMindSay
import Derived.WalkKit
import Derived.ProofKit
import Derived.OpenShut
import Derived.ShutString
import Derived.ChangeOld
import Derived.Below
import Derived.SizedLaws
import Derived.HandedShaped
import Derived.Shelf.Vars
import Derived.Lib.LaidTab
import Derived.Lib.LaidIn
import Derived.LaidHandle
import Derived.SevenTiedAt
import Derived.Test.YtigeaokfhnlkcaaGreatDoorV0
namespace Go.Proofs.YtigeaokfhnlkcaaGreatDoor.fnMindSay
open Go.ChangeShapes Go.WideShapes Go.ChangeAt Go.RowKit
open Go.ChangeMaps (open_string shut_string)
set_option linter.unusedVariables false
theorem own:ownKnob Tryz.prog.godebug=none:=by kernel_rfl
theorem laidOut:laidOutB Tryz.prog=true:=by kernel_rfl
def FX (k:IntKind) (w:World) (a:Option Addr) (len cap:Nat) (zs:List Int):Prop:=
 (a=none∧len=0∧cap=0∧zs= [])∨
 ∃x,a=some x∧len≤cap∧cap≤maxLen∧zs.length=cap∧(∀i,i<zs.length→w.cell? (x.add i)=some (.int k (zs.getD i 0)))∧∀n∈zs,(Lit.int k n).wf=true
def yP:DataW Unit→Array Value
 | .agg l=>(l.map fun d=>match d with
  | .lit (.int k n)=>Value.int k n
  | _=>undef).toArray
 | _=> #[]
noncomputable def laidWorld (os:Os):World:=
 let w0:=World.holding Tryz.prog os ⟨#[], #[],[]⟩
 let lay:=fun(d:DataW Unit) (o:Obj)=>match o with
  | .cells _ t frozen=>Obj.cells (yP d) t frozen
  |o=>o
 {w0 with heap:=((w0.heap.modify 1 (lay Rows.laid_internal_strconv_uint64pow10)).modify 2 (lay Rows.laid_math_bits_deBruijn32tab)).modify 3 (lay Rows.laid_math_bits_deBruijn64tab)}
theorem laid_met (os:Os) (args:Array Value):laidMet Tryz.prog Rows.fnMindSayRow.laid ((laidWorld os).forCall (fun _ _=>0) ⟨#[],args,[]⟩).memory:=
 (LaidIn.of_run [2,3,1] 8 (by kernel_rfl) (by kernel_rfl) (by kernel_rfl) (by kernel_rfl)).met
theorem Ag (os:Os) (args:Array Value):laidMetH Tryz.prog Rows.fnMindSayRow.laid ((laidWorld os).forCall (fun _ _=>0) ⟨#[],args,[]⟩).memory:=
 laidMetH_of_parts (laid_met os args) (by kernel_rfl)
set_option maxRecDepth 100000 in
theorem lifted (os:Os) (started:os.Started) (H:Type) (enc:TypeId×Value→H):
  ReturnsInHanded {} Tryz.checked os 3 .any (fun w args=>(Rows.fnMindSaySpec.pre enc Tryz.prog Tryz.f3 Rows.fnMindSayRow.domain false w args∧laidMetH Tryz.prog Rows.fnMindSayRow.laid w)∧sizedMet enc Tryz.prog Tryz.f3 (OpenSpec.ofChange Rows.fnMindSaySpec) false w args) (Rows.fnMindSaySpec.post enc Tryz.prog Tryz.f3 false true false false):=by
 refine returnsInHanded_of_calls (C:=Tryz.checked) own started (by kernel_rfl)
  (ChangeSpec.witness_at (enc:=enc) (C:=Tryz.checked) (os:=os) (X:=fun w _=>laidMetH Tryz.prog Rows.fnMindSayRow.laid w) false (laidWorld os) #[.slice none 0 0] 8 rfl (by kernel_rfl) (by kernel_rfl) (by kernel_rfl) (by kernel_rfl) (by kernel_rfl) (Ag os _)) ?_
 intro w0 tape i _ hsh _ hok hpre hholds
 obtain⟨_,_,_,fn',hfn',_,_,_,_,hval0⟩:=hok
 have IF:fn'=Tryz.f3:=Option.some.inj (hfn'.symm.trans Tryz.func3)
 subst IF
 obtain⟨⟨⟨ds,gs,before,hwh,hcnd⟩,_⟩,hz⟩:=hpre
 have hW0:=DataW.Whole.of_heap (w':=w0.forCall tape i) (by rfl) hwh
 have hsz0:=hz.weights hwh
 clear hwh hz hholds
 suffices hgo:Calls Tryz.prog 3 i.args (w0.forCall tape i) fun e W'=>∃v,e= .returned v∧Rows.fnMindSaySpec.post enc Tryz.prog Tryz.f3 false true false false (w0.forCall tape i) i.args v W' from
  hgo.mono fun e W' ⟨v,he,hp⟩=>by
   subst he
   exact ChangeSpec.post_blind hp
 obtain⟨m,hm⟩:=cell_of_shapedOpen_int (P:=Tryz.prog) (g:=0) (t:=3) (zero:= #[.int .i64 0]) hsh (of_decide_eq_true (by kernel_rfl)) (by kernel_rfl) rfl (by kernel_rfl) (by kernel_rfl) Tryz.underlying3
 revert hval0 hW0 hcnd hsz0 hm
 generalize w0.forCall tape i=W
 generalize w0.heap.size=base
 generalize i.args=args
 intro hval0 hcnd hW hsz0 hm
 have hsz:(DataW.weightsEach Tryz.prog (Tryz.f3.params.toList++Rows.fnMindSaySpec.plain.varTypes Tryz.prog) (ds++gs)).all (·≤reachBytes)=true:=hsz0
 have hval:∀(j:Nat) t v,Tryz.f3.params[j]?=some t→args[j]?=some v→Value.okWide Tryz.prog W .any base t v:=hval0
 have hW':=hW
 obtain⟨p,q,hA0,hV,rfl,hfz,hnd⟩:=hW
 have hA:DataW.TrodAll enc Tryz.prog W 0 (fun _=>true) true Tryz.f3.params.toList args.toList ds p:=hA0
 rw[Tryz.params3]at hA hval hsz
 obtain⟨v0,IJ,d0,ds0,p0,q0,hargs,rfl,rfl,h0,r0⟩:=trodAll_cons hA
 obtain⟨rfl,rfl,rfl⟩:=trodAll_nil r0
 obtain rfl:args= #[v0]:=by cases args;simp_all
 obtain⟨rfl,rfl⟩:=trodVars_none hV
 obtain⟨a0,len0,cap0,rfl⟩:=okWide_slice Tryz.underlying22 (hval 0 22 v0 rfl rfl)
 have k0:=h0
 have IG:∀x∈p0,x.block<W.heap.size:=by obtain⟨m,hm⟩:=k0;exact DataW.trod_lt m _ _ _ hm
 obtain⟨z0,w0⟩:∃zs,FX .u8 W a0 len0 cap0 zs:=by
  obtain⟨fuel,hf⟩:=h0
  rcases open_ints Tryz.underlying22 Tryz.underlying5 (by kernel_rfl) hf with⟨hcs,_⟩|⟨x,l,c,zs,hcs,_,hl,hm,hz,_,hcell,hwz⟩
  ·simp[Value.cells]at hcs
   obtain⟨rfl,rfl,rfl⟩:=hcs
   exact⟨[],.inl ⟨rfl,rfl,rfl,rfl⟩⟩
  ·simp[Value.cells]at hcs
   obtain⟨rfl,rfl,rfl⟩:=hcs
   exact⟨zs,.inr ⟨_,rfl,hl,hm,by simpa using hz,hcell,hwz⟩⟩
 have y0:len0*1≤140737488351232:=Go.Proofs.YtigeaokfhnlkcaaGreatDoorW.PrintWords.sized_ints hsz (j:=0) (t:=22) rfl rfl Tryz.underlying22 Tryz.underlying5 (by kernel_rfl) (by kernel_rfl) h0
 clear hA0 hval0 hsz0 hsz
 refine(P.iw.walk Pure.FnMindSay a0 len0 cap0 z0 W w0 y0 m hm).mono fun e W' ⟨he,bel⟩=>?_
 subst he
 exact⟨_,rfl,_,_,_,[],_,[],hW',trodAll_mk1 (shut_bool Tryz.underlying4 _),(trodAll_cons_mk (Below.trod laidOut (by kernel_rfl) (of_decide_eq_true (by kernel_rfl)) k0 bel IG) trodAll_mk0),rfl,bel.frame _,fun h=>by cases h⟩
theorem qG {a b:Bool} (h:a=true) (k:b=true):(a&&b)=true:=by rw[h,k];rfl
theorem FY:(Rows.fnMindSayRow.wf (OpenSpec.ofChange Rows.fnMindSaySpec))=true:=by kernel_rfl
theorem FZ:(laidOutB Tryz.checked.prog)=true:=by kernel_rfl
theorem Ga:(mapsRowed Tryz.checked.prog)=true:=by kernel_rfl
theorem Gb:(Tryz.f3.params.all (Tryz.checked.prog.readableRec ·))=true:=by kernel_rfl
theorem Gc:(namedTie Tryz.checked.prog Rows.fnMindSayRow.named Rows.fnMindSaySpec.vars)=true:=by kernel_rfl
theorem Gd:((Rows.fnMindSayRow.stops== []))=true:=by kernel_rfl
theorem Ge:((Tryz.checked.prog.stops== []))=true:=by kernel_rfl
theorem Gf:((Rows.fnMindSayRow.knobs== []))=true:=by kernel_rfl
theorem Gg:((Tryz.checked.prog.stopKnobs== []))=true:=by kernel_rfl
theorem Gh:((Rows.fnMindSayRow.inPlace==Tryz.checked.prog.inPlace 3))=true:=by kernel_rfl
theorem En:((Rows.fnMindSayRow.unfollowed==Tryz.checked.prog.unfollowed 3))=true:=by kernel_rfl
theorem Eo:((Rows.fnMindSayRow.recurses==Tryz.checked.prog.recurses 3))=true:=by kernel_rfl
theorem Ep:((Rows.fnMindSayRow.named==Tryz.checked.prog.varsNamed 3))=true:=by kernel_rfl
theorem Er:((Rows.fnMindSayRow.maps==(Tryz.f3.params.toList++Rows.fnMindSaySpec.plain.varTypes Tryz.checked.prog).any (Tryz.checked.prog.mapsRec ·)))=true:=by kernel_rfl
theorem Es:((Rows.fnMindSayRow.ifaces==(Tryz.f3.params.toList++Rows.fnMindSaySpec.plain.varTypes Tryz.checked.prog).any (Tryz.checked.prog.ifacesRec ·)))=true:=by kernel_rfl
theorem Et:((Rows.fnMindSayRow.mapsOut==Tryz.checked.prog.mapsAmong Tryz.f3.resultTypes.toList))=true:=by kernel_rfl
theorem Eu:((Rows.fnMindSayRow.loops==(Tryz.f3.params.toList++Rows.fnMindSaySpec.plain.varTypes Tryz.checked.prog).any (Tryz.checked.prog.loopsFrom ·)))=true:=by kernel_rfl
theorem Ew:((Rows.fnMindSayRow.wideKeys==(Tryz.f3.params.toList++Rows.fnMindSaySpec.plain.varTypes Tryz.checked.prog++Tryz.f3.resultTypes.toList).any (Tryz.checked.prog.wideKeysFrom ·)))=true:=by kernel_rfl
theorem Ex:(Rows.fnMindSaySpec.vars.all (Tryz.checked.prog.varReadable ·))=true:=by kernel_rfl
theorem Ey:(Tryz.f3.resultTypes.all (fun t=>Tryz.checked.prog.readableRec t&&decide (t<Tryz.checked.prog.types.size)))=true:=by kernel_rfl
theorem Ez:((Rows.fnMindSayRow.ifacesOut==Tryz.f3.resultTypes.toList.any (Tryz.checked.prog.ifacesRec ·)))=true:=by kernel_rfl
theorem EA:((Rows.fnMindSayRow.loopsOut==Tryz.f3.resultTypes.toList.any (Tryz.checked.prog.loopsFrom ·)))=true:=by kernel_rfl
theorem EB:((Rows.fnMindSayRow.plainKeys==Tryz.checked.prog.plainKeys))=true:=by kernel_rfl
theorem EC:(Rows.fnMindSayRow.shortTexts.isNone)=true:=by kernel_rfl
theorem ED:(Tryz.checked.prog.stopsHeard)=true:=by kernel_rfl
theorem EE:(Tryz.checked.prog.mayEnter)=true:=Head.mayEnter
theorem EF:((Rows.fnMindSayRow.lifted==Tryz.checked.prog.liftsFinal))=true:=by rw[Head.liftsFinal];kernel_rfl
theorem EG:((Tryz.checked.prog.make==some Rows.fnMindSayRow.make))=true:=by rw[Head.make];kernel_rfl
theorem EH:((Rows.fnMindSayRow.kinds==(if Rows.fnMindSayRow.domain.isEmpty then[]else Tryz.f3.params.toList.map fun t=>match Tryz.checked.prog.underlying t with|some (.int k)=>some k| _=>none)))=true:=by kernel_rfl
theorem EI:((Rows.fnMindSayRow.pinned==Rows.fnMindSayRow.pinnedBy))=true:=by kernel_rfl
theorem EJ:((Rows.fnMindSayRow.veiled==(Tryz.f3.params.toList++Rows.fnMindSaySpec.plain.varTypes Tryz.checked.prog++Tryz.f3.resultTypes.toList).any (Tryz.checked.prog.veiledRec ·)))=true:=by kernel_rfl
theorem EK:(Rows.fnMindSayRow.veiledFits Tryz.checked.prog Tryz.f3.params.toList (Tryz.f3.params.toList++Rows.fnMindSaySpec.plain.varTypes Tryz.checked.prog++Tryz.f3.resultTypes.toList))=true:=by kernel_rfl
set_option maxRecDepth 1000000 in
theorem closed:joinedFacts Tryz.checked.prog 3 Tryz.f3 Rows.fnMindSaySpec Rows.fnMindSayRow=true:=(qG (qG (qG (qG (qG (qG (qG (qG (qG (qG (qG (qG (qG (qG (qG (qG (qG (qG (qG (qG (qG (qG (qG (qG (qG (qG (qG (qG (qG (qG (qG FY FZ) Ga) Gb) Gc) Gd) Ge) Gf) Gg) Gh) En) Eo) Ep) Er) Es) Et) Eu) Ew) Ex) Ey) Ez) EA) EB) EC) ED) EE) EF) EG) EH) EI) EJ) EK)
theorem over:Rows.fnMindSayRow.holds Tryz.pinned (OpenSpec.ofChange Rows.fnMindSaySpec):=
 OpenClaim.holds_of_wide 3 Tryz.f3 rfl rfl rfl rfl rfl rfl rfl ⟨rfl,rfl,rfl,rfl,rfl⟩ rfl rfl rfl rfl rfl (by kernel_rfl) Tryz.func3 closed
  (of_decide_eq_true (by kernel_rfl)) (by unfold Func.isWrapper;first|(rw[if_pos (by decide+kernel)];kernel_rfl)|(rw[if_neg (by decide+kernel)];exact⟨rfl,rfl⟩))
  (fun os started H enc _=>lifted os started H enc)
theorem proved:Rows.FnMindSaySaid:=over
#print axioms proved
theorem card:Rows.FnMindSayCardSaid:=
 Claim7.holds_tied_plain_at .later [] [.data,.data,.data] true (true, "c3bf22184adf576638838d75e39f0116f3be4aeeea96d459df0143338c608949") false
  over (fun _ h=>by cases h) (by kernel_rfl) (fun _ h=>by cases h) fnMindSay_row_tie rfl ⟨rfl,rfl⟩ (by kernel_rfl) rfl
  (fun f fn hf hfn=>by
   obtain rfl:f=3:=Option.some.inj ((show Tryz.prog.funcNamed "loop.example/beliefchanges/laws.FnMindSay" =some 3 by kernel_rfl).symm.trans hf)|>.symm
   obtain rfl:fn=Tryz.f3:=(Option.some.inj (Tryz.func3.symm.trans hfn)).symm
   refine⟨by kernel_rfl,fun j t ht=>?_⟩
   have h:=(Array.all_eq_true_iff_forall_mem.1 (show Tryz.f3.params.all (fun t=>Tryz.prog.wantsStandIn t==false)=true by kernel_rfl)) t (Array.mem_of_getElem? ht)
   exact beq_iff_eq.1 h)
  (by kernel_rfl)
end Go.Proofs.YtigeaokfhnlkcaaGreatDoor.fnMindSay
namespace Go.Proofs.YtigeaokfhnlkcaaGreatDoor
end Go.Proofs.YtigeaokfhnlkcaaGreatDoor
namespace Go.Proofs.YtigeaokfhnlkcaaGreatDoor
theorem fnMindSay_holds:Rows.FnMindSayCardSaid:=fnMindSay.card
end Go.Proofs.YtigeaokfhnlkcaaGreatDoor
