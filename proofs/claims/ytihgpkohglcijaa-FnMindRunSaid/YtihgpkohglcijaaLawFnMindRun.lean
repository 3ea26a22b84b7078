-- Written by a program of this session (wip/hook.py), which runs the kit's printer; Lean checks it.
import Derived.Test.YtihgpkohglcijaaRows
import Derived.Test.YtihgpkohglcijaaHead
import Derived.Test.YtihgpkohglcijaaPx22
import Derived.Test.YtihgpkohglcijaaPureFnMindRun
import Derived.WalkKit
import Derived.ProofKit
import Derived.OpenShut
import Derived.ShutString
import Derived.ChangeOld
import Derived.Below
import Derived.SizedLaws
import Derived.Test.YtihgpkohglcijaaV0
namespace Go.Proofs.Ytihgpkohglcijaa.fnMindRun
open Go.ChangeShapes Go.WideShapes Go.ChangeAt Go.RowKit
open Go.ChangeMaps (open_string shut_string)
set_option linter.unusedVariables false
theorem own:ownKnob Try.prog.godebug=none:=by kernel_rfl
theorem laidOut:laidOutB Try.prog=true:=by kernel_rfl
def IsRow (k:IntKind) (w:World) (a:Option Addr) (len cap:Nat) (zs:List Int):Prop:=
 (a=none∧len=0∧cap=0∧zs= [])∨
 ∃x,a=some x∧len≤cap∧cap≤maxLen∧zs.length=cap∧(∀i,i<zs.length→w.cell? (x.add i)=some (.int k (zs.getD i 0)))∧∀n∈zs,(Lit.int k n).wf=true
set_option maxRecDepth 100000 in
theorem lifted (os:Os) (started:os.Started) (H:Type) (enc:TypeId×Value→H):
  ReturnsInHanded {} Try.checked os 17 .any (Rows.fnMindRunSpec.pre6 enc Try.prog Try.f17 Rows.fnMindRunRow.domain false) (Rows.fnMindRunSpec.post enc Try.prog Try.f17 false true false false):=by
 refine returnsInHanded_of_change_sized (C:=Try.checked) own started (by kernel_rfl) Try.func17
  (ChangeSpec.witness6 (enc:=enc) (C:=Try.checked) false ⟨#[], #[.slice none 0 0],[]⟩ 8 (by kernel_rfl) (by kernel_rfl) (by kernel_rfl) (by kernel_rfl)) ?_
 intro W base args ds gs before hval0 hW hcnd hsz0 _
 have hsz:(DataW.weightsEach Try.prog (Try.f17.params.toList++Rows.fnMindRunSpec.plain.varTypes Try.prog) (ds++gs)).all (·≤reachBytes)=true:=hsz0
 have hval:∀(j:Nat) t v,Try.f17.params[j]?=some t→args[j]?=some v→Value.okWide Try.prog W .any base t v:=hval0
 have hW':=hW
 obtain⟨p,q,hA0,hV,rfl,hfz,hnd⟩:=hW
 have hA:DataW.TrodAll enc Try.prog W 0 (fun _=>true) true Try.f17.params.toList args.toList ds p:=hA0
 rw[Try.params17]at hA hval hsz
 obtain⟨v0,vs0,d0,ds0,p0,q0,hargs,rfl,rfl,h0,r0⟩:=trodAll_cons hA
 obtain⟨rfl,rfl,rfl⟩:=trodAll_nil r0
 obtain rfl:args= #[v0]:=by cases args;simp_all
 obtain⟨rfl,rfl⟩:=trodVars_none hV
 obtain⟨a0,len0,cap0,rfl⟩:=okWide_slice Try.underlying43 (hval 0 43 v0 rfl rfl)
 have k0:=h0
 have lt0:∀x∈p0,x.block<W.heap.size:=by obtain⟨m,hm⟩:=k0;exact DataW.trod_lt m _ _ _ hm
 obtain⟨z0,w0⟩:∃zs,IsRow .u8 W a0 len0 cap0 zs:=by
  obtain⟨fuel,hf⟩:=h0
  rcases open_ints Try.underlying43 Try.underlying5 (by kernel_rfl) hf with⟨hcs,_⟩|⟨x,l,c,zs,hcs,_,hl,hm,hz,_,hcell,hwz⟩
  ·simp[Value.cells]at hcs
   obtain⟨rfl,rfl,rfl⟩:=hcs
   exact⟨[],.inl ⟨rfl,rfl,rfl,rfl⟩⟩
  ·simp[Value.cells]at hcs
   obtain⟨rfl,rfl,rfl⟩:=hcs
   exact⟨zs,.inr ⟨_,rfl,hl,hm,by simpa using hz,hcell,hwz⟩⟩
 have y0:len0*1≤140737488351232:=Go.Proofs.YtihgpkohglcijaaW.PrintWords.sized_ints hsz (j:=0) (t:=43) rfl rfl Try.underlying43 Try.underlying5 (by kernel_rfl) (by kernel_rfl) h0
 clear hA0 hval0 hsz0 hsz
 refine(P.laws_FnMindRun.walk Pure.FnMindRun a0 len0 cap0 z0 W w0 y0).mono fun e W' ⟨he,bel⟩=>?_
 subst he
 exact⟨_,rfl,_,_,_,[],_,[],hW',trodAll_mk1 (shut_bool Try.underlying4 _),(trodAll_cons_mk (Below.trod laidOut (by kernel_rfl) (of_decide_eq_true (by kernel_rfl)) k0 bel lt0) trodAll_mk0),rfl,bel.frame _,fun h=>by cases h⟩
theorem and_t {a b:Bool} (h:a=true) (k:b=true):(a&&b)=true:=by rw[h,k];rfl
theorem fact0:(Rows.fnMindRunRow.wf (OpenSpec.ofChange Rows.fnMindRunSpec))=true:=by kernel_rfl
theorem fact1:(laidOutB Try.checked.prog)=true:=by kernel_rfl
theorem fact2:(mapsRowed Try.checked.prog)=true:=by kernel_rfl
theorem fact3:(Try.f17.params.all (Try.checked.prog.readableRec ·))=true:=by kernel_rfl
theorem fact4:(namedTie Try.checked.prog Rows.fnMindRunRow.named Rows.fnMindRunSpec.vars)=true:=by kernel_rfl
theorem fact5:((Rows.fnMindRunRow.stops== []))=true:=by kernel_rfl
theorem fact6:((Try.checked.prog.stops== []))=true:=by kernel_rfl
theorem fact7:((Rows.fnMindRunRow.knobs== []))=true:=by kernel_rfl
theorem fact8:((Try.checked.prog.stopKnobs== []))=true:=by kernel_rfl
theorem fact9:((Rows.fnMindRunRow.inPlace==Try.checked.prog.inPlace 17))=true:=by kernel_rfl
theorem fact10:((Rows.fnMindRunRow.unfollowed==Try.checked.prog.unfollowed 17))=true:=by kernel_rfl
theorem fact11:((Rows.fnMindRunRow.recurses==Try.checked.prog.recurses 17))=true:=by kernel_rfl
theorem fact12:((Rows.fnMindRunRow.named==Try.checked.prog.varsNamed 17))=true:=by kernel_rfl
theorem fact13:((Rows.fnMindRunRow.maps==(Try.f17.params.toList++Rows.fnMindRunSpec.plain.varTypes Try.checked.prog).any (Try.checked.prog.mapsRec ·)))=true:=by kernel_rfl
theorem fact14:((Rows.fnMindRunRow.ifaces==(Try.f17.params.toList++Rows.fnMindRunSpec.plain.varTypes Try.checked.prog).any (Try.checked.prog.ifacesRec ·)))=true:=by kernel_rfl
theorem fact15:((Rows.fnMindRunRow.mapsOut==Try.checked.prog.mapsAmong Try.f17.resultTypes.toList))=true:=by kernel_rfl
theorem fact16:((Rows.fnMindRunRow.loops==(Try.f17.params.toList++Rows.fnMindRunSpec.plain.varTypes Try.checked.prog).any (Try.checked.prog.loopsFrom ·)))=true:=by kernel_rfl
theorem fact17:((Rows.fnMindRunRow.wideKeys==(Try.f17.params.toList++Rows.fnMindRunSpec.plain.varTypes Try.checked.prog++Try.f17.resultTypes.toList).any (Try.checked.prog.wideKeysFrom ·)))=true:=by kernel_rfl
theorem fact18:(Rows.fnMindRunSpec.vars.all (Try.checked.prog.varReadable ·))=true:=by kernel_rfl
theorem fact19:(Try.f17.resultTypes.all (fun t=>Try.checked.prog.readableRec t&&decide (t<Try.checked.prog.types.size)))=true:=by kernel_rfl
theorem fact20:((Rows.fnMindRunRow.ifacesOut==Try.f17.resultTypes.toList.any (Try.checked.prog.ifacesRec ·)))=true:=by kernel_rfl
theorem fact21:((Rows.fnMindRunRow.loopsOut==Try.f17.resultTypes.toList.any (Try.checked.prog.loopsFrom ·)))=true:=by kernel_rfl
theorem fact22:((Rows.fnMindRunRow.plainKeys==Try.checked.prog.plainKeys))=true:=by kernel_rfl
theorem fact23:(Rows.fnMindRunRow.shortTexts.isNone)=true:=by kernel_rfl
theorem fact24:(Try.checked.prog.stopsHeard)=true:=by kernel_rfl
theorem fact25:(Try.checked.prog.mayEnter)=true:=Head.mayEnter
theorem fact26:((Rows.fnMindRunRow.lifted==Try.checked.prog.liftsFinal))=true:=by rw[Head.liftsFinal];kernel_rfl
theorem fact27:((Try.checked.prog.make==some Rows.fnMindRunRow.make))=true:=by rw[Head.make];kernel_rfl
theorem fact28:((Rows.fnMindRunRow.kinds==(if Rows.fnMindRunRow.domain.isEmpty then[]else Try.f17.params.toList.map fun t=>match Try.checked.prog.underlying t with|some (.int k)=>some k| _=>none)))=true:=by kernel_rfl
theorem fact29:((Rows.fnMindRunRow.pinned==Rows.fnMindRunRow.pinnedBy))=true:=by kernel_rfl
theorem fact30:((Rows.fnMindRunRow.veiled==(Try.f17.params.toList++Rows.fnMindRunSpec.plain.varTypes Try.checked.prog++Try.f17.resultTypes.toList).any (Try.checked.prog.veiledRec ·)))=true:=by kernel_rfl
theorem fact31:(Rows.fnMindRunRow.veiledFits Try.checked.prog Try.f17.params.toList (Try.f17.params.toList++Rows.fnMindRunSpec.plain.varTypes Try.checked.prog++Try.f17.resultTypes.toList))=true:=by kernel_rfl
set_option maxRecDepth 1000000 in
theorem closed:joinedFacts Try.checked.prog 17 Try.f17 Rows.fnMindRunSpec Rows.fnMindRunRow=true:=(and_t (and_t (and_t (and_t (and_t (and_t (and_t (and_t (and_t (and_t (and_t (and_t (and_t (and_t (and_t (and_t (and_t (and_t (and_t (and_t (and_t (and_t (and_t (and_t (and_t (and_t (and_t (and_t (and_t (and_t (and_t fact0 fact1) fact2) fact3) fact4) fact5) fact6) fact7) fact8) fact9) fact10) fact11) fact12) fact13) fact14) fact15) fact16) fact17) fact18) fact19) fact20) fact21) fact22) fact23) fact24) fact25) fact26) fact27) fact28) fact29) fact30) fact31)
theorem over:Rows.fnMindRunRow.holds Try.pinned (OpenSpec.ofChange Rows.fnMindRunSpec):=
 OpenClaim.holds_of_wide 17 Try.f17 rfl rfl rfl rfl rfl rfl rfl ⟨rfl,rfl,rfl,rfl,rfl⟩ rfl rfl rfl rfl rfl (by kernel_rfl) Try.func17 closed
  (of_decide_eq_true (by kernel_rfl)) (by unfold Func.isWrapper;first|(rw[if_pos (by decide+kernel)];kernel_rfl)|(rw[if_neg (by decide+kernel)];exact⟨rfl,rfl⟩))
  (fun os started H enc _=>lifted os started H enc)
theorem proved:Rows.FnMindRunSaid:=over
#print axioms proved
end Go.Proofs.Ytihgpkohglcijaa.fnMindRun
namespace Go.Proofs.Ytihgpkohglcijaa
/-- The row, under a short name, for the claim. -/
theorem fnMindRun_holds:Rows.FnMindRunSaid:=fnMindRun.proved
end Go.Proofs.Ytihgpkohglcijaa
