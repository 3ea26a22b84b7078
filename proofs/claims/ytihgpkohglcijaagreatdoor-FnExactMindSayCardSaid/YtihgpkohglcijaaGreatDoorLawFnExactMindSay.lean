-- Written by a program of this session (wip/hook.py), which runs the kit's printer; Lean checks it.
import Derived.Test.YtihgpkohglcijaaGreatDoorRows
import Derived.Test.YtihgpkohglcijaaGreatDoorTie
import Derived.Test.YtihgpkohglcijaaGreatDoorCards
import Derived.Test.YtihgpkohglcijaaGreatDoorHead
import Derived.Test.YtihgpkohglcijaaGreatDoorOpen
import Derived.Test.YtihgpkohglcijaaGreatDoorPx29
import Derived.Test.YtihgpkohglcijaaGreatDoorPureFnExactMindSay
import Derived.WalkKit
import Derived.ProofKit
import Derived.OpenShut
import Derived.ShutString
import Derived.ChangeOld
import Derived.Below
import Derived.SizedLaws
import Derived.HandedShaped
import Derived.Shelf.Vars
import Derived.Lib.LaidTab
import Derived.Lib.LaidIn
import Derived.LaidHandle
import Derived.SevenTiedAt
import Derived.Carry
namespace Go.Proofs.YtihgpkohglcijaaGreatDoor.fnExactMindSay
open Go.ChangeShapes Go.WideShapes Go.ChangeAt Go.RowKit Go.Proofs.YtihgpkohglcijaaGreatDoorW.PrintWords
open Go.ChangeMaps (open_string shut_string)
set_option linter.unusedVariables false
theorem own:ownKnob Tryz.prog.godebug=none:=by kernel_rfl
theorem laidOut:laidOutB Tryz.prog=true:=by kernel_rfl
def BW:DataW Unit→Array Value
 | .agg l=>(l.map fun d=>match d with
  | .lit (.int k n)=>Value.int k n
  | _=>undef).toArray
 | _=> #[]
noncomputable def laidWorld (os:Os):World:=
 let w0:=World.holding Tryz.prog os ⟨#[], #[],[]⟩
 let lay:=fun(d:DataW Unit) (o:Obj)=>match o with
  | .cells _ t frozen=>Obj.cells (BW d) t frozen
  |o=>o
 {w0 with heap:=((w0.heap.modify 1 (lay Rows.laid_internal_strconv_uint64pow10)).modify 2 (lay Rows.laid_math_bits_deBruijn32tab)).modify 3 (lay Rows.laid_math_bits_deBruijn64tab)}
theorem laid_met (os:Os) (args:Array Value):laidMet Tryz.prog Rows.fnExactMindSayRow.laid ((laidWorld os).forCall (fun _ _=>0) ⟨#[],args,[]⟩).memory:=
 (LaidIn.of_run [2,3,1] 8 (by kernel_rfl) (by kernel_rfl) (by kernel_rfl) (by kernel_rfl)).met
theorem Dg (os:Os) (args:Array Value):laidMetH Tryz.prog Rows.fnExactMindSayRow.laid ((laidWorld os).forCall (fun _ _=>0) ⟨#[],args,[]⟩).memory:=
 laidMetH_of_parts (laid_met os args) (by kernel_rfl)
set_option maxRecDepth 100000 in
theorem lifted (os:Os) (started:os.Started) (H:Type) (enc:TypeId×Value→H):
  ReturnsInHanded {} Tryz.checked os 5 .any (fun w args=>(Rows.fnExactMindSaySpec.pre enc Tryz.prog Tryz.f5 Rows.fnExactMindSayRow.domain false w args∧laidMetH Tryz.prog Rows.fnExactMindSayRow.laid w)∧sizedMet enc Tryz.prog Tryz.f5 (OpenSpec.ofChange Rows.fnExactMindSaySpec) false w args) (Rows.fnExactMindSaySpec.post enc Tryz.prog Tryz.f5 false true false false):=by
 refine returnsInHanded_of_calls (C:=Tryz.checked) own started (by kernel_rfl)
  (ChangeSpec.witness_at (enc:=enc) (C:=Tryz.checked) (os:=os) (X:=fun w _=>laidMetH Tryz.prog Rows.fnExactMindSayRow.laid w) false (laidWorld os) #[.agg #[.int .i64 0,.slice none 0 0,.slice none 0 0],.slice none 0 0] 8 rfl (by kernel_rfl) (by kernel_rfl) (by kernel_rfl) (by kernel_rfl) (by kernel_rfl) (Dg os _)) ?_
 intro w0 tape i _ hsh _ hok hpre hholds
 obtain⟨_,_,_,fn',hfn',_,_,_,_,hval0⟩:=hok
 have KL:fn'=Tryz.f5:=Option.some.inj (hfn'.symm.trans Tryz.func5)
 subst KL
 obtain⟨⟨⟨ds,gs,before,hwh,hcnd⟩,_⟩,hz⟩:=hpre
 have hW0:=DataW.Whole.of_heap (w':=w0.forCall tape i) (by rfl) hwh
 have hsz0:=hz.weights hwh
 clear hwh hz hholds
 suffices hgo:Calls Tryz.prog 5 i.args (w0.forCall tape i) fun e W'=>∃v,e= .returned v∧Rows.fnExactMindSaySpec.post enc Tryz.prog Tryz.f5 false true false false (w0.forCall tape i) i.args v W' from
  hgo.mono fun e W' ⟨v,he,hp⟩=>by
   subst he
   exact ChangeSpec.post_blind hp
 obtain⟨m,hm⟩:=cell_of_shapedOpen_int (P:=Tryz.prog) (g:=0) (t:=3) (zero:= #[.int .i64 0]) hsh (of_decide_eq_true (by kernel_rfl)) (by kernel_rfl) rfl (by kernel_rfl) (by kernel_rfl) Tryz.underlying3
 revert hval0 hW0 hcnd hsz0 hm
 generalize w0.forCall tape i=W
 generalize w0.heap.size=base
 generalize i.args=args
 intro hval0 hcnd hW hsz0 hm
 have hsz:(DataW.weightsEach Tryz.prog (Tryz.f5.params.toList++Rows.fnExactMindSaySpec.plain.varTypes Tryz.prog) (ds++gs)).all (·≤reachBytes)=true:=hsz0
 have hval:∀(j:Nat) t v,Tryz.f5.params[j]?=some t→args[j]?=some v→Value.okWide Tryz.prog W .any base t v:=hval0
 have hW':=hW
 obtain⟨p,q,hA0,hV,rfl,hfz,hnd⟩:=hW
 have hA:DataW.TrodAll enc Tryz.prog W 0 (fun _=>true) true Tryz.f5.params.toList args.toList ds p:=hA0
 rw[Tryz.params5]at hA hval hsz
 obtain⟨v0,KS,d0,ds0,p0,q0,hargs,rfl,rfl,h0,r0⟩:=trodAll_cons hA
 obtain⟨v1,vs1,d1,ds1,p1,q1,rfl,rfl,rfl,h1,r1⟩:=trodAll_cons r0
 obtain⟨rfl,rfl,rfl⟩:=trodAll_nil r1
 obtain rfl:args= #[v0,v1]:=by cases args;simp_all
 obtain⟨rfl,rfl⟩:=trodVars_none hV
 have k0:=h0
 have KM:∀x∈p0,x.block<W.heap.size:=by obtain⟨m,hm⟩:=k0;exact DataW.trod_lt m _ _ _ hm
 obtain⟨cs0,rfl,z0⟩:=okWide_struct Tryz.underlying42 (hval 0 42 v0 rfl rfl)
 have KN:cs0.toList.length=3:=by rw[Array.length_toList,z0];kernel_rfl
 obtain⟨x0,K0,u0⟩:∃x:P.CK,P.FI.K W x cs0.toList∧((Lit.int .i64 x.f0).wf=true∧(x.f1.length≤maxLen∧∀y0∈x.f1,(Lit.int .i64 y0).wf=true)∧(x.f2.length≤maxLen∧∀y0∈x.f2,(y0.length≤maxLen∧∀y1∈y0,(Lit.int .i64 y1).wf=true))):=by
  obtain⟨fuel,hf⟩:=h0
  exact(Open.Bt Tryz.underlying42 (by kernel_rfl) (by kernel_rfl) rfl rfl rfl (Open.Bs Tryz.underlying3) (Open.ya Tryz.underlying23 (by kernel_rfl) (Open.Bs Tryz.underlying3)) (Open.ya Tryz.underlying24 (by kernel_rfl) (Open.ya Tryz.underlying23 (by kernel_rfl) (Open.Bs Tryz.underlying3))) (fun x:P.CK=>(x.f0,x.f1,x.f2)) (fun b0 b1 b2=>⟨⟨b0,b1,b2⟩,rfl⟩)) fuel _ _ KN hf
 have k1:=h1
 have KO:∀x∈p1,x.block<W.heap.size:=by obtain⟨m,hm⟩:=k1;exact DataW.trod_lt m _ _ _ hm
 obtain⟨A1,n1,c1,rfl⟩:=okWide_slice Tryz.underlying37 (hval 1 37 v1 rfl rfl)
 obtain⟨x1,⟨KT,c1',e1,hl1,K1⟩,u1⟩:∃x:List ByteArray,(Kd.slice 9 Kd.string).K W x [.slice A1 n1 c1]∧(x.length≤maxLen∧∀y0∈x,y0.size≤maxLen):=by
  obtain⟨fuel,hf⟩:=h1
  exact(Open.ya Tryz.underlying37 (by kernel_rfl) (Open.CI Tryz.underlying9)) fuel _ _ rfl hf
 simp only[List.cons.injEq,Value.slice.injEq,and_true]at e1
 obtain⟨rfl,rfl,rfl⟩:=e1
 clear hA0 hval0 hsz0 hsz
 refine(P.pE.walk Pure.FnExactMindSay x0 cs0 A1 c1 x1 W K0 u0 K1 hl1 u1 m hm).mono fun e W' ⟨he,bel⟩=>?_
 subst he
 exact⟨_,rfl,_,_,_,[],_,[],hW',trodAll_mk1 (shut_bool Tryz.underlying4 _),(trodAll_cons_mk (Below.trod laidOut (by kernel_rfl) (of_decide_eq_true (by kernel_rfl)) k0 bel KM) (trodAll_cons_mk (Below.trod laidOut (by kernel_rfl) (of_decide_eq_true (by kernel_rfl)) k1 bel KO) trodAll_mk0)),rfl,bel.frame _,fun h=>by cases h⟩
theorem su {a b:Bool} (h:a=true) (k:b=true):(a&&b)=true:=by rw[h,k];rfl
theorem Is:(Rows.fnExactMindSayRow.wf (OpenSpec.ofChange Rows.fnExactMindSaySpec))=true:=by kernel_rfl
theorem Iu:(laidOutB Tryz.checked.prog)=true:=by kernel_rfl
theorem Iv:(mapsRowed Tryz.checked.prog)=true:=by kernel_rfl
theorem Iw:(Tryz.f5.params.all (Tryz.checked.prog.readableRec ·))=true:=by kernel_rfl
theorem Ix:(namedTie Tryz.checked.prog Rows.fnExactMindSayRow.named Rows.fnExactMindSaySpec.vars)=true:=by kernel_rfl
theorem Iy:((Rows.fnExactMindSayRow.stops== []))=true:=by kernel_rfl
theorem Iz:((Tryz.checked.prog.stops== []))=true:=by kernel_rfl
theorem IA:((Rows.fnExactMindSayRow.knobs== []))=true:=by kernel_rfl
theorem IB:((Tryz.checked.prog.stopKnobs== []))=true:=by kernel_rfl
theorem IC:((Rows.fnExactMindSayRow.inPlace==Tryz.checked.prog.inPlace 5))=true:=by kernel_rfl
theorem Gt:((Rows.fnExactMindSayRow.unfollowed==Tryz.checked.prog.unfollowed 5))=true:=by kernel_rfl
theorem Gu:((Rows.fnExactMindSayRow.recurses==Tryz.checked.prog.recurses 5))=true:=by kernel_rfl
theorem Gv:((Rows.fnExactMindSayRow.named==Tryz.checked.prog.varsNamed 5))=true:=by kernel_rfl
theorem Gw:((Rows.fnExactMindSayRow.maps==(Tryz.f5.params.toList++Rows.fnExactMindSaySpec.plain.varTypes Tryz.checked.prog).any (Tryz.checked.prog.mapsRec ·)))=true:=by kernel_rfl
theorem Gx:((Rows.fnExactMindSayRow.ifaces==(Tryz.f5.params.toList++Rows.fnExactMindSaySpec.plain.varTypes Tryz.checked.prog).any (Tryz.checked.prog.ifacesRec ·)))=true:=by kernel_rfl
theorem Gy:((Rows.fnExactMindSayRow.mapsOut==Tryz.checked.prog.mapsAmong Tryz.f5.resultTypes.toList))=true:=by kernel_rfl
theorem Gz:((Rows.fnExactMindSayRow.loops==(Tryz.f5.params.toList++Rows.fnExactMindSaySpec.plain.varTypes Tryz.checked.prog).any (Tryz.checked.prog.loopsFrom ·)))=true:=by kernel_rfl
theorem GC:((Rows.fnExactMindSayRow.wideKeys==(Tryz.f5.params.toList++Rows.fnExactMindSaySpec.plain.varTypes Tryz.checked.prog++Tryz.f5.resultTypes.toList).any (Tryz.checked.prog.wideKeysFrom ·)))=true:=by kernel_rfl
theorem GD:(Rows.fnExactMindSaySpec.vars.all (Tryz.checked.prog.varReadable ·))=true:=by kernel_rfl
theorem GF:(Tryz.f5.resultTypes.all (fun t=>Tryz.checked.prog.readableRec t&&decide (t<Tryz.checked.prog.types.size)))=true:=by kernel_rfl
theorem GG:((Rows.fnExactMindSayRow.ifacesOut==Tryz.f5.resultTypes.toList.any (Tryz.checked.prog.ifacesRec ·)))=true:=by kernel_rfl
theorem GH:((Rows.fnExactMindSayRow.loopsOut==Tryz.f5.resultTypes.toList.any (Tryz.checked.prog.loopsFrom ·)))=true:=by kernel_rfl
theorem GI:((Rows.fnExactMindSayRow.plainKeys==Tryz.checked.prog.plainKeys))=true:=by kernel_rfl
theorem GJ:(Rows.fnExactMindSayRow.shortTexts.isNone)=true:=by kernel_rfl
theorem GK:(Tryz.checked.prog.stopsHeard)=true:=by kernel_rfl
theorem GL:(Tryz.checked.prog.mayEnter)=true:=Head.mayEnter
theorem GM:((Rows.fnExactMindSayRow.lifted==Tryz.checked.prog.liftsFinal))=true:=by rw[Head.liftsFinal];kernel_rfl
theorem GN:((Tryz.checked.prog.make==some Rows.fnExactMindSayRow.make))=true:=by rw[Head.make];kernel_rfl
theorem GO:((Rows.fnExactMindSayRow.kinds==(if Rows.fnExactMindSayRow.domain.isEmpty then[]else Tryz.f5.params.toList.map fun t=>match Tryz.checked.prog.underlying t with|some (.int k)=>some k| _=>none)))=true:=by kernel_rfl
theorem GP:((Rows.fnExactMindSayRow.pinned==Rows.fnExactMindSayRow.pinnedBy))=true:=by kernel_rfl
theorem GQ:((Rows.fnExactMindSayRow.veiled==(Tryz.f5.params.toList++Rows.fnExactMindSaySpec.plain.varTypes Tryz.checked.prog++Tryz.f5.resultTypes.toList).any (Tryz.checked.prog.veiledRec ·)))=true:=by kernel_rfl
theorem GR:(Rows.fnExactMindSayRow.veiledFits Tryz.checked.prog Tryz.f5.params.toList (Tryz.f5.params.toList++Rows.fnExactMindSaySpec.plain.varTypes Tryz.checked.prog++Tryz.f5.resultTypes.toList))=true:=by kernel_rfl
set_option maxRecDepth 1000000 in
theorem closed:joinedFacts Tryz.checked.prog 5 Tryz.f5 Rows.fnExactMindSaySpec Rows.fnExactMindSayRow=true:=(su (su (su (su (su (su (su (su (su (su (su (su (su (su (su (su (su (su (su (su (su (su (su (su (su (su (su (su (su (su (su Is Iu) Iv) Iw) Ix) Iy) Iz) IA) IB) IC) Gt) Gu) Gv) Gw) Gx) Gy) Gz) GC) GD) GF) GG) GH) GI) GJ) GK) GL) GM) GN) GO) GP) GQ) GR)
theorem over:Rows.fnExactMindSayRow.holds Tryz.pinned (OpenSpec.ofChange Rows.fnExactMindSaySpec):=
 OpenClaim.holds_of_wide 5 Tryz.f5 rfl rfl rfl rfl rfl rfl rfl ⟨rfl,rfl,rfl,rfl,rfl⟩ rfl rfl rfl rfl rfl (by kernel_rfl) Tryz.func5 closed
  (of_decide_eq_true (by kernel_rfl)) (by unfold Func.isWrapper;first|(rw[if_pos (by decide+kernel)];kernel_rfl)|(rw[if_neg (by decide+kernel)];exact⟨rfl,rfl⟩))
  (fun os started H enc _=>lifted os started H enc)
theorem proved:Rows.FnExactMindSaySaid:=over
#print axioms proved
theorem card:Rows.FnExactMindSayCardSaid:=
 Claim7.holds_tied_plain_at .later [] [.data,.data,.data] true (true, "cb30ea8f979f6b9780377dfa4a1b6eb3a1a837e0f6636e0d5744b4fa5f2912ad") false
  over (fun _ h=>by cases h) (by kernel_rfl) (fun _ h=>by cases h) fnExactMindSay_row_tie rfl ⟨rfl,rfl⟩ (by kernel_rfl) rfl
  (fun f fn hf hfn=>by
   obtain rfl:f=5:=Option.some.inj ((show Tryz.prog.funcNamed "loop.example/beliefchanges/laws.FnExactMindSay" =some 5 by kernel_rfl).symm.trans hf)|>.symm
   obtain rfl:fn=Tryz.f5:=(Option.some.inj (Tryz.func5.symm.trans hfn)).symm
   refine⟨by kernel_rfl,fun j t ht=>?_⟩
   have h:=(Array.all_eq_true_iff_forall_mem.1 (show Tryz.f5.params.all (fun t=>Tryz.prog.wantsStandIn t==false)=true by kernel_rfl)) t (Array.mem_of_getElem? ht)
   exact beq_iff_eq.1 h)
  (by kernel_rfl)
end Go.Proofs.YtihgpkohglcijaaGreatDoor.fnExactMindSay
namespace Go.Proofs.YtihgpkohglcijaaGreatDoor
end Go.Proofs.YtihgpkohglcijaaGreatDoor
namespace Go.Proofs.YtihgpkohglcijaaGreatDoor
theorem fnExactMindSay_holds:Rows.FnExactMindSayCardSaid:=fnExactMindSay.card
end Go.Proofs.YtihgpkohglcijaaGreatDoor
