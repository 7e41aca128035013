/- TopFound returns true for every input and leaves its arguments as they were: any plain data of a mesh, any steps, any three numbers, whatever their sizes; no condition. -/
import Derived.Test.YthaeohlijigplaaGreatRows
import Derived.WalkKit
import Derived.ProofKit
import Derived.OpenShut
import Derived.Deep.DeepHandedRow
import Derived.Lib.LaidTab
import Derived.Test.YthaeohlijigplaaGreatQLTopFound2
import Derived.Test.YthaeohlijigplaaGreatQLTopFound32
namespace Go.Proofs.YthaeohlijigplaaGreat.topFound
open Go.ChangeShapes Go.WideShapes Go.ChangeAt Go.RowKit Go.Sx
set_option maxRecDepth 100000
set_option linter.unusedSimpArgs false
theorem own:ownKnob Tryz.prog.godebug=none:=by kernel_rfl
theorem laidOut:laidOutB Tryz.prog=true:=by kernel_rfl
theorem params:Tryz.f3.params.toList.all (fun t=>Tryz.prog.readableRec t&&decide (t<Tryz.prog.types.size))=true:=by kernel_rfl
theorem table {W:World}:TabsW W:=fun g kd l hm=>by simp[globTabs]at hm
theorem called (a0:(Int)×(Int)×(List (Int))×(List (Int))×(Int)×(Int)) (a1:List ((Bool)×(List (Int)))) (a2:List (Int)) (w0:((Lit.int .u8 a0.1).wf=true)∧((Lit.int .u8 a0.2.1).wf=true)∧((a0.2.2.1).length≤maxLen∧∀x∈a0.2.2.1,(Lit.int .u8 x).wf=true)∧((a0.2.2.2.1).length=4∧∀x∈a0.2.2.2.1,(Lit.int .i8 x).wf=true)∧((Lit.int .u8 a0.2.2.2.2.1).wf=true)∧((Lit.int .u8 a0.2.2.2.2.2).wf=true)) (w1:(a1).length≤maxLen∧∀x∈a1,(True)∧((x.2).length≤maxLen∧∀x1∈x.2,(Lit.int .u8 x1).wf=true)) (w2:(a2).length=3∧∀x∈a2,(Lit.int .u8 x).wf=true):CallOK Tryz.prog 3 [(ag6 (iel .u8) (iel .u8) (mvec 1 (iel .u8)) (agL (iel .i8)) (iel .u8) (iel .u8)) a0,(mvec 2 (ag2 (bel) (mvec 1 (iel .u8)))) a1,(agL (iel .u8)) a2] [] (.val (.bool true)) [] []:=law_TopFound a0 a1 a2 w0 w1 w2
theorem contract (H:Type) (enc:TypeId×Value→H) (W:World) (base:Nat) (args:Array Value) (ds gs:List (DataW H)) (before:List MemPlace)
  (hval:∀(j:Nat) t v,Tryz.f3.params[j]? =some t→args[j]? =some v→Value.okWide Tryz.prog W .any base t v)
  (hW:DataW.Whole enc Tryz.prog Tryz.f3.params.toList Rows.topFoundSpec.vars false W args.toList ds gs before):
  Calls Tryz.prog 3 args W fun e W'=>∃v,e= .returned v∧Rows.topFoundSpec.post enc Tryz.prog Tryz.f3 false true false false W args v W':=by
 have hW':=hW
 obtain⟨p,q,hA0,hV,rfl,hfz,hnd⟩:=hW
 have hA:DataW.TrodAll enc Tryz.prog W 0 (fun _=>true) true Tryz.f3.params.toList args.toList ds p:=hA0
 rw[Tryz.params3]at hA hval
 obtain⟨v0,vs0,d0,ds0,p0,q0,hargs,rfl,rfl,h0,r0⟩:=trodAll_cons hA
 obtain⟨v1,vs1,d1,ds1,p1,q1,rfl,rfl,rfl,h1,r1⟩:=trodAll_cons r0
 obtain⟨v2,vs2,d2,ds2,p2,q2,rfl,rfl,rfl,h2,r2⟩:=trodAll_cons r1
 obtain⟨rfl,rfl,rfl⟩:=trodAll_nil r2
 obtain rfl:args= #[v0,v1,v2]:=by cases args;simp_all
 obtain⟨rfl,rfl⟩:=trodVars_none hV
 have hg:=table (W:=W)
 obtain⟨n0,t0⟩:=h0
 obtain⟨a0,w0,c0⟩:=(show Opens enc Tryz.prog hg 26 (ag6 (iel .u8) (iel .u8) (mvec 1 (iel .u8)) (agL (iel .i8)) (iel .u8) (iel .u8)) (fun a=>((Lit.int .u8 a.1).wf=true)∧((Lit.int .u8 a.2.1).wf=true)∧((a.2.2.1).length≤maxLen∧∀x∈a.2.2.1,(Lit.int .u8 x).wf=true)∧((a.2.2.2.1).length=4∧∀x∈a.2.2.2.1,(Lit.int .i8 x).wf=true)∧((Lit.int .u8 a.2.2.2.2.1).wf=true)∧((Lit.int .u8 a.2.2.2.2.2).wf=true))from Opens.struct6 Tryz.underlying26 rfl (by kernel_rfl) (by kernel_rfl) (by kernel_rfl) (by kernel_rfl) (by kernel_rfl) (by kernel_rfl) (Opens.int Tryz.underlying5) (Opens.int Tryz.underlying5) (Opens.slice (w:=1) Tryz.underlying22 (by kernel_rfl) (by decide) (fun _=>rfl) (Opens.int Tryz.underlying5)) (Opens.array Tryz.underlying24 (by kernel_rfl) (Opens.int Tryz.underlying23)) (Opens.int Tryz.underlying5) (Opens.int Tryz.underlying5)) _ _ _ t0
 have e0:mkV ((ag6 (iel .u8) (iel .u8) (mvec 1 (iel .u8)) (agL (iel .i8)) (iel .u8) (iel .u8)) a0) v0.cells.toList=v0:=by obtain⟨cs,hc,_⟩:=okWide_struct Tryz.underlying26 (hval 0 26 v0 rfl rfl);exact mkV_agg rfl hc
 obtain⟨n1,t1⟩:=h1
 obtain⟨a1,w1,c1⟩:=(show Opens enc Tryz.prog hg 27 (mvec 2 (ag2 (bel) (mvec 1 (iel .u8)))) (fun a=>(a).length≤maxLen∧∀x∈a,(True)∧((x.2).length≤maxLen∧∀x1∈x.2,(Lit.int .u8 x1).wf=true))from Opens.slice (w:=2) Tryz.underlying27 (by kernel_rfl) (by decide) (fun _=>rfl) (Opens.struct2 Tryz.underlying69 rfl (by kernel_rfl) (by kernel_rfl) (Opens.bool Tryz.underlying4) (Opens.slice (w:=1) Tryz.underlying22 (by kernel_rfl) (by decide) (fun _=>rfl) (Opens.int Tryz.underlying5)))) _ _ _ t1
 have e1:mkV ((mvec 2 (ag2 (bel) (mvec 1 (iel .u8)))) a1) v1.cells.toList=v1:=by obtain⟨_,_,_,rfl⟩:=okWide_slice Tryz.underlying27 (hval 1 27 v1 rfl rfl);exact mkV_one rfl (by simp[Value.cells])
 obtain⟨n2,t2⟩:=h2
 obtain⟨a2,w2,c2⟩:=(show Opens enc Tryz.prog hg 28 (agL (iel .u8)) (fun a=>(a).length=3∧∀x∈a,(Lit.int .u8 x).wf=true)from Opens.array Tryz.underlying28 (by kernel_rfl) (Opens.int Tryz.underlying5)) _ _ _ t2
 have e2:mkV ((agL (iel .u8)) a2) v2.cells.toList=v2:=by obtain⟨cs,hc,_⟩:=Go.Sx.okWide_arr Tryz.underlying28 (hval 2 28 v2 rfl rfl);exact mkV_agg rfl hc
 have hz:HasZ (allRho hg) [(ag6 (iel .u8) (iel .u8) (mvec 1 (iel .u8)) (agL (iel .i8)) (iel .u8) (iel .u8)) a0,(mvec 2 (ag2 (bel) (mvec 1 (iel .u8)))) a1,(agL (iel .u8)) a2] [v0.cells.toList,v1.cells.toList,v2.cells.toList]:=by simp only[HasZ];exact⟨_,_,rfl,c0,_,_,rfl,c1,_,_,rfl,c2,rfl⟩
 have hr:=law_runA ⟨Tryz.f3,Tryz.func3,rfl,by kernel_rfl⟩ (called a0 a1 a2 w0 w1 w2) hg hz
 simp only[List.zipWith_cons_cons,List.zipWith_nil_left,List.zipWith_nil_right,e0,e1,e2]at hr
 refine hr.mono fun e W' ⟨he,hb⟩=> ?_
 subst he
 exact⟨_,rfl,law_post laidOut params rfl rfl Tryz.underlying4 hW' ⟨rfl,rfl,rfl⟩ hb⟩
noncomputable def laidWorld (os:Os):World:=World.holding Tryz.prog os ⟨#[], #[],[]⟩
theorem laid_met (os:Os):laidMet Tryz.prog Rows.topFoundRow.laid ((laidWorld os).forCall (fun _ _=>0) ⟨#[], #[.agg #[.int .u8 0,.int .u8 0,.slice none 0 0,.int .i8 0,.int .i8 0,.int .i8 0,.int .i8 0,.int .u8 0,.int .u8 0],.slice none 0 0,.agg #[.int .u8 0,.int .u8 0,.int .u8 0]],[]⟩).memory:=
 laidMet_of_run' 8 (by kernel_rfl) (by kernel_rfl)
theorem reads (os:Os) {H:Type} (enc:TypeId×Value→H):∃places,DataW.whole enc Tryz.prog ((laidWorld os).forCall (fun _ _=>0) ⟨#[], #[.agg #[.int .u8 0,.int .u8 0,.slice none 0 0,.int .i8 0,.int .i8 0,.int .i8 0,.int .i8 0,.int .u8 0,.int .u8 0],.slice none 0 0,.agg #[.int .u8 0,.int .u8 0,.int .u8 0]],[]⟩).memory Tryz.f3.params.toList Rows.topFoundSpec.vars false #[.agg #[.int .u8 0,.int .u8 0,.slice none 0 0,.int .i8 0,.int .i8 0,.int .i8 0,.int .i8 0,.int .u8 0,.int .u8 0],.slice none 0 0,.agg #[.int .u8 0,.int .u8 0,.int .u8 0]].toList 8=some ([.agg [.lit (.int .u8 0),.lit (.int .u8 0),.nil,.agg [.lit (.int .i8 0),.lit (.int .i8 0),.lit (.int .i8 0),.lit (.int .i8 0)],.lit (.int .u8 0),.lit (.int .u8 0)],.nil,.agg [.lit (.int .u8 0),.lit (.int .u8 0),.lit (.int .u8 0)]],[],places):=
 ⟨[],by kernel_rfl⟩
theorem lifted (os:Os) (started:os.Started) (H:Type) (enc:TypeId×Value→H) (F:Stop.Interp):
  ReturnsInHanded {} Tryz.checked os 3 .any ((OpenSpec.ofChange Rows.topFoundSpec).preRow enc Tryz.prog Tryz.f3 Rows.topFoundRow.domain false Rows.topFoundRow.laid) (((OpenSpec.ofChange Rows.topFoundSpec).at F).post enc Tryz.prog Tryz.f3 false true false false):=by
 obtain⟨places,hx⟩:=reads os enc
 refine returnsInHanded_of_row (C:=Tryz.checked) (s:=OpenSpec.ofChange Rows.topFoundSpec) own started (by kernel_rfl) Tryz.func3
  (witness_row_at (enc:=enc) (C:=Tryz.checked) false (laidWorld os) #[.agg #[.int .u8 0,.int .u8 0,.slice none 0 0,.int .i8 0,.int .i8 0,.int .i8 0,.int .i8 0,.int .u8 0,.int .u8 0],.slice none 0 0,.agg #[.int .u8 0,.int .u8 0,.int .u8 0]] rfl (by kernel_rfl) (by kernel_rfl) (by kernel_rfl)
   (OpenSpec.preRow_of_cond 8 hx (by kernel_rfl) (fun k hk=>by cases hk) (by kernel_rfl) (laid_met os))) ?_
 intro W base args ds gs before hval hW _ _ _ hL _ _
 exact contract H enc W base args ds gs before hval hW
theorem bt {a b:Bool} (x:a=true) (y:b=true):(a&&b)=true:=by rw[x,y];rfl
theorem k1:(Rows.topFoundRow.wf (OpenSpec.ofChange (OpenSpec.ofChange Rows.topFoundSpec).bare))=true:=by kernel_rfl
theorem k2:(laidOutB Tryz.pinned.checked.prog)=true:=by kernel_rfl
theorem k3:(mapsRowed Tryz.pinned.checked.prog)=true:=by kernel_rfl
theorem k4:(Tryz.f3.params.all (Tryz.pinned.checked.prog.readableRec ·))=true:=by kernel_rfl
theorem k5:(namedTie Tryz.pinned.checked.prog Rows.topFoundRow.named (OpenSpec.ofChange Rows.topFoundSpec).bare.vars)=true:=by kernel_rfl
theorem k6:(Rows.topFoundRow.stops==[])=true:=by kernel_rfl
theorem k7:(Tryz.pinned.checked.prog.stops==[])=true:=by kernel_rfl
theorem k8:(Rows.topFoundRow.knobs==[])=true:=by kernel_rfl
theorem k9:(Tryz.pinned.checked.prog.stopKnobs==[])=true:=by kernel_rfl
theorem k10:(Rows.topFoundRow.inPlace==Tryz.pinned.checked.prog.inPlace 3)=true:=by kernel_rfl
theorem k11:(Rows.topFoundRow.unfollowed==Tryz.pinned.checked.prog.unfollowed 3)=true:=by kernel_rfl
theorem k12:(Rows.topFoundRow.recurses==Tryz.pinned.checked.prog.recurses 3)=true:=by kernel_rfl
theorem k13:(Rows.topFoundRow.named==Tryz.pinned.checked.prog.varsNamed 3)=true:=by kernel_rfl
theorem k14:(Rows.topFoundRow.maps==(Tryz.f3.params.toList++(OpenSpec.ofChange Rows.topFoundSpec).bare.plain.varTypes Tryz.pinned.checked.prog).any (Tryz.pinned.checked.prog.mapsRec ·))=true:=by kernel_rfl
theorem k15:(Rows.topFoundRow.ifaces==(Tryz.f3.params.toList++(OpenSpec.ofChange Rows.topFoundSpec).bare.plain.varTypes Tryz.pinned.checked.prog).any (Tryz.pinned.checked.prog.ifacesRec ·))=true:=by kernel_rfl
theorem k16:(Rows.topFoundRow.mapsOut==Tryz.pinned.checked.prog.mapsAmong Tryz.f3.resultTypes.toList)=true:=by kernel_rfl
theorem k17:(Rows.topFoundRow.loops==(Tryz.f3.params.toList++(OpenSpec.ofChange Rows.topFoundSpec).bare.plain.varTypes Tryz.pinned.checked.prog).any (Tryz.pinned.checked.prog.loopsFrom ·))=true:=by kernel_rfl
theorem k17b:(Rows.topFoundRow.wideKeys==(Tryz.f3.params.toList++(OpenSpec.ofChange Rows.topFoundSpec).bare.plain.varTypes Tryz.pinned.checked.prog++Tryz.f3.resultTypes.toList).any (Tryz.pinned.checked.prog.wideKeysFrom ·))=true:=by kernel_rfl
theorem k18:((OpenSpec.ofChange Rows.topFoundSpec).bare.vars.all (Tryz.pinned.checked.prog.varReadable ·))=true:=by kernel_rfl
theorem k22:(Rows.topFoundRow.plainKeys==Tryz.pinned.checked.prog.plainKeys)=true:=by kernel_rfl
theorem k23b:(Tryz.pinned.checked.prog.stopsHeard)=true:=by kernel_rfl
theorem k24:(Tryz.pinned.checked.prog.mayEnter)=true:=by kernel_rfl
theorem k24b:(Rows.topFoundRow.lifted==Tryz.pinned.checked.prog.liftsFinal)=true:=by kernel_rfl
theorem k24c:(Tryz.pinned.checked.prog.make==some Rows.topFoundRow.make)=true:=by kernel_rfl
theorem k27:(Rows.topFoundRow.veiled==(Tryz.f3.params.toList++(OpenSpec.ofChange Rows.topFoundSpec).bare.plain.varTypes Tryz.pinned.checked.prog++Tryz.f3.resultTypes.toList).any (Tryz.pinned.checked.prog.veiledRec ·))=true:=by kernel_rfl
theorem k28:(Rows.topFoundRow.veiledFits Tryz.pinned.checked.prog Tryz.f3.params.toList (Tryz.f3.params.toList++(OpenSpec.ofChange Rows.topFoundSpec).bare.plain.varTypes Tryz.pinned.checked.prog++Tryz.f3.resultTypes.toList))=true:=by kernel_rfl
theorem closed:joinedFacts Tryz.pinned.checked.prog 3 Tryz.f3 (OpenSpec.ofChange Rows.topFoundSpec).bare Rows.topFoundRow=true:=(bt (bt (bt (bt (bt (bt (bt (bt (bt (bt (bt (bt (bt (bt (bt (bt (bt (bt (bt (bt (bt (bt (bt (bt (bt (bt (bt (bt (bt (bt (bt k1 k2) k3) k4) k5) k6) k7) k8) k9) k10) k11) k12) k13) k14) k15) k16) k17) k17b) k18) (by kernel_rfl)) (by kernel_rfl)) (by kernel_rfl)) k22) (by kernel_rfl)) k23b) k24) k24b) k24c) (by kernel_rfl)) (by kernel_rfl)) k27) k28)
theorem said:Rows.TopFoundSaid:=
 OpenClaim.holds_of_cond 3 Tryz.f3 rfl rfl rfl rfl rfl rfl rfl ⟨rfl,rfl,rfl,rfl,rfl⟩ rfl rfl rfl rfl rfl (by kernel_rfl) Tryz.func3 closed
  (of_decide_eq_true (by kernel_rfl)) (by unfold Func.isWrapper;first|(rw[if_pos (by decide+kernel)];kernel_rfl)|(rw[if_neg (by decide+kernel)];exact⟨rfl,rfl⟩))
  (fun os started H enc _ F=>by rw[OpenClaim.pre_eq_preRow];exact lifted os started H enc F)
#print axioms said
end Go.Proofs.YthaeohlijigplaaGreat.topFound
