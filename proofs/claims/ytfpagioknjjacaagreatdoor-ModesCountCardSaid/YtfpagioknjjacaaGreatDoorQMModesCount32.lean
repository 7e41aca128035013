/- The texts LModesCount. -/
import Derived.Test.YtfpagioknjjacaaGreatDoorCards
import Derived.Test.YtfpagioknjjacaaGreatDoorTie
import Derived.WalkKit
import Derived.ProofKit
import Derived.OpenShut
import Derived.Deep.DeepHandedRow
import Derived.Lib.LaidTab
import Derived.Test.YtfpagioknjjacaaGreatDoorQMModesCount2
import Derived.Test.YtfpagioknjjacaaGreatDoorQMModesCount31
namespace Go.Proofs.YtfpagioknjjacaaGreatDoor.modesCount
open Go.ChangeShapes Go.WideShapes Go.ChangeAt Go.RowKit Go.Sx
set_option maxRecDepth 100000
set_option linter.unusedSimpArgs false
theorem own:ownKnob Tryz.prog.godebug=none:=by kernel_rfl
theorem laidOut:laidOutB Tryz.prog=true:=by kernel_rfl
theorem params:Tryz.f5.params.toList.all (fun t=>Tryz.prog.readableRec t&&decide (t<Tryz.prog.types.size))=true:=by kernel_rfl
theorem O2:Tryz.prog.globalNamed "math/bits.deBruijn32tab" =some 3:=by kernel_rfl
theorem J9:(Tryz.prog.globals[3]?).map (·.type)=some 414:=by kernel_rfl
theorem Sn:Tryz.prog.cellsOf 414=32:=by kernel_rfl
theorem Sp:Tryz.prog.cellsOf 5=1:=by kernel_rfl
theorem O3:Tryz.prog.globalNamed "math/bits.deBruijn64tab" =some 4:=by kernel_rfl
theorem Ka:(Tryz.prog.globals[4]?).map (·.type)=some 415:=by kernel_rfl
theorem Sq:Tryz.prog.cellsOf 415=64:=by kernel_rfl
theorem Sr:Tryz.prog.cellsOf 5=1:=by kernel_rfl
theorem O4:Tryz.prog.globalNamed "internal/strconv.uint64pow10" =some 2:=by kernel_rfl
theorem Kb:(Tryz.prog.globals[2]?).map (·.type)=some 411:=by kernel_rfl
theorem Ss:Tryz.prog.cellsOf 411=20:=by kernel_rfl
theorem Su:Tryz.prog.cellsOf 44=1:=by kernel_rfl
theorem table {W:World} (h:laidMetH Tryz.prog Rows.modesCountRow.laid W):wR W:=by
 intro g kd l hm
 have h0:laidMet Tryz.prog Rows.modesCountRow.laid W:=h
 have ht0:Lib.TabIs Tryz.prog W "math/bits.deBruijn32tab" .u8 [0,1,28,2,29,14,24,3,30,22,20,15,25,17,4,8,31,27,13,23,21,19,16,7,26,12,18,6,11,5,10,9]:=Lib.tabIs_of_head O2 J9 Tryz.underlying414 Tryz.underlying5 Sp Sn h0
 have h1:=Al h0
 have ht1:Lib.TabIs Tryz.prog W "math/bits.deBruijn64tab" .u8 [0,1,56,2,57,49,28,3,61,58,42,50,38,29,17,4,62,47,59,36,45,43,51,22,53,39,33,30,24,18,12,5,63,55,48,27,60,41,37,16,46,35,44,21,52,32,23,11,54,26,40,15,34,20,31,10,25,14,19,9,13,8,7,6]:=Lib.tabIs_of_head O3 Ka Tryz.underlying415 Tryz.underlying5 Sr Sq h1
 have h2:=Al h1
 have C3:Lib.TabIs Tryz.prog W "internal/strconv.uint64pow10" .u64 [1,10,100,1000,10000,100000,1000000,10000000,100000000,1000000000,10000000000,100000000000,1000000000000,10000000000000,100000000000000,1000000000000000,10000000000000000,100000000000000000,1000000000000000000,10000000000000000000]:=Lib.tabIs_of_head O4 Kb Tryz.underlying411 Tryz.underlying44 Su Ss h2
 simp only[ml,List.mem_cons,List.not_mem_nil,or_false,Prod.mk.injEq]at hm
 rcases hm with⟨rfl,rfl,rfl⟩|⟨rfl,rfl,rfl⟩|⟨rfl,rfl,rfl⟩
 ·refine⟨by simp,fun j x hx=>by rw[ht0.cell O2 j (List.getElem?_eq_some_iff.1 hx).1,List.getD_eq_getElem?_getD,hx];rfl, ?_⟩
  exact xA O2 ht0
 ·refine⟨by simp,fun j x hx=>by rw[ht1.cell O3 j (List.getElem?_eq_some_iff.1 hx).1,List.getD_eq_getElem?_getD,hx];rfl, ?_⟩
  exact xA O3 ht1
 ·refine⟨by simp,fun j x hx=>by rw[C3.cell O4 j (List.getElem?_eq_some_iff.1 hx).1,List.getD_eq_getElem?_getD,hx];rfl, ?_⟩
  exact xA O4 C3
theorem called (a0:List ((Int)×(Int))) (a1:List ((Int)×(Int))) (a2:Int) (a3:(Int)×(Int)) (w0:(a0).length≤maxLen∧∀x∈a0,((Lit.int .i64 x.1).wf=true)∧((Lit.int .u32 x.2).wf=true)) (w1:(a1).length≤maxLen∧∀x∈a1,((Lit.int .i64 x.1).wf=true)∧((Lit.int .u32 x.2).wf=true)) (w2:(Lit.int .u8 a2).wf=true) (w3:((Lit.int .i64 a3.1).wf=true)∧((Lit.int .u32 a3.2).wf=true)):af Tryz.prog 5 [(bX 2 (DJ (iF .i64) (iF .u32))) a0,(bX 2 (DJ (iF .i64) (iF .u32))) a1,(iF .u8) a2,(DJ (iF .i64) (iF .u32)) a3] [] (.val (.bool true)) [] []:=zf a0 a1 a2 a3 w0 w1 w2 w3
theorem O5 (H:Type) (enc:TypeId×Value→H) (W:World) (base:Nat) (args:Array Value) (ds gs:List (DataW H)) (before:List MemPlace)
  (bF:∀(j:Nat) t v,Tryz.f5.params[j]? =some t→args[j]? =some v→Value.okWide Tryz.prog W .any base t v)
  (hW:DataW.Whole enc Tryz.prog Tryz.f5.params.toList Rows.modesCountSpec.vars false W args.toList ds gs before) (hL:laidMetH Tryz.prog Rows.modesCountRow.laid W):
  Calls Tryz.prog 5 args W fun e W'=>∃v,e= .returned v∧Rows.modesCountSpec.post enc Tryz.prog Tryz.f5 false true false false W args v W':=by
 have hW':=hW
 obtain⟨p,q,hA0,hV,rfl,hfz,SF⟩:=hW
 have hA:DataW.TrodAll enc Tryz.prog W 0 (fun _=>true) true Tryz.f5.params.toList args.toList ds p:=hA0
 rw[Tryz.params5]at hA bF
 obtain⟨v0,vs0,d0,ds0,p0,q0,zP,rfl,rfl,h0,r0⟩:=trodAll_cons hA
 obtain⟨v1,vs1,d1,ds1,p1,q1,rfl,rfl,rfl,h1,r1⟩:=trodAll_cons r0
 obtain⟨v2,vs2,d2,ds2,p2,q2,rfl,rfl,rfl,h2,r2⟩:=trodAll_cons r1
 obtain⟨v3,vs3,d3,ds3,p3,q3,rfl,rfl,rfl,h3,r3⟩:=trodAll_cons r2
 obtain⟨rfl,rfl,rfl⟩:=trodAll_nil r3
 obtain rfl:args= #[v0,v1,v2,v3]:=by cases args;simp_all
 obtain⟨rfl,rfl⟩:=trodVars_none hV
 have hg:=table hL
 obtain⟨n0,t0⟩:=h0
 obtain⟨a0,w0,c0⟩:=(show dB enc Tryz.prog hg 22 (bX 2 (DJ (iF .i64) (iF .u32))) (fun a=>(a).length≤maxLen∧∀x∈a,((Lit.int .i64 x.1).wf=true)∧((Lit.int .u32 x.2).wf=true))from dB.slice (w:=2) Tryz.underlying22 (by kernel_rfl) (by decide) (fun _=>rfl) (dB.BN Tryz.underlying25 rfl (by kernel_rfl) (by kernel_rfl) (dB.int Tryz.underlying2) (dB.int Tryz.underlying23))) _ _ _ t0
 have e0:ct ((bX 2 (DJ (iF .i64) (iF .u32))) a0) v0.cells.toList=v0:=by obtain⟨_,_,_,rfl⟩:=okWide_slice Tryz.underlying22 (bF 0 22 v0 rfl rfl);exact BO rfl (by simp[Value.cells])
 obtain⟨n1,t1⟩:=h1
 obtain⟨a1,w1,c1⟩:=(show dB enc Tryz.prog hg 22 (bX 2 (DJ (iF .i64) (iF .u32))) (fun a=>(a).length≤maxLen∧∀x∈a,((Lit.int .i64 x.1).wf=true)∧((Lit.int .u32 x.2).wf=true))from dB.slice (w:=2) Tryz.underlying22 (by kernel_rfl) (by decide) (fun _=>rfl) (dB.BN Tryz.underlying25 rfl (by kernel_rfl) (by kernel_rfl) (dB.int Tryz.underlying2) (dB.int Tryz.underlying23))) _ _ _ t1
 have e1:ct ((bX 2 (DJ (iF .i64) (iF .u32))) a1) v1.cells.toList=v1:=by obtain⟨_,_,_,rfl⟩:=okWide_slice Tryz.underlying22 (bF 1 22 v1 rfl rfl);exact BO rfl (by simp[Value.cells])
 obtain⟨n2,t2⟩:=h2
 obtain⟨a2,w2,c2⟩:=(show dB enc Tryz.prog hg 5 (iF .u8) (fun a=>(Lit.int .u8 a).wf=true)from dB.int Tryz.underlying5) _ _ _ t2
 have e2:ct ((iF .u8) a2) v2.cells.toList=v2:=by obtain⟨_,rfl⟩:=okWide_int Tryz.underlying5 (bF 2 5 v2 rfl rfl);exact BO rfl (by simp[Value.cells])
 obtain⟨n3,t3⟩:=h3
 obtain⟨a3,w3,c3⟩:=(show dB enc Tryz.prog hg 25 (DJ (iF .i64) (iF .u32)) (fun a=>((Lit.int .i64 a.1).wf=true)∧((Lit.int .u32 a.2).wf=true))from dB.BN Tryz.underlying25 rfl (by kernel_rfl) (by kernel_rfl) (dB.int Tryz.underlying2) (dB.int Tryz.underlying23)) _ _ _ t3
 have e3:ct ((DJ (iF .i64) (iF .u32)) a3) v3.cells.toList=v3:=by obtain⟨cs,hc,_⟩:=okWide_struct Tryz.underlying25 (bF 3 25 v3 rfl rfl);exact PM rfl hc
 have hz:au (nz hg) [(bX 2 (DJ (iF .i64) (iF .u32))) a0,(bX 2 (DJ (iF .i64) (iF .u32))) a1,(iF .u8) a2,(DJ (iF .i64) (iF .u32)) a3] [v0.cells.toList,v1.cells.toList,v2.cells.toList,v3.cells.toList]:=by simp only[au];exact⟨_,_,rfl,c0,_,_,rfl,c1,_,_,rfl,c2,_,_,rfl,c3,rfl⟩
 have hr:=Ln ⟨Tryz.f5,Tryz.func5,rfl,by kernel_rfl⟩ (called a0 a1 a2 a3 w0 w1 w2 w3) hg hz
 simp only[List.zipWith_cons_cons,List.zipWith_nil_left,List.zipWith_nil_right,e0,e1,e2,e3]at hr
 refine hr.mono fun e W' ⟨he,hb⟩=> ?_
 subst he
 exact⟨_,rfl,Ll laidOut params rfl rfl Tryz.underlying4 hW' ⟨rfl,rfl,rfl⟩ hb⟩
noncomputable def u5 (os:Os):World:=
 {World.holding Tryz.prog os ⟨#[], #[],[]⟩with heap:=((World.holding Tryz.prog os ⟨#[], #[],[]⟩).heap |>.modify 3 (fun|.cells _ t frozen=>.cells #[.int .u8 0,.int .u8 1,.int .u8 28,.int .u8 2,.int .u8 29,.int .u8 14,.int .u8 24,.int .u8 3,.int .u8 30,.int .u8 22,.int .u8 20,.int .u8 15,.int .u8 25,.int .u8 17,.int .u8 4,.int .u8 8,.int .u8 31,.int .u8 27,.int .u8 13,.int .u8 23,.int .u8 21,.int .u8 19,.int .u8 16,.int .u8 7,.int .u8 26,.int .u8 12,.int .u8 18,.int .u8 6,.int .u8 11,.int .u8 5,.int .u8 10,.int .u8 9] t frozen|o=>o) |>.modify 4 (fun|.cells _ t frozen=>.cells #[.int .u8 0,.int .u8 1,.int .u8 56,.int .u8 2,.int .u8 57,.int .u8 49,.int .u8 28,.int .u8 3,.int .u8 61,.int .u8 58,.int .u8 42,.int .u8 50,.int .u8 38,.int .u8 29,.int .u8 17,.int .u8 4,.int .u8 62,.int .u8 47,.int .u8 59,.int .u8 36,.int .u8 45,.int .u8 43,.int .u8 51,.int .u8 22,.int .u8 53,.int .u8 39,.int .u8 33,.int .u8 30,.int .u8 24,.int .u8 18,.int .u8 12,.int .u8 5,.int .u8 63,.int .u8 55,.int .u8 48,.int .u8 27,.int .u8 60,.int .u8 41,.int .u8 37,.int .u8 16,.int .u8 46,.int .u8 35,.int .u8 44,.int .u8 21,.int .u8 52,.int .u8 32,.int .u8 23,.int .u8 11,.int .u8 54,.int .u8 26,.int .u8 40,.int .u8 15,.int .u8 34,.int .u8 20,.int .u8 31,.int .u8 10,.int .u8 25,.int .u8 14,.int .u8 19,.int .u8 9,.int .u8 13,.int .u8 8,.int .u8 7,.int .u8 6] t frozen|o=>o) |>.modify 2 (fun|.cells _ t frozen=>.cells #[.int .u64 1,.int .u64 10,.int .u64 100,.int .u64 1000,.int .u64 10000,.int .u64 100000,.int .u64 1000000,.int .u64 10000000,.int .u64 100000000,.int .u64 1000000000,.int .u64 10000000000,.int .u64 100000000000,.int .u64 1000000000000,.int .u64 10000000000000,.int .u64 100000000000000,.int .u64 1000000000000000,.int .u64 10000000000000000,.int .u64 100000000000000000,.int .u64 1000000000000000000,.int .u64 10000000000000000000] t frozen|o=>o))}
theorem O6 (os:Os):laidMet Tryz.prog Rows.modesCountRow.laid ((u5 os).forCall (fun _ _=>0) ⟨#[], #[.slice none 0 0,.slice none 0 0,.int .u8 0,.agg #[.int .i64 0,.int .u32 0]],[]⟩).memory:=
 laidMet_of_run' 8 (by kernel_rfl) (by kernel_rfl)
theorem reads (os:Os) {H:Type} (enc:TypeId×Value→H):∃places,DataW.whole enc Tryz.prog ((u5 os).forCall (fun _ _=>0) ⟨#[], #[.slice none 0 0,.slice none 0 0,.int .u8 0,.agg #[.int .i64 0,.int .u32 0]],[]⟩).memory Tryz.f5.params.toList Rows.modesCountSpec.vars false #[.slice none 0 0,.slice none 0 0,.int .u8 0,.agg #[.int .i64 0,.int .u32 0]].toList 8=some ([.nil,.nil,.lit (.int .u8 0),.agg [.lit (.int .i64 0),.lit (.int .u32 0)]],[],places):=
 ⟨[],by kernel_rfl⟩
theorem lifted (os:Os) (started:os.Started) (H:Type) (enc:TypeId×Value→H) (F:Stop.Interp):
  ReturnsInHanded {} Tryz.checked os 5 .any ((OpenSpec.ofChange Rows.modesCountSpec).preRow enc Tryz.prog Tryz.f5 Rows.modesCountRow.domain false Rows.modesCountRow.laid) (((OpenSpec.ofChange Rows.modesCountSpec).at F).post enc Tryz.prog Tryz.f5 false true false false):=by
 obtain⟨places,hx⟩:=reads os enc
 refine returnsInHanded_of_row (C:=Tryz.checked) (s:=OpenSpec.ofChange Rows.modesCountSpec) own started (by kernel_rfl) Tryz.func5
  (witness_row_at (enc:=enc) (C:=Tryz.checked) false (u5 os) #[.slice none 0 0,.slice none 0 0,.int .u8 0,.agg #[.int .i64 0,.int .u32 0]] rfl (by kernel_rfl) (by kernel_rfl) (by kernel_rfl)
   (OpenSpec.preRow_of_cond 8 hx (by kernel_rfl) (fun k hk=>by cases hk) (by kernel_rfl) (O6 os))) ?_
 intro W base args ds gs before bF hW _ _ _ hL _ _
 exact O5 H enc W base args ds gs before bF hW hL
theorem bt {a b:Bool} (x:a=true) (y:b=true):(a&&b)=true:=by rw[x,y];rfl
theorem k1:(Rows.modesCountRow.wf (OpenSpec.ofChange (OpenSpec.ofChange Rows.modesCountSpec).bare))=true:=by kernel_rfl
theorem k2:(laidOutB Tryz.pinned.checked.prog)=true:=by kernel_rfl
theorem k3:(mapsRowed Tryz.pinned.checked.prog)=true:=by kernel_rfl
theorem k4:(Tryz.f5.params.all (Tryz.pinned.checked.prog.readableRec ·))=true:=by kernel_rfl
theorem k5:(namedTie Tryz.pinned.checked.prog Rows.modesCountRow.named (OpenSpec.ofChange Rows.modesCountSpec).bare.vars)=true:=by kernel_rfl
theorem k6:(Rows.modesCountRow.stops==[])=true:=by kernel_rfl
theorem k7:(Tryz.pinned.checked.prog.stops==[])=true:=by kernel_rfl
theorem k8:(Rows.modesCountRow.knobs==[])=true:=by kernel_rfl
theorem k9:(Tryz.pinned.checked.prog.stopKnobs==[])=true:=by kernel_rfl
theorem k10:(Rows.modesCountRow.inPlace==Tryz.pinned.checked.prog.inPlace 5)=true:=by kernel_rfl
theorem k11:(Rows.modesCountRow.unfollowed==Tryz.pinned.checked.prog.unfollowed 5)=true:=by kernel_rfl
theorem k12:(Rows.modesCountRow.recurses==Tryz.pinned.checked.prog.recurses 5)=true:=by kernel_rfl
theorem k13:(Rows.modesCountRow.named==Tryz.pinned.checked.prog.varsNamed 5)=true:=by kernel_rfl
theorem k14:(Rows.modesCountRow.maps==(Tryz.f5.params.toList++(OpenSpec.ofChange Rows.modesCountSpec).bare.plain.varTypes Tryz.pinned.checked.prog).any (Tryz.pinned.checked.prog.mapsRec ·))=true:=by kernel_rfl
theorem k15:(Rows.modesCountRow.ifaces==(Tryz.f5.params.toList++(OpenSpec.ofChange Rows.modesCountSpec).bare.plain.varTypes Tryz.pinned.checked.prog).any (Tryz.pinned.checked.prog.ifacesRec ·))=true:=by kernel_rfl
theorem k16:(Rows.modesCountRow.mapsOut==Tryz.pinned.checked.prog.mapsAmong Tryz.f5.resultTypes.toList)=true:=by kernel_rfl
theorem k17:(Rows.modesCountRow.loops==(Tryz.f5.params.toList++(OpenSpec.ofChange Rows.modesCountSpec).bare.plain.varTypes Tryz.pinned.checked.prog).any (Tryz.pinned.checked.prog.loopsFrom ·))=true:=by kernel_rfl
theorem air:(Rows.modesCountRow.wideKeys==(Tryz.f5.params.toList++(OpenSpec.ofChange Rows.modesCountSpec).bare.plain.varTypes Tryz.pinned.checked.prog++Tryz.f5.resultTypes.toList).any (Tryz.pinned.checked.prog.wideKeysFrom ·))=true:=by kernel_rfl
theorem k18:((OpenSpec.ofChange Rows.modesCountSpec).bare.vars.all (Tryz.pinned.checked.prog.varReadable ·))=true:=by kernel_rfl
theorem k22:(Rows.modesCountRow.plainKeys==Tryz.pinned.checked.prog.plainKeys)=true:=by kernel_rfl
theorem ais:(Tryz.pinned.checked.prog.stopsHeard)=true:=by kernel_rfl
theorem k24:(Tryz.pinned.checked.prog.mayEnter)=true:=by kernel_rfl
theorem ait:(Rows.modesCountRow.lifted==Tryz.pinned.checked.prog.liftsFinal)=true:=by kernel_rfl
theorem aiu:(Tryz.pinned.checked.prog.make==some Rows.modesCountRow.make)=true:=by kernel_rfl
theorem k27:(Rows.modesCountRow.veiled==(Tryz.f5.params.toList++(OpenSpec.ofChange Rows.modesCountSpec).bare.plain.varTypes Tryz.pinned.checked.prog++Tryz.f5.resultTypes.toList).any (Tryz.pinned.checked.prog.veiledRec ·))=true:=by kernel_rfl
theorem k28:(Rows.modesCountRow.veiledFits Tryz.pinned.checked.prog Tryz.f5.params.toList (Tryz.f5.params.toList++(OpenSpec.ofChange Rows.modesCountSpec).bare.plain.varTypes Tryz.pinned.checked.prog++Tryz.f5.resultTypes.toList))=true:=by kernel_rfl
theorem closed:joinedFacts Tryz.pinned.checked.prog 5 Tryz.f5 (OpenSpec.ofChange Rows.modesCountSpec).bare Rows.modesCountRow=true:=(bt (bt (bt (bt (bt (bt (bt (bt (bt (bt (bt (bt (bt (bt (bt (bt (bt (bt (bt (bt (bt (bt (bt (bt (bt (bt (bt (bt (bt (bt (bt k1 k2) k3) k4) k5) k6) k7) k8) k9) k10) k11) k12) k13) k14) k15) k16) k17) air) k18) (by kernel_rfl)) (by kernel_rfl)) (by kernel_rfl)) k22) (by kernel_rfl)) ais) k24) ait) aiu) (by kernel_rfl)) (by kernel_rfl)) k27) k28)
theorem said:Rows.ModesCountSaid:=
 OpenClaim.holds_of_cond 5 Tryz.f5 rfl rfl rfl rfl rfl rfl rfl ⟨rfl,rfl,rfl,rfl,rfl⟩ rfl rfl rfl rfl rfl (by kernel_rfl) Tryz.func5 closed
  (of_decide_eq_true (by kernel_rfl)) (by unfold Func.isWrapper;first|(rw[if_pos (by decide+kernel)];kernel_rfl)|(rw[if_neg (by decide+kernel)];exact⟨rfl,rfl⟩))
  (fun os started H enc _ F=>by rw[OpenClaim.pre_eq_preRow];exact lifted os started H enc F)
end Go.Proofs.YtfpagioknjjacaaGreatDoor.modesCount
