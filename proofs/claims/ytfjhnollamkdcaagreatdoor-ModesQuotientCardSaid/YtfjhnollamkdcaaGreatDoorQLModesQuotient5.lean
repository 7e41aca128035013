/- ModesQuotient returns true for every input and leaves its arguments as they were: the row, and the card that ties its tables to the program's text. -/
import Derived.Test.YtfjhnollamkdcaaGreatDoorCards
import Derived.Test.YtfjhnollamkdcaaGreatDoorTie
import Derived.WalkKit
import Derived.ProofKit
import Derived.OpenShut
import Derived.Deep.DeepHandedRow
import Derived.Lib.LaidTab
import Derived.Test.YtfjhnollamkdcaaGreatDoorQLModesQuotient4
namespace Go.Proofs.YtfjhnollamkdcaaGreatDoor.modesQuotient
open Go.ChangeShapes Go.WideShapes Go.ChangeAt Go.RowKit Go.Sx
set_option maxRecDepth 100000
set_option linter.unusedSimpArgs false
theorem own:ownKnob Tryz.prog.godebug=none:=by kernel_rfl
theorem laidOut:laidOutB Tryz.prog=true:=by kernel_rfl
theorem params:Tryz.f10.params.toList.all (fun t=>Tryz.prog.readableRec t&&decide (t<Tryz.prog.types.size))=true:=by kernel_rfl
theorem gTab0:Tryz.prog.globalNamed "math/bits.deBruijn32tab" =some 3:=by kernel_rfl
theorem gTabType0:(Tryz.prog.globals[3]?).map (·.type)=some 291:=by kernel_rfl
theorem cellsA0:Tryz.prog.cellsOf 291=32:=by kernel_rfl
theorem cellsE0:Tryz.prog.cellsOf 5=1:=by kernel_rfl
theorem gTab1:Tryz.prog.globalNamed "math/bits.deBruijn64tab" =some 4:=by kernel_rfl
theorem gTabType1:(Tryz.prog.globals[4]?).map (·.type)=some 292:=by kernel_rfl
theorem cellsA1:Tryz.prog.cellsOf 292=64:=by kernel_rfl
theorem cellsE1:Tryz.prog.cellsOf 5=1:=by kernel_rfl
theorem gTab2:Tryz.prog.globalNamed "internal/strconv.uint64pow10" =some 2:=by kernel_rfl
theorem gTabType2:(Tryz.prog.globals[2]?).map (·.type)=some 288:=by kernel_rfl
theorem cellsA2:Tryz.prog.cellsOf 288=20:=by kernel_rfl
theorem cellsE2:Tryz.prog.cellsOf 41=1:=by kernel_rfl
theorem table {W:World} (h:laidMetH Tryz.prog Rows.modesQuotientRow.laid W):TabsW W:=by
 intro g kd l hm
 have h0:laidMet Tryz.prog Rows.modesQuotientRow.laid W:=h
 have ht0:Lib.TabIs Tryz.prog W "math/bits.deBruijn32tab" .u8 [0,1,28,2,29,14,24,3,30,22,20,15,25,17,4,8,31,27,13,23,21,19,16,7,26,12,18,6,11,5,10,9]:=Lib.tabIs_of_head gTab0 gTabType0 Tryz.underlying291 Tryz.underlying5 cellsE0 cellsA0 h0
 have h1:=laid_tail h0
 have ht1:Lib.TabIs Tryz.prog W "math/bits.deBruijn64tab" .u8 [0,1,56,2,57,49,28,3,61,58,42,50,38,29,17,4,62,47,59,36,45,43,51,22,53,39,33,30,24,18,12,5,63,55,48,27,60,41,37,16,46,35,44,21,52,32,23,11,54,26,40,15,34,20,31,10,25,14,19,9,13,8,7,6]:=Lib.tabIs_of_head gTab1 gTabType1 Tryz.underlying292 Tryz.underlying5 cellsE1 cellsA1 h1
 have h2:=laid_tail h1
 have ht2:Lib.TabIs Tryz.prog W "internal/strconv.uint64pow10" .u64 [1,10,100,1000,10000,100000,1000000,10000000,100000000,1000000000,10000000000,100000000000,1000000000000,10000000000000,100000000000000,1000000000000000,10000000000000000,100000000000000000,1000000000000000000,10000000000000000000]:=Lib.tabIs_of_head gTab2 gTabType2 Tryz.underlying288 Tryz.underlying41 cellsE2 cellsA2 h2
 simp only[globTabs,List.mem_cons,List.not_mem_nil,or_false,Prod.mk.injEq]at hm
 rcases hm with⟨rfl,rfl,rfl⟩|⟨rfl,rfl,rfl⟩|⟨rfl,rfl,rfl⟩
 ·refine⟨by simp,fun j x hx=>by rw[ht0.cell gTab0 j (List.getElem?_eq_some_iff.1 hx).1,List.getD_eq_getElem?_getD,hx];rfl, ?_⟩
  exact tab_heap gTab0 ht0
 ·refine⟨by simp,fun j x hx=>by rw[ht1.cell gTab1 j (List.getElem?_eq_some_iff.1 hx).1,List.getD_eq_getElem?_getD,hx];rfl, ?_⟩
  exact tab_heap gTab1 ht1
 ·refine⟨by simp,fun j x hx=>by rw[ht2.cell gTab2 j (List.getElem?_eq_some_iff.1 hx).1,List.getD_eq_getElem?_getD,hx];rfl, ?_⟩
  exact tab_heap gTab2 ht2
theorem called (a0:List ((Int)×(Int))) (a1:List ((Int)×(Int))) (a2:List ((Int)×(Int))) (a3:Int) (a4:(Int)×(Int)) (a5:(Int)×(Int)) (w0:(a0).length≤maxLen∧∀x∈a0,((Lit.int .i64 x.1).wf=true)∧((Lit.int .u32 x.2).wf=true)) (w1:(a1).length≤maxLen∧∀x∈a1,((Lit.int .i64 x.1).wf=true)∧((Lit.int .u32 x.2).wf=true)) (w2:(a2).length≤maxLen∧∀x∈a2,((Lit.int .i64 x.1).wf=true)∧((Lit.int .u32 x.2).wf=true)) (w3:(Lit.int .u8 a3).wf=true) (w4:((Lit.int .i64 a4.1).wf=true)∧((Lit.int .u32 a4.2).wf=true)) (w5:((Lit.int .i64 a5.1).wf=true)∧((Lit.int .u32 a5.2).wf=true)):CallOK Tryz.prog 10 [(mvec 2 (ag2 (iel .i64) (iel .u32))) a0,(mvec 2 (ag2 (iel .i64) (iel .u32))) a1,(mvec 2 (ag2 (iel .i64) (iel .u32))) a2,(iel .u8) a3,(ag2 (iel .i64) (iel .u32)) a4,(ag2 (iel .i64) (iel .u32)) a5] [] (.val (.bool true)) [] []:=law_ModesQuotient a0 a1 a2 a3 a4 a5 w0 w1 w2 w3 w4 w5
theorem contract (H:Type) (enc:TypeId×Value→H) (W:World) (base:Nat) (args:Array Value) (ds gs:List (DataW H)) (before:List MemPlace)
  (hval:∀(j:Nat) t v,Tryz.f10.params[j]? =some t→args[j]? =some v→Value.okWide Tryz.prog W .any base t v)
  (hW:DataW.Whole enc Tryz.prog Tryz.f10.params.toList Rows.modesQuotientSpec.vars false W args.toList ds gs before) (hL:laidMetH Tryz.prog Rows.modesQuotientRow.laid W):
  Calls Tryz.prog 10 args W fun e W'=>∃v,e= .returned v∧Rows.modesQuotientSpec.post enc Tryz.prog Tryz.f10 false true false false W args v W':=by
 have hW':=hW
 obtain⟨p,q,hA0,hV,rfl,hfz,hnd⟩:=hW
 have hA:DataW.TrodAll enc Tryz.prog W 0 (fun _=>true) true Tryz.f10.params.toList args.toList ds p:=hA0
 rw[Tryz.params10]at hA hval
 obtain⟨v0,vs0,d0,ds0,p0,q0,hargs,rfl,rfl,h0,r0⟩:=trodAll_cons hA
 obtain⟨v1,vs1,d1,ds1,p1,q1,rfl,rfl,rfl,h1,r1⟩:=trodAll_cons r0
 obtain⟨v2,vs2,d2,ds2,p2,q2,rfl,rfl,rfl,h2,r2⟩:=trodAll_cons r1
 obtain⟨v3,vs3,d3,ds3,p3,q3,rfl,rfl,rfl,h3,r3⟩:=trodAll_cons r2
 obtain⟨v4,vs4,d4,ds4,p4,q4,rfl,rfl,rfl,h4,r4⟩:=trodAll_cons r3
 obtain⟨v5,vs5,d5,ds5,p5,q5,rfl,rfl,rfl,h5,r5⟩:=trodAll_cons r4
 obtain⟨rfl,rfl,rfl⟩:=trodAll_nil r5
 obtain rfl:args= #[v0,v1,v2,v3,v4,v5]:=by cases args;simp_all
 obtain⟨rfl,rfl⟩:=trodVars_none hV
 have hg:=table hL
 obtain⟨n0,t0⟩:=h0
 obtain⟨a0,w0,c0⟩:=(show Opens enc Tryz.prog hg 22 (mvec 2 (ag2 (iel .i64) (iel .u32))) (fun a=>(a).length≤maxLen∧∀x∈a,((Lit.int .i64 x.1).wf=true)∧((Lit.int .u32 x.2).wf=true))from Opens.slice (w:=2) Tryz.underlying22 (by kernel_rfl) (by decide) (fun _=>rfl) (Opens.struct2 Tryz.underlying25 rfl (by kernel_rfl) (by kernel_rfl) (Opens.int Tryz.underlying2) (Opens.int Tryz.underlying23))) _ _ _ t0
 have e0:mkV ((mvec 2 (ag2 (iel .i64) (iel .u32))) a0) v0.cells.toList=v0:=by obtain⟨_,_,_,rfl⟩:=okWide_slice Tryz.underlying22 (hval 0 22 v0 rfl rfl);exact mkV_one rfl (by simp[Value.cells])
 obtain⟨n1,t1⟩:=h1
 obtain⟨a1,w1,c1⟩:=(show Opens enc Tryz.prog hg 22 (mvec 2 (ag2 (iel .i64) (iel .u32))) (fun a=>(a).length≤maxLen∧∀x∈a,((Lit.int .i64 x.1).wf=true)∧((Lit.int .u32 x.2).wf=true))from Opens.slice (w:=2) Tryz.underlying22 (by kernel_rfl) (by decide) (fun _=>rfl) (Opens.struct2 Tryz.underlying25 rfl (by kernel_rfl) (by kernel_rfl) (Opens.int Tryz.underlying2) (Opens.int Tryz.underlying23))) _ _ _ t1
 have e1:mkV ((mvec 2 (ag2 (iel .i64) (iel .u32))) a1) v1.cells.toList=v1:=by obtain⟨_,_,_,rfl⟩:=okWide_slice Tryz.underlying22 (hval 1 22 v1 rfl rfl);exact mkV_one rfl (by simp[Value.cells])
 obtain⟨n2,t2⟩:=h2
 obtain⟨a2,w2,c2⟩:=(show Opens enc Tryz.prog hg 22 (mvec 2 (ag2 (iel .i64) (iel .u32))) (fun a=>(a).length≤maxLen∧∀x∈a,((Lit.int .i64 x.1).wf=true)∧((Lit.int .u32 x.2).wf=true))from Opens.slice (w:=2) Tryz.underlying22 (by kernel_rfl) (by decide) (fun _=>rfl) (Opens.struct2 Tryz.underlying25 rfl (by kernel_rfl) (by kernel_rfl) (Opens.int Tryz.underlying2) (Opens.int Tryz.underlying23))) _ _ _ t2
 have e2:mkV ((mvec 2 (ag2 (iel .i64) (iel .u32))) a2) v2.cells.toList=v2:=by obtain⟨_,_,_,rfl⟩:=okWide_slice Tryz.underlying22 (hval 2 22 v2 rfl rfl);exact mkV_one rfl (by simp[Value.cells])
 obtain⟨n3,t3⟩:=h3
 obtain⟨a3,w3,c3⟩:=(show Opens enc Tryz.prog hg 5 (iel .u8) (fun a=>(Lit.int .u8 a).wf=true)from Opens.int Tryz.underlying5) _ _ _ t3
 have e3:mkV ((iel .u8) a3) v3.cells.toList=v3:=by obtain⟨_,rfl⟩:=okWide_int Tryz.underlying5 (hval 3 5 v3 rfl rfl);exact mkV_one rfl (by simp[Value.cells])
 obtain⟨n4,t4⟩:=h4
 obtain⟨a4,w4,c4⟩:=(show Opens enc Tryz.prog hg 25 (ag2 (iel .i64) (iel .u32)) (fun a=>((Lit.int .i64 a.1).wf=true)∧((Lit.int .u32 a.2).wf=true))from Opens.struct2 Tryz.underlying25 rfl (by kernel_rfl) (by kernel_rfl) (Opens.int Tryz.underlying2) (Opens.int Tryz.underlying23)) _ _ _ t4
 have e4:mkV ((ag2 (iel .i64) (iel .u32)) a4) v4.cells.toList=v4:=by obtain⟨cs,hc,_⟩:=okWide_struct Tryz.underlying25 (hval 4 25 v4 rfl rfl);exact mkV_agg rfl hc
 obtain⟨n5,t5⟩:=h5
 obtain⟨a5,w5,c5⟩:=(show Opens enc Tryz.prog hg 25 (ag2 (iel .i64) (iel .u32)) (fun a=>((Lit.int .i64 a.1).wf=true)∧((Lit.int .u32 a.2).wf=true))from Opens.struct2 Tryz.underlying25 rfl (by kernel_rfl) (by kernel_rfl) (Opens.int Tryz.underlying2) (Opens.int Tryz.underlying23)) _ _ _ t5
 have e5:mkV ((ag2 (iel .i64) (iel .u32)) a5) v5.cells.toList=v5:=by obtain⟨cs,hc,_⟩:=okWide_struct Tryz.underlying25 (hval 5 25 v5 rfl rfl);exact mkV_agg rfl hc
 have hz:HasZ (allRho hg) [(mvec 2 (ag2 (iel .i64) (iel .u32))) a0,(mvec 2 (ag2 (iel .i64) (iel .u32))) a1,(mvec 2 (ag2 (iel .i64) (iel .u32))) a2,(iel .u8) a3,(ag2 (iel .i64) (iel .u32)) a4,(ag2 (iel .i64) (iel .u32)) a5] [v0.cells.toList,v1.cells.toList,v2.cells.toList,v3.cells.toList,v4.cells.toList,v5.cells.toList]:=by simp only[HasZ];exact⟨_,_,rfl,c0,_,_,rfl,c1,_,_,rfl,c2,_,_,rfl,c3,_,_,rfl,c4,_,_,rfl,c5,rfl⟩
 have hr:=law_runA ⟨Tryz.f10,Tryz.func10,rfl,by kernel_rfl⟩ (called a0 a1 a2 a3 a4 a5 w0 w1 w2 w3 w4 w5) hg hz
 simp only[List.zipWith_cons_cons,List.zipWith_nil_left,List.zipWith_nil_right,e0,e1,e2,e3,e4,e5]at hr
 refine hr.mono fun e W' ⟨he,hb⟩=> ?_
 subst he
 exact⟨_,rfl,law_post laidOut params rfl rfl Tryz.underlying4 hW' ⟨rfl,rfl,rfl⟩ hb⟩
noncomputable def laidWorld (os:Os):World:=
 {World.holding Tryz.prog os ⟨#[], #[],[]⟩with heap:=((World.holding Tryz.prog os ⟨#[], #[],[]⟩).heap |>.modify 3 (fun|.cells _ t frozen=>.cells #[.int .u8 0,.int .u8 1,.int .u8 28,.int .u8 2,.int .u8 29,.int .u8 14,.int .u8 24,.int .u8 3,.int .u8 30,.int .u8 22,.int .u8 20,.int .u8 15,.int .u8 25,.int .u8 17,.int .u8 4,.int .u8 8,.int .u8 31,.int .u8 27,.int .u8 13,.int .u8 23,.int .u8 21,.int .u8 19,.int .u8 16,.int .u8 7,.int .u8 26,.int .u8 12,.int .u8 18,.int .u8 6,.int .u8 11,.int .u8 5,.int .u8 10,.int .u8 9] t frozen|o=>o) |>.modify 4 (fun|.cells _ t frozen=>.cells #[.int .u8 0,.int .u8 1,.int .u8 56,.int .u8 2,.int .u8 57,.int .u8 49,.int .u8 28,.int .u8 3,.int .u8 61,.int .u8 58,.int .u8 42,.int .u8 50,.int .u8 38,.int .u8 29,.int .u8 17,.int .u8 4,.int .u8 62,.int .u8 47,.int .u8 59,.int .u8 36,.int .u8 45,.int .u8 43,.int .u8 51,.int .u8 22,.int .u8 53,.int .u8 39,.int .u8 33,.int .u8 30,.int .u8 24,.int .u8 18,.int .u8 12,.int .u8 5,.int .u8 63,.int .u8 55,.int .u8 48,.int .u8 27,.int .u8 60,.int .u8 41,.int .u8 37,.int .u8 16,.int .u8 46,.int .u8 35,.int .u8 44,.int .u8 21,.int .u8 52,.int .u8 32,.int .u8 23,.int .u8 11,.int .u8 54,.int .u8 26,.int .u8 40,.int .u8 15,.int .u8 34,.int .u8 20,.int .u8 31,.int .u8 10,.int .u8 25,.int .u8 14,.int .u8 19,.int .u8 9,.int .u8 13,.int .u8 8,.int .u8 7,.int .u8 6] t frozen|o=>o) |>.modify 2 (fun|.cells _ t frozen=>.cells #[.int .u64 1,.int .u64 10,.int .u64 100,.int .u64 1000,.int .u64 10000,.int .u64 100000,.int .u64 1000000,.int .u64 10000000,.int .u64 100000000,.int .u64 1000000000,.int .u64 10000000000,.int .u64 100000000000,.int .u64 1000000000000,.int .u64 10000000000000,.int .u64 100000000000000,.int .u64 1000000000000000,.int .u64 10000000000000000,.int .u64 100000000000000000,.int .u64 1000000000000000000,.int .u64 10000000000000000000] t frozen|o=>o))}
theorem laid_met (os:Os):laidMet Tryz.prog Rows.modesQuotientRow.laid ((laidWorld os).forCall (fun _ _=>0) ⟨#[], #[.slice none 0 0,.slice none 0 0,.slice none 0 0,.int .u8 0,.agg #[.int .i64 0,.int .u32 0],.agg #[.int .i64 0,.int .u32 0]],[]⟩).memory:=
 laidMet_of_run' 8 (by kernel_rfl) (by kernel_rfl)
theorem reads (os:Os) {H:Type} (enc:TypeId×Value→H):∃places,DataW.whole enc Tryz.prog ((laidWorld os).forCall (fun _ _=>0) ⟨#[], #[.slice none 0 0,.slice none 0 0,.slice none 0 0,.int .u8 0,.agg #[.int .i64 0,.int .u32 0],.agg #[.int .i64 0,.int .u32 0]],[]⟩).memory Tryz.f10.params.toList Rows.modesQuotientSpec.vars false #[.slice none 0 0,.slice none 0 0,.slice none 0 0,.int .u8 0,.agg #[.int .i64 0,.int .u32 0],.agg #[.int .i64 0,.int .u32 0]].toList 8=some ([.nil,.nil,.nil,.lit (.int .u8 0),.agg [.lit (.int .i64 0),.lit (.int .u32 0)],.agg [.lit (.int .i64 0),.lit (.int .u32 0)]],[],places):=
 ⟨[],by kernel_rfl⟩
theorem lifted (os:Os) (started:os.Started) (H:Type) (enc:TypeId×Value→H) (F:Stop.Interp):
  ReturnsInHanded {} Tryz.checked os 10 .any ((OpenSpec.ofChange Rows.modesQuotientSpec).preRow enc Tryz.prog Tryz.f10 Rows.modesQuotientRow.domain false Rows.modesQuotientRow.laid) (((OpenSpec.ofChange Rows.modesQuotientSpec).at F).post enc Tryz.prog Tryz.f10 false true false false):=by
 obtain⟨places,hx⟩:=reads os enc
 refine returnsInHanded_of_row (C:=Tryz.checked) (s:=OpenSpec.ofChange Rows.modesQuotientSpec) own started (by kernel_rfl) Tryz.func10
  (witness_row_at (enc:=enc) (C:=Tryz.checked) false (laidWorld os) #[.slice none 0 0,.slice none 0 0,.slice none 0 0,.int .u8 0,.agg #[.int .i64 0,.int .u32 0],.agg #[.int .i64 0,.int .u32 0]] rfl (by kernel_rfl) (by kernel_rfl) (by kernel_rfl)
   (OpenSpec.preRow_of_cond 8 hx (by kernel_rfl) (fun k hk=>by cases hk) (by kernel_rfl) (laid_met os))) ?_
 intro W base args ds gs before hval hW _ _ _ hL _ _
 exact contract H enc W base args ds gs before hval hW hL
theorem bt {a b:Bool} (x:a=true) (y:b=true):(a&&b)=true:=by rw[x,y];rfl
theorem k1:(Rows.modesQuotientRow.wf (OpenSpec.ofChange (OpenSpec.ofChange Rows.modesQuotientSpec).bare))=true:=by kernel_rfl
theorem k2:(laidOutB Tryz.pinned.checked.prog)=true:=by kernel_rfl
theorem k3:(mapsRowed Tryz.pinned.checked.prog)=true:=by kernel_rfl
theorem k4:(Tryz.f10.params.all (Tryz.pinned.checked.prog.readableRec ·))=true:=by kernel_rfl
theorem k5:(namedTie Tryz.pinned.checked.prog Rows.modesQuotientRow.named (OpenSpec.ofChange Rows.modesQuotientSpec).bare.vars)=true:=by kernel_rfl
theorem k6:(Rows.modesQuotientRow.stops==[])=true:=by kernel_rfl
theorem k7:(Tryz.pinned.checked.prog.stops==[])=true:=by kernel_rfl
theorem k8:(Rows.modesQuotientRow.knobs==[])=true:=by kernel_rfl
theorem k9:(Tryz.pinned.checked.prog.stopKnobs==[])=true:=by kernel_rfl
theorem k10:(Rows.modesQuotientRow.inPlace==Tryz.pinned.checked.prog.inPlace 10)=true:=by kernel_rfl
theorem k11:(Rows.modesQuotientRow.unfollowed==Tryz.pinned.checked.prog.unfollowed 10)=true:=by kernel_rfl
theorem k12:(Rows.modesQuotientRow.recurses==Tryz.pinned.checked.prog.recurses 10)=true:=by kernel_rfl
theorem k13:(Rows.modesQuotientRow.named==Tryz.pinned.checked.prog.varsNamed 10)=true:=by kernel_rfl
theorem k14:(Rows.modesQuotientRow.maps==(Tryz.f10.params.toList++(OpenSpec.ofChange Rows.modesQuotientSpec).bare.plain.varTypes Tryz.pinned.checked.prog).any (Tryz.pinned.checked.prog.mapsRec ·))=true:=by kernel_rfl
theorem k15:(Rows.modesQuotientRow.ifaces==(Tryz.f10.params.toList++(OpenSpec.ofChange Rows.modesQuotientSpec).bare.plain.varTypes Tryz.pinned.checked.prog).any (Tryz.pinned.checked.prog.ifacesRec ·))=true:=by kernel_rfl
theorem k16:(Rows.modesQuotientRow.mapsOut==Tryz.pinned.checked.prog.mapsAmong Tryz.f10.resultTypes.toList)=true:=by kernel_rfl
theorem k17:(Rows.modesQuotientRow.loops==(Tryz.f10.params.toList++(OpenSpec.ofChange Rows.modesQuotientSpec).bare.plain.varTypes Tryz.pinned.checked.prog).any (Tryz.pinned.checked.prog.loopsFrom ·))=true:=by kernel_rfl
theorem k17b:(Rows.modesQuotientRow.wideKeys==(Tryz.f10.params.toList++(OpenSpec.ofChange Rows.modesQuotientSpec).bare.plain.varTypes Tryz.pinned.checked.prog++Tryz.f10.resultTypes.toList).any (Tryz.pinned.checked.prog.wideKeysFrom ·))=true:=by kernel_rfl
theorem k18:((OpenSpec.ofChange Rows.modesQuotientSpec).bare.vars.all (Tryz.pinned.checked.prog.varReadable ·))=true:=by kernel_rfl
theorem k22:(Rows.modesQuotientRow.plainKeys==Tryz.pinned.checked.prog.plainKeys)=true:=by kernel_rfl
theorem k23b:(Tryz.pinned.checked.prog.stopsHeard)=true:=by kernel_rfl
theorem k24:(Tryz.pinned.checked.prog.mayEnter)=true:=by kernel_rfl
theorem k24b:(Rows.modesQuotientRow.lifted==Tryz.pinned.checked.prog.liftsFinal)=true:=by kernel_rfl
theorem k24c:(Tryz.pinned.checked.prog.make==some Rows.modesQuotientRow.make)=true:=by kernel_rfl
theorem k27:(Rows.modesQuotientRow.veiled==(Tryz.f10.params.toList++(OpenSpec.ofChange Rows.modesQuotientSpec).bare.plain.varTypes Tryz.pinned.checked.prog++Tryz.f10.resultTypes.toList).any (Tryz.pinned.checked.prog.veiledRec ·))=true:=by kernel_rfl
theorem k28:(Rows.modesQuotientRow.veiledFits Tryz.pinned.checked.prog Tryz.f10.params.toList (Tryz.f10.params.toList++(OpenSpec.ofChange Rows.modesQuotientSpec).bare.plain.varTypes Tryz.pinned.checked.prog++Tryz.f10.resultTypes.toList))=true:=by kernel_rfl
theorem closed:joinedFacts Tryz.pinned.checked.prog 10 Tryz.f10 (OpenSpec.ofChange Rows.modesQuotientSpec).bare Rows.modesQuotientRow=true:=(bt (bt (bt (bt (bt (bt (bt (bt (bt (bt (bt (bt (bt (bt (bt (bt (bt (bt (bt (bt (bt (bt (bt (bt (bt (bt (bt (bt (bt (bt (bt k1 k2) k3) k4) k5) k6) k7) k8) k9) k10) k11) k12) k13) k14) k15) k16) k17) k17b) k18) (by kernel_rfl)) (by kernel_rfl)) (by kernel_rfl)) k22) (by kernel_rfl)) k23b) k24) k24b) k24c) (by kernel_rfl)) (by kernel_rfl)) k27) k28)
theorem said:Rows.ModesQuotientSaid:=
 OpenClaim.holds_of_cond 10 Tryz.f10 rfl rfl rfl rfl rfl rfl rfl ⟨rfl,rfl,rfl,rfl,rfl⟩ rfl rfl rfl rfl rfl (by kernel_rfl) Tryz.func10 closed
  (of_decide_eq_true (by kernel_rfl)) (by unfold Func.isWrapper;first|(rw[if_pos (by decide+kernel)];kernel_rfl)|(rw[if_neg (by decide+kernel)];exact⟨rfl,rfl⟩))
  (fun os started H enc _ F=>by rw[OpenClaim.pre_eq_preRow];exact lifted os started H enc F)
theorem plain (f:FuncId) (fn:Func) (hf:Tryz.pinned.checked.prog.funcNamed "gusset/gussetlaw22.ModesQuotient" =some f) (hfn:Tryz.pinned.checked.prog.funcs[f]? =some fn):
  false=Tryz.pinned.checked.prog.looks []∧∀(j:Nat) t,fn.params[j]? =some t→Tryz.pinned.checked.prog.wantsStandIn t=false:=by
 obtain rfl:f=10:=Option.some.inj ((show Tryz.prog.funcNamed "gusset/gussetlaw22.ModesQuotient" =some 10 by kernel_rfl).symm.trans hf) |>.symm
 obtain rfl:fn=Tryz.f10:=(Option.some.inj (Tryz.func10.symm.trans hfn)).symm
 refine⟨by kernel_rfl,fun j t ht=> ?_⟩
 have hall:(Tryz.f10.params.toList.all fun t=> !Tryz.prog.wantsStandIn t)=true:=by kernel_rfl
 have:=List.all_eq_true.1 hall t (by simpa using Array.mem_of_getElem? ht)
 exact(show Tryz.prog.wantsStandIn t=false by simpa using this)
theorem card:Rows.ModesQuotientCardSaid:=
 Claim7.holds_tied_plain_at .later [] _ _ _ _ said (fun _ h=>by cases h) (by kernel_rfl) (fun _ h=>by cases h) modesQuotient_row_tie rfl ⟨rfl,rfl⟩ (by kernel_rfl) rfl plain (by kernel_rfl)
#print axioms card
end Go.Proofs.YtfjhnollamkdcaaGreatDoor.modesQuotient
