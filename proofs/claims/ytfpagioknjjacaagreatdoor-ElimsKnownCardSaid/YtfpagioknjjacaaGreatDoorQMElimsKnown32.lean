/- The texts LElimsKnown. -/
import Derived.Test.YtfpagioknjjacaaGreatDoorCards
import Derived.Test.YtfpagioknjjacaaGreatDoorTie
import Derived.WalkKit
import Derived.ProofKit
import Derived.OpenShut
import Derived.Deep.DeepHandedRow
import Derived.Lib.LaidTab
import Derived.Test.YtfpagioknjjacaaGreatDoorQMElimsKnown2
import Derived.Test.YtfpagioknjjacaaGreatDoorQMElimsKnown31
namespace Go.Proofs.YtfpagioknjjacaaGreatDoor.elimsKnown
open Go.ChangeShapes Go.WideShapes Go.ChangeAt Go.RowKit Go.Sx
set_option maxRecDepth 100000
set_option linter.unusedSimpArgs false
theorem own:ownKnob Tryz.prog.godebug=none:=by kernel_rfl
theorem laidOut:laidOutB Tryz.prog=true:=by kernel_rfl
theorem params:Tryz.f4.params.toList.all (fun t=>Tryz.prog.readableRec t&&decide (t<Tryz.prog.types.size))=true:=by kernel_rfl
theorem MB:Tryz.prog.globalNamed "math/bits.deBruijn32tab" =some 3:=by kernel_rfl
theorem Ix:(Tryz.prog.globals[3]?).map (·.type)=some 414:=by kernel_rfl
theorem Pq:Tryz.prog.cellsOf 414=32:=by kernel_rfl
theorem Pr:Tryz.prog.cellsOf 5=1:=by kernel_rfl
theorem MC:Tryz.prog.globalNamed "math/bits.deBruijn64tab" =some 4:=by kernel_rfl
theorem Iy:(Tryz.prog.globals[4]?).map (·.type)=some 415:=by kernel_rfl
theorem Ps:Tryz.prog.cellsOf 415=64:=by kernel_rfl
theorem Pt:Tryz.prog.cellsOf 5=1:=by kernel_rfl
theorem ME:Tryz.prog.globalNamed "internal/strconv.uint64pow10" =some 2:=by kernel_rfl
theorem Iz:(Tryz.prog.globals[2]?).map (·.type)=some 411:=by kernel_rfl
theorem Pu:Tryz.prog.cellsOf 411=20:=by kernel_rfl
theorem Pv:Tryz.prog.cellsOf 44=1:=by kernel_rfl
theorem table {W:World} (h:laidMetH Tryz.prog Rows.elimsKnownRow.laid W):wC W:=by
 intro g kd l hm
 have h0:laidMet Tryz.prog Rows.elimsKnownRow.laid W:=h
 have ht0:Lib.TabIs Tryz.prog W "math/bits.deBruijn32tab" .u8 [0,1,28,2,29,14,24,3,30,22,20,15,25,17,4,8,31,27,13,23,21,19,16,7,26,12,18,6,11,5,10,9]:=Lib.tabIs_of_head MB Ix Tryz.underlying414 Tryz.underlying5 Pr Pq h0
 have h1:=zI h0
 have ht1:Lib.TabIs Tryz.prog W "math/bits.deBruijn64tab" .u8 [0,1,56,2,57,49,28,3,61,58,42,50,38,29,17,4,62,47,59,36,45,43,51,22,53,39,33,30,24,18,12,5,63,55,48,27,60,41,37,16,46,35,44,21,52,32,23,11,54,26,40,15,34,20,31,10,25,14,19,9,13,8,7,6]:=Lib.tabIs_of_head MC Iy Tryz.underlying415 Tryz.underlying5 Pt Ps h1
 have h2:=zI h1
 have Cg:Lib.TabIs Tryz.prog W "internal/strconv.uint64pow10" .u64 [1,10,100,1000,10000,100000,1000000,10000000,100000000,1000000000,10000000000,100000000000,1000000000000,10000000000000,100000000000000,1000000000000000,10000000000000000,100000000000000000,1000000000000000000,10000000000000000000]:=Lib.tabIs_of_head ME Iz Tryz.underlying411 Tryz.underlying44 Pv Pu h2
 simp only[mz,List.mem_cons,List.not_mem_nil,or_false,Prod.mk.injEq]at hm
 rcases hm with⟨rfl,rfl,rfl⟩|⟨rfl,rfl,rfl⟩|⟨rfl,rfl,rfl⟩
 ·refine⟨by simp,fun j x hx=>by rw[ht0.cell MB j (List.getElem?_eq_some_iff.1 hx).1,List.getD_eq_getElem?_getD,hx];rfl, ?_⟩
  exact xk MB ht0
 ·refine⟨by simp,fun j x hx=>by rw[ht1.cell MC j (List.getElem?_eq_some_iff.1 hx).1,List.getD_eq_getElem?_getD,hx];rfl, ?_⟩
  exact xk MC ht1
 ·refine⟨by simp,fun j x hx=>by rw[Cg.cell ME j (List.getElem?_eq_some_iff.1 hx).1,List.getD_eq_getElem?_getD,hx];rfl, ?_⟩
  exact xk ME Cg
theorem called:ab Tryz.prog 4 [] [] (.val (.bool true)) [] []:=yK
theorem MF (H:Type) (enc:TypeId×Value→H) (W:World) (base:Nat) (args:Array Value) (ds gs:List (DataW H)) (before:List MemPlace)
  (bZ:∀(j:Nat) t v,Tryz.f4.params[j]? =some t→args[j]? =some v→Value.okWide Tryz.prog W .any base t v)
  (hW:DataW.Whole enc Tryz.prog Tryz.f4.params.toList Rows.elimsKnownSpec.vars false W args.toList ds gs before) (hL:laidMetH Tryz.prog Rows.elimsKnownRow.laid W):
  Calls Tryz.prog 4 args W fun e W'=>∃v,e= .returned v∧Rows.elimsKnownSpec.post enc Tryz.prog Tryz.f4 false true false false W args v W':=by
 have hW':=hW
 obtain⟨p,q,hA0,hV,rfl,hfz,PD⟩:=hW
 have hA:DataW.TrodAll enc Tryz.prog W 0 (fun _=>true) true Tryz.f4.params.toList args.toList ds p:=hA0
 rw[Tryz.params4]at hA bZ
 obtain⟨zk,rfl,rfl⟩:=trodAll_nil hA
 obtain rfl:args= #[]:=by cases args;simp_all
 obtain⟨rfl,rfl⟩:=trodVars_none hV
 have hg:=table hL
 have hz:aw (nC hg) [] []:=by simp only[aw]
 have hr:=JE ⟨Tryz.f4,Tryz.func4,rfl,by kernel_rfl⟩ (called) hg hz
 simp only[List.zipWith_cons_cons,List.zipWith_nil_left,List.zipWith_nil_right]at hr
 refine hr.mono fun e W' ⟨he,hb⟩=> ?_
 subst he
 exact⟨_,rfl,JD laidOut params rfl rfl Tryz.underlying4 hW' ⟨rfl,rfl,rfl⟩ hb⟩
noncomputable def uV (os:Os):World:=
 {World.holding Tryz.prog os ⟨#[], #[],[]⟩with heap:=((World.holding Tryz.prog os ⟨#[], #[],[]⟩).heap |>.modify 3 (fun|.cells _ t frozen=>.cells #[.int .u8 0,.int .u8 1,.int .u8 28,.int .u8 2,.int .u8 29,.int .u8 14,.int .u8 24,.int .u8 3,.int .u8 30,.int .u8 22,.int .u8 20,.int .u8 15,.int .u8 25,.int .u8 17,.int .u8 4,.int .u8 8,.int .u8 31,.int .u8 27,.int .u8 13,.int .u8 23,.int .u8 21,.int .u8 19,.int .u8 16,.int .u8 7,.int .u8 26,.int .u8 12,.int .u8 18,.int .u8 6,.int .u8 11,.int .u8 5,.int .u8 10,.int .u8 9] t frozen|o=>o) |>.modify 4 (fun|.cells _ t frozen=>.cells #[.int .u8 0,.int .u8 1,.int .u8 56,.int .u8 2,.int .u8 57,.int .u8 49,.int .u8 28,.int .u8 3,.int .u8 61,.int .u8 58,.int .u8 42,.int .u8 50,.int .u8 38,.int .u8 29,.int .u8 17,.int .u8 4,.int .u8 62,.int .u8 47,.int .u8 59,.int .u8 36,.int .u8 45,.int .u8 43,.int .u8 51,.int .u8 22,.int .u8 53,.int .u8 39,.int .u8 33,.int .u8 30,.int .u8 24,.int .u8 18,.int .u8 12,.int .u8 5,.int .u8 63,.int .u8 55,.int .u8 48,.int .u8 27,.int .u8 60,.int .u8 41,.int .u8 37,.int .u8 16,.int .u8 46,.int .u8 35,.int .u8 44,.int .u8 21,.int .u8 52,.int .u8 32,.int .u8 23,.int .u8 11,.int .u8 54,.int .u8 26,.int .u8 40,.int .u8 15,.int .u8 34,.int .u8 20,.int .u8 31,.int .u8 10,.int .u8 25,.int .u8 14,.int .u8 19,.int .u8 9,.int .u8 13,.int .u8 8,.int .u8 7,.int .u8 6] t frozen|o=>o) |>.modify 2 (fun|.cells _ t frozen=>.cells #[.int .u64 1,.int .u64 10,.int .u64 100,.int .u64 1000,.int .u64 10000,.int .u64 100000,.int .u64 1000000,.int .u64 10000000,.int .u64 100000000,.int .u64 1000000000,.int .u64 10000000000,.int .u64 100000000000,.int .u64 1000000000000,.int .u64 10000000000000,.int .u64 100000000000000,.int .u64 1000000000000000,.int .u64 10000000000000000,.int .u64 100000000000000000,.int .u64 1000000000000000000,.int .u64 10000000000000000000] t frozen|o=>o))}
theorem MG (os:Os):laidMet Tryz.prog Rows.elimsKnownRow.laid ((uV os).forCall (fun _ _=>0) ⟨#[], #[],[]⟩).memory:=
 laidMet_of_run' 8 (by kernel_rfl) (by kernel_rfl)
theorem reads (os:Os) {H:Type} (enc:TypeId×Value→H):∃places,DataW.whole enc Tryz.prog ((uV os).forCall (fun _ _=>0) ⟨#[], #[],[]⟩).memory Tryz.f4.params.toList Rows.elimsKnownSpec.vars false #[].toList 8=some ([],[],places):=
 ⟨[],by kernel_rfl⟩
theorem lifted (os:Os) (started:os.Started) (H:Type) (enc:TypeId×Value→H) (F:Stop.Interp):
  ReturnsInHanded {} Tryz.checked os 4 .any ((OpenSpec.ofChange Rows.elimsKnownSpec).preRow enc Tryz.prog Tryz.f4 Rows.elimsKnownRow.domain false Rows.elimsKnownRow.laid) (((OpenSpec.ofChange Rows.elimsKnownSpec).at F).post enc Tryz.prog Tryz.f4 false true false false):=by
 obtain⟨places,hx⟩:=reads os enc
 refine returnsInHanded_of_row (C:=Tryz.checked) (s:=OpenSpec.ofChange Rows.elimsKnownSpec) own started (by kernel_rfl) Tryz.func4
  (witness_row_at (enc:=enc) (C:=Tryz.checked) false (uV os) #[] rfl (by kernel_rfl) (by kernel_rfl) (by kernel_rfl)
   (OpenSpec.preRow_of_cond 8 hx (by kernel_rfl) (fun k hk=>by cases hk) (by kernel_rfl) (MG os))) ?_
 intro W base args ds gs before bZ hW _ _ _ hL _ _
 exact MF H enc W base args ds gs before bZ hW hL
theorem bt {a b:Bool} (x:a=true) (y:b=true):(a&&b)=true:=by rw[x,y];rfl
theorem k1:(Rows.elimsKnownRow.wf (OpenSpec.ofChange (OpenSpec.ofChange Rows.elimsKnownSpec).bare))=true:=by kernel_rfl
theorem k2:(laidOutB Tryz.pinned.checked.prog)=true:=by kernel_rfl
theorem k3:(mapsRowed Tryz.pinned.checked.prog)=true:=by kernel_rfl
theorem k4:(Tryz.f4.params.all (Tryz.pinned.checked.prog.readableRec ·))=true:=by kernel_rfl
theorem k5:(namedTie Tryz.pinned.checked.prog Rows.elimsKnownRow.named (OpenSpec.ofChange Rows.elimsKnownSpec).bare.vars)=true:=by kernel_rfl
theorem k6:(Rows.elimsKnownRow.stops==[])=true:=by kernel_rfl
theorem k7:(Tryz.pinned.checked.prog.stops==[])=true:=by kernel_rfl
theorem k8:(Rows.elimsKnownRow.knobs==[])=true:=by kernel_rfl
theorem k9:(Tryz.pinned.checked.prog.stopKnobs==[])=true:=by kernel_rfl
theorem k10:(Rows.elimsKnownRow.inPlace==Tryz.pinned.checked.prog.inPlace 4)=true:=by kernel_rfl
theorem k11:(Rows.elimsKnownRow.unfollowed==Tryz.pinned.checked.prog.unfollowed 4)=true:=by kernel_rfl
theorem k12:(Rows.elimsKnownRow.recurses==Tryz.pinned.checked.prog.recurses 4)=true:=by kernel_rfl
theorem k13:(Rows.elimsKnownRow.named==Tryz.pinned.checked.prog.varsNamed 4)=true:=by kernel_rfl
theorem k14:(Rows.elimsKnownRow.maps==(Tryz.f4.params.toList++(OpenSpec.ofChange Rows.elimsKnownSpec).bare.plain.varTypes Tryz.pinned.checked.prog).any (Tryz.pinned.checked.prog.mapsRec ·))=true:=by kernel_rfl
theorem k15:(Rows.elimsKnownRow.ifaces==(Tryz.f4.params.toList++(OpenSpec.ofChange Rows.elimsKnownSpec).bare.plain.varTypes Tryz.pinned.checked.prog).any (Tryz.pinned.checked.prog.ifacesRec ·))=true:=by kernel_rfl
theorem k16:(Rows.elimsKnownRow.mapsOut==Tryz.pinned.checked.prog.mapsAmong Tryz.f4.resultTypes.toList)=true:=by kernel_rfl
theorem k17:(Rows.elimsKnownRow.loops==(Tryz.f4.params.toList++(OpenSpec.ofChange Rows.elimsKnownSpec).bare.plain.varTypes Tryz.pinned.checked.prog).any (Tryz.pinned.checked.prog.loopsFrom ·))=true:=by kernel_rfl
theorem aeA:(Rows.elimsKnownRow.wideKeys==(Tryz.f4.params.toList++(OpenSpec.ofChange Rows.elimsKnownSpec).bare.plain.varTypes Tryz.pinned.checked.prog++Tryz.f4.resultTypes.toList).any (Tryz.pinned.checked.prog.wideKeysFrom ·))=true:=by kernel_rfl
theorem k18:((OpenSpec.ofChange Rows.elimsKnownSpec).bare.vars.all (Tryz.pinned.checked.prog.varReadable ·))=true:=by kernel_rfl
theorem k22:(Rows.elimsKnownRow.plainKeys==Tryz.pinned.checked.prog.plainKeys)=true:=by kernel_rfl
theorem aeB:(Tryz.pinned.checked.prog.stopsHeard)=true:=by kernel_rfl
theorem k24:(Tryz.pinned.checked.prog.mayEnter)=true:=by kernel_rfl
theorem aeC:(Rows.elimsKnownRow.lifted==Tryz.pinned.checked.prog.liftsFinal)=true:=by kernel_rfl
theorem aeD:(Tryz.pinned.checked.prog.make==some Rows.elimsKnownRow.make)=true:=by kernel_rfl
theorem k27:(Rows.elimsKnownRow.veiled==(Tryz.f4.params.toList++(OpenSpec.ofChange Rows.elimsKnownSpec).bare.plain.varTypes Tryz.pinned.checked.prog++Tryz.f4.resultTypes.toList).any (Tryz.pinned.checked.prog.veiledRec ·))=true:=by kernel_rfl
theorem k28:(Rows.elimsKnownRow.veiledFits Tryz.pinned.checked.prog Tryz.f4.params.toList (Tryz.f4.params.toList++(OpenSpec.ofChange Rows.elimsKnownSpec).bare.plain.varTypes Tryz.pinned.checked.prog++Tryz.f4.resultTypes.toList))=true:=by kernel_rfl
theorem closed:joinedFacts Tryz.pinned.checked.prog 4 Tryz.f4 (OpenSpec.ofChange Rows.elimsKnownSpec).bare Rows.elimsKnownRow=true:=(bt (bt (bt (bt (bt (bt (bt (bt (bt (bt (bt (bt (bt (bt (bt (bt (bt (bt (bt (bt (bt (bt (bt (bt (bt (bt (bt (bt (bt (bt (bt k1 k2) k3) k4) k5) k6) k7) k8) k9) k10) k11) k12) k13) k14) k15) k16) k17) aeA) k18) (by kernel_rfl)) (by kernel_rfl)) (by kernel_rfl)) k22) (by kernel_rfl)) aeB) k24) aeC) aeD) (by kernel_rfl)) (by kernel_rfl)) k27) k28)
theorem said:Rows.ElimsKnownSaid:=
 OpenClaim.holds_of_cond 4 Tryz.f4 rfl rfl rfl rfl rfl rfl rfl ⟨rfl,rfl,rfl,rfl,rfl⟩ rfl rfl rfl rfl rfl (by kernel_rfl) Tryz.func4 closed
  (of_decide_eq_true (by kernel_rfl)) (by unfold Func.isWrapper;first|(rw[if_pos (by decide+kernel)];kernel_rfl)|(rw[if_neg (by decide+kernel)];exact⟨rfl,rfl⟩))
  (fun os started H enc _ F=>by rw[OpenClaim.pre_eq_preRow];exact lifted os started H enc F)
end Go.Proofs.YtfpagioknjjacaaGreatDoor.elimsKnown
