/- The texts LModesKnown. -/
import Derived.Test.YtadphegfhgmgmaaGreatDoorCards
import Derived.Test.YtadphegfhgmgmaaGreatDoorTie
import Derived.WalkKit
import Derived.ProofKit
import Derived.OpenShut
import Derived.Deep.DeepHandedRow
import Derived.Lib.LaidTab
import Derived.Test.YtadphegfhgmgmaaGreatDoorQMModesKnown2
import Derived.Test.YtadphegfhgmgmaaGreatDoorQMModesKnown39
set_option linter.unusedSimpArgs false
set_option maxRecDepth 100000
open Go.Lib renaming TabIs->ags,tabIs_of_head->aja
open Go.OpenSpec renaming ofChange->Ϲ
open Go.World renaming holding->alN
open List renaming getD_eq_getElem?_getD->δ,getElem?_eq_some_iff->Ϩ
namespace Go.Proofs.YtadphegfhgmgmaaGreatDoor.modesKnown
open Go.ChangeShapes Go.WideShapes Go.ChangeAt Go.RowKit Go.Sx
theorem own:ownKnob Tryz.prog.godebug=none:=by kernel_rfl
theorem laidOut:laidOutB Tryz.prog=true:=by kernel_rfl
theorem params:Tryz.f3.params.toList.all (λt=>Tryz.prog.readableRec t&&decide (t<Tryz.prog.types.size))=true:=by kernel_rfl
theorem Ur:Tryz.prog.globalNamed "math/bits.deBruijn32tab" =some 3:=by kernel_rfl
theorem N3:(Tryz.prog.globals[3]?).map (·.type)=some 291:=by kernel_rfl
theorem XR:Tryz.prog.cellsOf 291=32:=by kernel_rfl
theorem XS:Tryz.prog.cellsOf 5=1:=by kernel_rfl
theorem Us:Tryz.prog.globalNamed "math/bits.deBruijn64tab" =some 4:=by kernel_rfl
theorem N4:(Tryz.prog.globals[4]?).map (·.type)=some 292:=by kernel_rfl
theorem XU:Tryz.prog.cellsOf 292=64:=by kernel_rfl
theorem XV:Tryz.prog.cellsOf 5=1:=by kernel_rfl
theorem Ut:Tryz.prog.globalNamed "internal/strconv.uint64pow10" =some 2:=by kernel_rfl
theorem N5:(Tryz.prog.globals[2]?).map (·.type)=some 288:=by kernel_rfl
theorem XW:Tryz.prog.cellsOf 288=20:=by kernel_rfl
theorem XX:Tryz.prog.cellsOf 41=1:=by kernel_rfl
theorem table {W:World} (h:laidMetH Tryz.prog Rows.modesKnownRow.laid W):zz W:=by
 intro g kd l hm;have h0:laidMet Tryz.prog Rows.modesKnownRow.laid W:=h;have ht0:ags Tryz.prog W "math/bits.deBruijn32tab" .u8 [0,1,28,2,29,14,24,3,30,22,20,15,25,17,4,8,31,27,13,23,21,19,16,7,26,12,18,6,11,5,10,9]:=aja Ur N3 Tryz.underlying291 Tryz.underlying5 XS XR h0
 have h1:=CT h0;have ht1:ags Tryz.prog W "math/bits.deBruijn64tab" .u8 [0,1,56,2,57,49,28,3,61,58,42,50,38,29,17,4,62,47,59,36,45,43,51,22,53,39,33,30,24,18,12,5,63,55,48,27,60,41,37,16,46,35,44,21,52,32,23,11,54,26,40,15,34,20,31,10,25,14,19,9,13,8,7,6]:=aja Us N4 Tryz.underlying292 Tryz.underlying5 XV XU h1
 have h2:=CT h1;have FI:ags Tryz.prog W "internal/strconv.uint64pow10" .u64 [1,10,100,1000,10000,100000,1000000,10000000,100000000,1000000000,10000000000,100000000000,1000000000000,10000000000000,100000000000000,1000000000000000,10000000000000000,100000000000000000,1000000000000000000,10000000000000000000]:=aja Ut N5 Tryz.underlying288 Tryz.underlying41 XX XW h2
 simp only[ou,List.mem_cons,List.not_mem_nil,or_false,Prod.mk.injEq]at hm;rcases hm with⟨rfl,rfl,rfl⟩|⟨rfl,rfl,rfl⟩|⟨rfl,rfl,rfl⟩
 ·refine⟨by simp,λj x hx=>by rw[ht0.cell Ur j (Ϩ.1 hx).1,δ,hx];rfl, ?_⟩;exact Aj Ur ht0
 ·refine⟨by simp,λj x hx=>by rw[ht1.cell Us j (Ϩ.1 hx).1,δ,hx];rfl, ?_⟩;exact Aj Us ht1
 ·refine⟨by simp,λj x hx=>by rw[FI.cell Ut j (Ϩ.1 hx).1,δ,hx];rfl, ?_⟩;exact Aj Ut FI
theorem called:aL Tryz.prog 3 [] [] (.val (.bool true)) [] []:=BW
theorem Uu (H:Type) (enc:TypeId×Value->H) (W:World) (base:Nat) (args:Array Value) (ds gs:List (DataW H)) (before:List MemPlace)
  (b7:∀(j:Nat) t v,Tryz.f3.params[j]? =some t->args[j]? =some v->Value.okWide Tryz.prog W .any base t v)
  (hW:DataW.Whole enc Tryz.prog Tryz.f3.params.toList Rows.modesKnownSpec.vars false W args.toList ds gs before) (hL:laidMetH Tryz.prog Rows.modesKnownRow.laid W):
  Calls Tryz.prog 3 args W λe W'=>∃v,e= .returned v/\Rows.modesKnownSpec.post enc Tryz.prog Tryz.f3 false true false false W args v W':=by
 have hW':=hW;obtain⟨p,q,hA0,hV,rfl,hfz,X7⟩:=hW;have hA:DataW.TrodAll enc Tryz.prog W 0 (λ_=>true) true Tryz.f3.params.toList args.toList ds p:=hA0;rw[Tryz.params3]at hA b7;obtain⟨Cx,rfl,rfl⟩:=trodAll_nil hA;obtain rfl:args= #[]:=by cases args;simp_all
 obtain⟨rfl,rfl⟩:=trodVars_none hV;have hg:=table hL;have hz:aw (pD hg) [] []:=by simp only[aw]
 have hr:=O8 ⟨Tryz.f3,Tryz.func3,rfl,by kernel_rfl⟩ (called) hg hz;simp only[List.zipWith_cons_cons,List.zipWith_nil_left,List.zipWith_nil_right]at hr;refine hr.mono λe W' ⟨he,hb⟩=> ?_
 subst he;exact⟨_,rfl,O6 laidOut params rfl rfl Tryz.underlying4 hW' ⟨rfl,rfl,rfl⟩ hb⟩
noncomputable def xR (os:Os):World:=
 {alN Tryz.prog os ⟨#[], #[],[]⟩with heap:=((alN Tryz.prog os ⟨#[], #[],[]⟩).heap |>.modify 3 (λ|.cells _ t frozen=>.cells #[.int .u8 0,.int .u8 1,.int .u8 28,.int .u8 2,.int .u8 29,.int .u8 14,.int .u8 24,.int .u8 3,.int .u8 30,.int .u8 22,.int .u8 20,.int .u8 15,.int .u8 25,.int .u8 17,.int .u8 4,.int .u8 8,.int .u8 31,.int .u8 27,.int .u8 13,.int .u8 23,.int .u8 21,.int .u8 19,.int .u8 16,.int .u8 7,.int .u8 26,.int .u8 12,.int .u8 18,.int .u8 6,.int .u8 11,.int .u8 5,.int .u8 10,.int .u8 9] t frozen|o=>o) |>.modify 4 (λ|.cells _ t frozen=>.cells #[.int .u8 0,.int .u8 1,.int .u8 56,.int .u8 2,.int .u8 57,.int .u8 49,.int .u8 28,.int .u8 3,.int .u8 61,.int .u8 58,.int .u8 42,.int .u8 50,.int .u8 38,.int .u8 29,.int .u8 17,.int .u8 4,.int .u8 62,.int .u8 47,.int .u8 59,.int .u8 36,.int .u8 45,.int .u8 43,.int .u8 51,.int .u8 22,.int .u8 53,.int .u8 39,.int .u8 33,.int .u8 30,.int .u8 24,.int .u8 18,.int .u8 12,.int .u8 5,.int .u8 63,.int .u8 55,.int .u8 48,.int .u8 27,.int .u8 60,.int .u8 41,.int .u8 37,.int .u8 16,.int .u8 46,.int .u8 35,.int .u8 44,.int .u8 21,.int .u8 52,.int .u8 32,.int .u8 23,.int .u8 11,.int .u8 54,.int .u8 26,.int .u8 40,.int .u8 15,.int .u8 34,.int .u8 20,.int .u8 31,.int .u8 10,.int .u8 25,.int .u8 14,.int .u8 19,.int .u8 9,.int .u8 13,.int .u8 8,.int .u8 7,.int .u8 6] t frozen|o=>o) |>.modify 2 (λ|.cells _ t frozen=>.cells #[.int .u64 1,.int .u64 10,.int .u64 100,.int .u64 1000,.int .u64 10000,.int .u64 100000,.int .u64 1000000,.int .u64 10000000,.int .u64 100000000,.int .u64 1000000000,.int .u64 10000000000,.int .u64 100000000000,.int .u64 1000000000000,.int .u64 10000000000000,.int .u64 100000000000000,.int .u64 1000000000000000,.int .u64 10000000000000000,.int .u64 100000000000000000,.int .u64 1000000000000000000,.int .u64 10000000000000000000] t frozen|o=>o))}
theorem Uv (os:Os):laidMet Tryz.prog Rows.modesKnownRow.laid ((xR os).forCall (λ_ _=>0) ⟨#[], #[],[]⟩).memory:=
 laidMet_of_run' 8 (by kernel_rfl) (by kernel_rfl)
theorem reads (os:Os) {H:Type} (enc:TypeId×Value->H):∃places,DataW.whole enc Tryz.prog ((xR os).forCall (λ_ _=>0) ⟨#[], #[],[]⟩).memory Tryz.f3.params.toList Rows.modesKnownSpec.vars false #[].toList 8=some ([],[],places):=
 ⟨[],by kernel_rfl⟩
theorem lifted (os:Os) (started:os.Started) (H:Type) (enc:TypeId×Value->H) (F:Stop.Interp):
  ReturnsInHanded {} Tryz.checked os 3 .any ((Ϲ Rows.modesKnownSpec).preRow enc Tryz.prog Tryz.f3 Rows.modesKnownRow.domain false Rows.modesKnownRow.laid) (((Ϲ Rows.modesKnownSpec).at F).post enc Tryz.prog Tryz.f3 false true false false):=by
 obtain⟨places,hx⟩:=reads os enc
 refine returnsInHanded_of_row (C:=Tryz.checked) (s:=Ϲ Rows.modesKnownSpec) own started (by kernel_rfl) Tryz.func3
  (witness_row_at (enc:=enc) (C:=Tryz.checked) false (xR os) #[] rfl (by kernel_rfl) (by kernel_rfl) (by kernel_rfl)
   (OpenSpec.preRow_of_cond 8 hx (by kernel_rfl) (λk hk=>by cases hk) (by kernel_rfl) (Uv os))) ?_
 intro W base args ds gs before b7 hW _ _ _ hL _ _;exact Uu H enc W base args ds gs before b7 hW hL
theorem bt {a b:Bool} (x:a=true) (y:b=true):(a&&b)=true:=by rw[x,y];rfl
theorem k1:(Rows.modesKnownRow.wf (Ϲ (Ϲ Rows.modesKnownSpec).bare))=true:=by kernel_rfl
theorem k2:(laidOutB Tryz.pinned.checked.prog)=true:=by kernel_rfl
theorem k3:(mapsRowed Tryz.pinned.checked.prog)=true:=by kernel_rfl
theorem k4:(Tryz.f3.params.all (Tryz.pinned.checked.prog.readableRec ·))=true:=by kernel_rfl
theorem k5:(namedTie Tryz.pinned.checked.prog Rows.modesKnownRow.named (Ϲ Rows.modesKnownSpec).bare.vars)=true:=by kernel_rfl
theorem k6:(Rows.modesKnownRow.stops==[])=true:=by kernel_rfl
theorem k7:(Tryz.pinned.checked.prog.stops==[])=true:=by kernel_rfl
theorem k8:(Rows.modesKnownRow.knobs==[])=true:=by kernel_rfl
theorem k9:(Tryz.pinned.checked.prog.stopKnobs==[])=true:=by kernel_rfl
theorem k10:(Rows.modesKnownRow.inPlace==Tryz.pinned.checked.prog.inPlace 3)=true:=by kernel_rfl
theorem k11:(Rows.modesKnownRow.unfollowed==Tryz.pinned.checked.prog.unfollowed 3)=true:=by kernel_rfl
theorem k12:(Rows.modesKnownRow.recurses==Tryz.pinned.checked.prog.recurses 3)=true:=by kernel_rfl
theorem k13:(Rows.modesKnownRow.named==Tryz.pinned.checked.prog.varsNamed 3)=true:=by kernel_rfl
theorem k14:(Rows.modesKnownRow.maps==(Tryz.f3.params.toList++(Ϲ Rows.modesKnownSpec).bare.plain.varTypes Tryz.pinned.checked.prog).any (Tryz.pinned.checked.prog.mapsRec ·))=true:=by kernel_rfl
theorem k15:(Rows.modesKnownRow.ifaces==(Tryz.f3.params.toList++(Ϲ Rows.modesKnownSpec).bare.plain.varTypes Tryz.pinned.checked.prog).any (Tryz.pinned.checked.prog.ifacesRec ·))=true:=by kernel_rfl
theorem k16:(Rows.modesKnownRow.mapsOut==Tryz.pinned.checked.prog.mapsAmong Tryz.f3.resultTypes.toList)=true:=by kernel_rfl
theorem k17:(Rows.modesKnownRow.loops==(Tryz.f3.params.toList++(Ϲ Rows.modesKnownSpec).bare.plain.varTypes Tryz.pinned.checked.prog).any (Tryz.pinned.checked.prog.loopsFrom ·))=true:=by kernel_rfl
theorem aia:(Rows.modesKnownRow.wideKeys==(Tryz.f3.params.toList++(Ϲ Rows.modesKnownSpec).bare.plain.varTypes Tryz.pinned.checked.prog++Tryz.f3.resultTypes.toList).any (Tryz.pinned.checked.prog.wideKeysFrom ·))=true:=by kernel_rfl
theorem k18:((Ϲ Rows.modesKnownSpec).bare.vars.all (Tryz.pinned.checked.prog.varReadable ·))=true:=by kernel_rfl
theorem k22:(Rows.modesKnownRow.plainKeys==Tryz.pinned.checked.prog.plainKeys)=true:=by kernel_rfl
theorem aib:(Tryz.pinned.checked.prog.stopsHeard)=true:=by kernel_rfl
theorem k24:(Tryz.pinned.checked.prog.mayEnter)=true:=by kernel_rfl
theorem aic:(Rows.modesKnownRow.lifted==Tryz.pinned.checked.prog.liftsFinal)=true:=by kernel_rfl
theorem aid:(Tryz.pinned.checked.prog.make==some Rows.modesKnownRow.make)=true:=by kernel_rfl
theorem k27:(Rows.modesKnownRow.veiled==(Tryz.f3.params.toList++(Ϲ Rows.modesKnownSpec).bare.plain.varTypes Tryz.pinned.checked.prog++Tryz.f3.resultTypes.toList).any (Tryz.pinned.checked.prog.veiledRec ·))=true:=by kernel_rfl
theorem k28:(Rows.modesKnownRow.veiledFits Tryz.pinned.checked.prog Tryz.f3.params.toList (Tryz.f3.params.toList++(Ϲ Rows.modesKnownSpec).bare.plain.varTypes Tryz.pinned.checked.prog++Tryz.f3.resultTypes.toList))=true:=by kernel_rfl
theorem closed:joinedFacts Tryz.pinned.checked.prog 3 Tryz.f3 (Ϲ Rows.modesKnownSpec).bare Rows.modesKnownRow=true:=(bt (bt (bt (bt (bt (bt (bt (bt (bt (bt (bt (bt (bt (bt (bt (bt (bt (bt (bt (bt (bt (bt (bt (bt (bt (bt (bt (bt (bt (bt (bt k1 k2) k3) k4) k5) k6) k7) k8) k9) k10) k11) k12) k13) k14) k15) k16) k17) aia) k18) (by kernel_rfl)) (by kernel_rfl)) (by kernel_rfl)) k22) (by kernel_rfl)) aib) k24) aic) aid) (by kernel_rfl)) (by kernel_rfl)) k27) k28)
theorem said:Rows.ModesKnownSaid:=
 OpenClaim.holds_of_cond 3 Tryz.f3 rfl rfl rfl rfl rfl rfl rfl ⟨rfl,rfl,rfl,rfl,rfl⟩ rfl rfl rfl rfl rfl (by kernel_rfl) Tryz.func3 closed
  (of_decide_eq_true (by kernel_rfl)) (by unfold Func.isWrapper;first|(rw[if_pos (by decide+kernel)];kernel_rfl)|(rw[if_neg (by decide+kernel)];exact⟨rfl,rfl⟩))
  (λos started H enc _ F=>by rw[OpenClaim.pre_eq_preRow];exact lifted os started H enc F)
