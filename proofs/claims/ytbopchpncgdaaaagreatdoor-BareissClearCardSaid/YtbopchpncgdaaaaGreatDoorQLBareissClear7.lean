/- The texts On. -/
import Derived.Test.YtbopchpncgdaaaaGreatDoorQLBareissClear6
namespace Go.Proofs.YtbopchpncgdaaaaGreatDoor
open Go.Sx
set_option linter.unusedSimpArgs false
set_option linter.unusedVariables false
set_option maxRecDepth 100000
set_option maxHeartbeats 40000000
theorem zq_guard:Tryz.prog.eqGuardType Tryz.prog.depth 51=false:=by kernel_rfl
theorem zq_same (a b:Int):eqTy tab good 10 51 (intCells a) (intCells b)=some (decide (a=b)):=by
 have e:eqTy tab good 10 51 (intCells a) (intCells b)=some (((((low a.natAbs==low b.natAbs)&&(((big a.natAbs).toList==(big b.natAbs).toList)&&true))&&true)&&((decide (a<0)==decide (b<0))&&true))):=rfl
 rw[e]
 simp only[Bool.and_true]
 rw[nat_eq_iff]
 congr 1
 rw[Bool.eq_iff_iff]
 simp only[Bool.and_eq_true,decide_eq_true_eq,beq_iff_eq,decide_eq_decide]
 constructor
 ·rintro⟨h3,h4⟩
  omega
 ·rintro rfl;exact⟨rfl,Iff.rfl⟩
theorem nq_guard:Tryz.prog.eqGuardType Tryz.prog.depth 47=false:=by kernel_rfl
theorem nq_same (a b:Nat):eqTy tab good 10 47 (natCells a) (natCells b)=some (decide (a=b)):=by
 have e:eqTy tab good 10 47 (natCells a) (natCells b)=some (((low a==low b)&&(((big a).toList==(big b).toList)&&true))):=rfl
 rw[e]
 simp only[Bool.and_true]
 rw[nat_eq_iff]
abbrev Y9:List Int:=[2,0,1,1,3,2,1,1,4]
abbrev Y4:List Int:=[1,2,3,4]
abbrev Q4:List Rat:=[1/2,1/3,1,2]
theorem l_works15:CallOK Tryz.prog 45 [] [] (.val (.bool true)) [] []:=by
 have hW:OKZ 3 3 Y9:=⟨by decide,by decide,rfl⟩
 have zW:Zm 20 Y9:=by unfold Zm;decide+kernel
 have h4:OKZ 2 2 Y4:=⟨by decide,by decide,rfl⟩
 have z4:Zm 20 Y4:=by unfold Zm;decide+kernel
 have o1:=b_Of (r:=3) (c:=3) (l:=Y9) (by decide) (by decide) rfl (by decide)
 have o2:=b_Stage (s:=1) hW zW (by decide) (by decide) (by decide) (by decide) (by decide)
 have o3:=b_Stage (s:=2) hW zW (by decide) (by decide) (by decide) (by decide) (by decide)
 have o4:=b_Det hW zW (by decide) (by decide) (by decide) (by decide)
 have o5:=b_Cramer hW zW (b:=[3,6,6]) rfl (by unfold Zm;decide+kernel) (by decide) (by decide) (by decide) (by decide)
 have e0:detZ 3 (elz Y9 3)=18:=by decide+kernel
 rw[e0]at o4
 rw[e0,if_neg (by decide),show crL 3 Y9 [3,6,6]=[18,18,18]from by decide+kernel]at o5
 rw[show stM 3 3 1 Y9=[6,3,2,7]from by decide+kernel]at o2
 rw[show stM 3 3 2 Y9=[18]from by decide+kernel]at o3
 replace o2:CallOK Tryz.prog 113 [wA 3 3 Y9,iv 1] [] (.tup [wA 2 2 [6,3,2,7],iv 0]) [] []:=o2
 replace o3:CallOK Tryz.prog 113 [wA 3 3 Y9,iv 2] [] (.tup [wA 1 1 [18],iv 0]) [] []:=o3
 have t1:=b_Text 2 2 [6,3,2,7] (by decide) (by decide+kernel) (m_Text (r:=2) (c:=2) (B:=20) (a:=ofInts [6,3,2,7]) ⟨by decide,by decide,rfl⟩ (by unfold Sm;decide+kernel) (by decide))
 have t2:=b_Text 1 1 [18] (by decide) (by decide+kernel) (m_Text (r:=1) (c:=1) (B:=20) (a:=ofInts [18]) ⟨by decide,by decide,rfl⟩ (by unfold Sm;decide+kernel) (by decide))
 have i3:=c_iOf 3 (by decide) (by decide)
 have i6:=c_iOf 6 (by decide) (by decide)
 have i18:=c_iOf 18 (by decide) (by decide)
 have i21:=c_iOf 21 (by decide) (by decide)
 have o6:=b_Of (r:=2) (c:=2) (l:=Y4) (by decide) (by decide) rfl (by decide)
 have o7:=b_Adjugate h4 z4 (by decide) (by decide) (by decide) (by decide)
 rw[show mkz 2 2 (adjZ 2 (elz Y4 2))=[4, -2, -3,1]from by decide+kernel]at o7
 have t3:=b_Text 2 2 [4, -2, -3,1] (by decide) (by decide+kernel) (m_Text (r:=2) (c:=2) (B:=20) (a:=ofInts [4, -2, -3,1]) ⟨by decide,by decide,rfl⟩ (by unfold Sm;decide+kernel) (by decide))
 have o8:=b_Bound h4 z4 (by decide) (by decide)
 rw[show pZ ((upN 2).map fun x=>rowZ Y4 2 x.toNat)=21 from by decide+kernel]at o8
 have f1:=c_fOf natBig 1 2 (by decide+kernel) (by decide) (by decide) (by decide) (by decide) (by decide)
 have f2:=c_fOf natBig 1 3 (by decide+kernel) (by decide) (by decide) (by decide) (by decide) (by decide)
 have f3:=c_fInt 1 (by decide) (by decide)
 have f4:=c_fInt 2 (by decide) (by decide)
 have o9:=b_Clear (r:=2) (c:=2) (B:=20) (a:=Q4) ⟨by decide,by decide,rfl⟩ (by unfold Sm;decide+kernel) (by decide) (by decide)
 rw[show clZ 2 2 Q4=[3,2,1,2]from by decide+kernel,show byL 2 2 Q4=[6,1]from by decide+kernel]at o9
 have t4:=b_Text 2 2 [3,2,1,2] (by decide) (by decide+kernel) (m_Text (r:=2) (c:=2) (B:=20) (a:=ofInts [3,2,1,2]) ⟨by decide,by decide,rfl⟩ (by unfold Sm;decide+kernel) (by decide))
 have n6:=c_nOf 6 (by decide)
 have n1:=c_nOf 1 (by decide)
 have q1:(!(tM 2 2 (ofInts [6,3,2,7])).toList==(ByteArray.mk #[91,54,32,51,93,32,91,50,32,55,93]).toList)=false:=by decide+kernel
 have q2:(!(tM 1 1 (ofInts [18])).toList==(ByteArray.mk #[91,49,56,93]).toList)=false:=by decide+kernel
 have q3:((tM 2 2 (ofInts [4, -2, -3,1])).toList==(ByteArray.mk #[91,52,32,45,50,93,32,91,45,51,32,49,93]).toList)=true:=by decide+kernel
 have q4:((tM 2 2 (ofInts [3,2,1,2])).toList==(ByteArray.mk #[91,51,32,50,93,32,91,49,32,50,93]).toList)=true:=by decide+kernel
 refine callV (Z:=[26,50,120,147]) tabOK mixedOK Tryz.func45 rfl (by kernel_rfl) rfl rfl (by kernel_rfl) rfl ?_
 intro W0 w0 ρ0 hE
 conv=>whnf
 (repeat((first|refine step_w1 rfl rfl ?_|refine step_w2 rfl rfl ?_|refine step_i (by kernel_rfl) ?_|refine g_c (by assumption) ?_|refine g_o (op_pickT rfl (ev_ok rfl) (ev_ok rfl)) ?_|refine g_o (op_pickF rfl (ev_ok rfl) (ev_ok rfl)) ?_|rw[beq_self_eq_true]|rw[bne_self_eq_false]|refine tst_tt q3 ?_|refine tst_tt q4 ?_|refine g_o (op_lenM rfl rfl rfl (ev_ok rfl) (tgt rfl) rfl) ?_|refine g_o (op_loadA rfl (ev_ok rfl) (tgt rfl) rfl (Nat.succ_ne_zero _) rfl) ?_|refine g_o (op_indexA rfl (ev_ok rfl) (ev_ok rfl) (tgt rfl) rfl (tgt rfl) rfl (by omega) (by first|decide|(simp;done)|omega) rfl) ?_|refine⟨_,op_eqAgg tabOK goodOK rfl (ev_ok rfl) (ev_ok rfl) rfl rfl rfl rfl (zq_same _ _) zq_guard, ?_⟩|refine⟨_,op_neAgg tabOK goodOK rfl (ev_ok rfl) (ev_ok rfl) rfl rfl rfl rfl (zq_same _ _) zq_guard, ?_⟩|refine⟨_,op_eqAgg tabOK goodOK rfl (ev_ok rfl) (ev_ok rfl) rfl rfl rfl rfl (nq_same _ _) nq_guard, ?_⟩|rw[q1]|rw[q2]|rw[q3]|rw[q4]);conv=>whnf))
 exact fun _ _ h=>h
end Go.Proofs.YtbopchpncgdaaaaGreatDoor
