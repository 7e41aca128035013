/- The texts Ao. -/
import Derived.Test.YtfjhnollamkdcaaGreatDoorQsA22
namespace Go.Proofs.YtfjhnollamkdcaaGreatDoor
open Go.Sx
set_option linter.unusedSimpArgs false
set_option linter.unusedVariables false
set_option maxRecDepth 100000
set_option maxHeartbeats 40000000
theorem posX_of {n:Nat} {m:List Rat} (h:SymM n m) (hp:(countF n m m 0).p=n):PosX n (el m n):=by
 have hi:Iner n (begX n m m 0) _ _ _:=inRun_iner (pcl_sym (A:=el m n) (M:=el m n) h h 0)
 have hi':Iner n (begX n m m 0) (countF n m m 0).m (countF n m m 0).left (countF n m m 0).p:=hi
 rw[hp]at hi'
 exact(PosX.of hi').congr fun i k _ _=>by show m.getD (i*n+k) 0 - 0*m.getD (i*n+k) 0=m.getD (i*n+k) 0;grind
abbrev XA2:List Rat:=ofInts [2,1,1,2]
abbrev XI2:List Rat:=ofInts [1,0,0,1]
abbrev XC2:List Rat:=ofInts [0,1,1,1]
abbrev XD2:List Rat:=ofInts [1,2,3,4]
theorem mone_2:mone 2=XI2:=by decide+kernel
theorem sy_A2:SymM 2 XA2:=by
 have:∀i,i<2→∀k,k<2→el XA2 2 i k=el XA2 2 k i:=by decide+kernel
 exact fun i k hi hk=>this i hi k hk
theorem sy_I2:SymM 2 XI2:=by
 have:∀i,i<2→∀k,k<2→el XI2 2 i k=el XI2 2 k i:=by decide+kernel
 exact fun i k hi hk=>this i hi k hk
theorem sy_C2:SymM 2 XC2:=by
 have:∀i,i<2→∀k,k<2→el XC2 2 i k=el XC2 2 k i:=by decide+kernel
 exact fun i k hi hk=>this i hi k hk
theorem sm_A2:Sm 20 XA2:=by unfold Sm;decide+kernel
theorem sm_I2:Sm 20 XI2:=by unfold Sm;decide+kernel
theorem sm_C2:Sm 20 XC2:=by unfold Sm;decide+kernel
theorem pen_A2:Pen 2 20 20 XA2 XI2:=⟨by decide,rfl,rfl,sy_A2,sy_I2,posX_of sy_I2 (by decide+kernel),sm_A2,sm_I2⟩
theorem pen_C2:Pen 2 20 20 XC2 XI2:=⟨by decide,rfl,rfl,sy_C2,sy_I2,posX_of sy_I2 (by decide+kernel),sm_C2,sm_I2⟩
theorem pen_AA:Pen 2 20 20 XA2 XA2:=⟨by decide,rfl,rfl,sy_A2,sy_A2,posX_of sy_A2 (by decide+kernel),sm_A2,sm_A2⟩
theorem w_counts (t:Int) (b z p:Nat) (ht: -9223372036854775808≤t∧t<9223372036854775808) (h:(countF 2 XA2 XI2 (t:Rat)).m=b∧(countF 2 XA2 XI2 (t:Rat)).left=z∧(countF 2 XA2 XI2 (t:Rat)).p=p):
  CallOK Tryz.prog 51 [mA (2:Nat) (2:Nat) XA2,mA (2:Nat) (2:Nat) XI2,iv t,iv (b:Nat),iv (z:Nat),iv (p:Nat)] [] (.val (.bool true)) [] []:=by
 have k:=pen_A2.count (T:=65) (t:Rat) (fs_int ht.1 ht.2) (by decide) (by decide)
 rw[h.1,h.2.1,h.2.2]at k
 exact c_counts t b z p ht k
theorem far_A2:noFar 2 XA2 XI2 (2^2):=by unfold noFar;decide+kernel
theorem far_C2:noFar 2 XC2 XI2 (2^1):=by unfold noFar;decide+kernel
theorem near_A2:∀k,k<2→¬noFar 2 XA2 XI2 (2^k):=fun k hk=>by
 rcases(show k=0∨k=1 by omega)with rfl|rfl<;>(unfold noFar;decide+kernel)
theorem near_C2:∀k,k<1→¬noFar 2 XC2 XI2 (2^k):=fun k hk=>by
 obtain rfl:k=0:=by omega
 unfold noFar;decide+kernel
theorem w_betA:CallOK Tryz.prog 52 [mA (2:Nat) (2:Nat) XA2,mA (2:Nat) (2:Nat) XI2,iv (1:Nat),iv (5:Nat),.frac 3,.frac 3] [] (.val (.bool true)) [] []:=by
 obtain⟨R,low,hR,hl,k,_⟩:=m_BracketOK (k:=1) (places:=5) pen_A2 (by decide) (by decide) (by decide) (by decide) (by decide) far_A2 near_A2
 have e1:R=96:=by rw[hR];decide+kernel
 subst e1
 have e2:(((96:Int):Rat)*(1/2^5))=3:=by decide+kernel
 rw[e2]at hl k
 have e3:low=3:=by rw[hl];decide+kernel
 subst e3
 exact c_between k
theorem w_betC0:CallOK Tryz.prog 52 [mA (2:Nat) (2:Nat) XC2,mA (2:Nat) (2:Nat) XI2,iv (0:Nat),iv (2:Nat),.frac (-3/4),.frac (-1/2)] [] (.val (.bool true)) [] []:=by
 obtain⟨R,low,hR,hl,k,_⟩:=m_BracketOK (k:=0) (places:=2) pen_C2 (by decide) (by decide) (by decide) (by decide) (by decide) far_C2 near_C2
 have e1:R= -2:=by rw[hR];decide+kernel
 subst e1
 have e2:(((-2:Int):Rat)*(1/2^2))= -1/2:=by decide+kernel
 rw[e2]at hl k
 have e3:low= -3/4:=by rw[hl];decide+kernel
 subst e3
 exact c_between k
theorem w_betC1:CallOK Tryz.prog 52 [mA (2:Nat) (2:Nat) XC2,mA (2:Nat) (2:Nat) XI2,iv (1:Nat),iv (0:Nat),.frac 1,.frac 2] [] (.val (.bool true)) [] []:=by
 obtain⟨R,low,hR,hl,k,_⟩:=m_BracketOK (k:=1) (places:=0) pen_C2 (by decide) (by decide) (by decide) (by decide) (by decide) far_C2 near_C2
 have e1:R=2:=by rw[hR];decide+kernel
 subst e1
 have e2:(((2:Int):Rat)*(1/2^0))=2:=by decide+kernel
 rw[e2]at hl k
 have e3:low=1:=by rw[hl];decide+kernel
 subst e3
 exact c_between k
theorem l_works22:CallOK Tryz.prog 12 [] [] (.val (.bool true)) [] []:=by
 have oA:=m_Of 2 2 [2,1,1,2] (by decide) (by decide) rfl (by decide)
 have oI:=m_One 2 (by decide)
 rw[mone_2]at oI
 have oC:=m_Of 2 2 [0,1,1,1] (by decide) (by decide) rfl (by decide)
 have oD:=m_Of 2 2 [1,2,3,4] (by decide) (by decide) rfl (by decide)
 have c1:=w_counts 1 0 1 1 (by decide) (by decide+kernel)
 have c2:=w_counts 2 1 0 1 (by decide) (by decide+kernel)
 have c3:=w_counts 5 2 0 0 (by decide) (by decide+kernel)
 have b1:=w_betA
 have b2:=w_betC0
 have b3:=w_betC1
 have f1:CallOK Tryz.prog 26 [iv 1] [] (.frac 1) [] []:=c_fInt 1 (by decide) (by decide)
 have f2:CallOK Tryz.prog 26 [iv 2] [] (.frac 2) [] []:=c_fInt 2 (by decide) (by decide)
 have f3:CallOK Tryz.prog 26 [iv 3] [] (.frac 3) [] []:=c_fInt 3 (by decide) (by decide)
 have f4:CallOK Tryz.prog 26 [iv 4] [] (.frac 4) [] []:=c_fInt 4 (by decide) (by decide)
 have g1:CallOK Tryz.prog 53 [iv (-3),iv 4] [] (.frac (-3/4)) [] []:=c_of22 (-3) 4 (by decide) (by decide) (by decide)
 have g2:CallOK Tryz.prog 53 [iv (-1),iv 2] [] (.frac (-1/2)) [] []:=c_of22 (-1) 2 (by decide) (by decide) (by decide)
 have g3:CallOK Tryz.prog 53 [iv 14,iv 5] [] (.frac (14/5)) [] []:=c_of22 14 5 (by decide) (by decide) (by decide)
 have r1:=m_ReachOK (pen_A2.ok (by decide) (by decide)) (pen_A2.reach (by decide) (by decide) (by decide) far_A2 near_A2)
 rw[show(2:Rat)^2=4 from by decide+kernel]at r1
 have r2:=m_ReachOK (pen_C2.ok (by decide) (by decide)) (pen_C2.reach (by decide) (by decide) (by decide) far_C2 near_C2)
 rw[show(2:Rat)^1=2 from by decide+kernel]at r2
 have v1:=v_Of [1,2] (by decide) (by decide)
 have v2:=v_Of [0,0] (by decide) (by decide)
 have sv1:Sm 20 (ofInts [1,2]):=by unfold Sm;decide+kernel
 have sv2:Sm 20 (ofInts [0,0]):=by unfold Sm;decide+kernel
 have q1:=m_Form 2 pen_A2.ka (v:=ofInts [1,2]) (w:=ofInts [1,2]) rfl rfl sm_A2 sv1 sv1 (by decide) (by decide) (by decide) (by decide)
 have q2:=m_Form 2 pen_A2.km (v:=ofInts [1,2]) (w:=ofInts [1,2]) rfl rfl sm_I2 sv1 sv1 (by decide) (by decide) (by decide) (by decide)
 have q3:=m_Form 2 pen_A2.ka (v:=ofInts [0,0]) (w:=ofInts [0,0]) rfl rfl sm_A2 sv2 sv2 (by decide) (by decide) (by decide) (by decide)
 have q4:=m_Form 2 pen_A2.km (v:=ofInts [0,0]) (w:=ofInts [0,0]) rfl rfl sm_I2 sv2 sv2 (by decide) (by decide) (by decide) (by decide)
 rw[show mform 2 2 XA2 (ofInts [1,2]) (ofInts [1,2])=14 from by decide+kernel]at q1
 rw[show mform 2 2 XI2 (ofInts [1,2]) (ofInts [1,2])=5 from by decide+kernel]at q2
 rw[show mform 2 2 XI2 (ofInts [0,0]) (ofInts [0,0])=0 from by decide+kernel]at q4
 have q5:=m_QuotOK (pen_A2.ok (by decide) (by decide)) q1 q2 (by decide) (by decide+kernel)
 have q6:=m_QuotZ (pen_A2.ok (by decide) (by decide)) q3 q4
 have p1:=m_PolyOK pen_A2 (by decide) (by decide) (by decide)
 have p2:=m_PolyOK pen_C2 (by decide) (by decide) (by decide)
 rw[show polyF 2 XA2 XI2=[3, -4,1]from by decide+kernel]at p1
 rw[show polyF 2 XC2 XI2=[-1, -1,1]from by decide+kernel]at p2
 have x1:=t_VecG [3, -4,1] 20 (by decide) (by decide+kernel) (by decide)
 have x2:=t_VecG [-1, -1,1] 20 (by decide) (by decide+kernel) (by decide)
 have y1:(!(tV [3, -4,1]).toList==(ByteArray.mk #[91,51,32,45,52,32,49,93]).toList)=false:=by decide+kernel
 have y2:(!(tV [-1, -1,1]).toList==(ByteArray.mk #[91,45,49,32,45,49,32,49,93]).toList)=false:=by decide+kernel
 have e1:=m_CheckOK (pen_AA.ok (by decide) (by decide))
 have e2:=m_CheckP2 (a:=XA2) (m:=XC2) (A:=20) ⟨pen_A2.ka,(sym_turn rfl sy_A2).symm⟩ ⟨pen_C2.ka,(sym_turn rfl sy_C2).symm⟩ (pcl_sym (A:=el XC2 2) (M:=el XC2 2) sy_C2 sy_C2 0) (by decide) (by decide) sm_C2 (by decide+kernel)
 have e3:=m_CheckN (n:=2) (a:=XD2) (m:=XI2) ⟨by decide,by decide,rfl⟩ pen_A2.km (by decide) (by decide+kernel)
 have z1:(!decide ((4:Rat)=4))=false:=by decide
 have z2:(!decide ((2:Rat)=2))=false:=by decide
 have z3:(!decide ((14/5:Rat)=14/5))=false:=by rw[decide_eq_true rfl];rfl
 refine callV (Z:=[22,31,36,95,103]) tabOK mixedOK Tryz.func12 rfl (by kernel_rfl) rfl rfl (by kernel_rfl) rfl ?_
 intro W0 w0 ρ0 hE
 conv=>whnf
 (repeat((first|refine step_w1 rfl rfl ?_|refine step_w2 rfl rfl ?_|refine step_i (by kernel_rfl) ?_|refine g_c (by assumption) ?_|refine g_o (op_pickT rfl (ev_ok rfl) (ev_ok rfl)) ?_|refine g_o (op_pickF rfl (ev_ok rfl) (ev_ok rfl)) ?_|rw[beq_self_eq_true]|rw[bne_self_eq_false]|refine⟨_,op_neAgg tabOK goodOK rfl (ev_ok rfl) (ev_ok rfl) rfl rfl rfl rfl (q_same _ _) q_guard, ?_⟩|rw[z1]|rw[z2]|rw[z3]|rw[y1]|rw[y2]);conv=>whnf));(first|exact Recast.refl _|exact Frz.recast (Recast.refl _) rfl|(refine Frz.one rfl rfl ?_;skip)|(refine Frz.tup ?_;skip))
end Go.Proofs.YtfjhnollamkdcaaGreatDoor
