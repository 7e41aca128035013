/- The texts Ao. -/
import Derived.Test.YtfpagioknjjacaaGreatDoorQMModesCount29
namespace Go.Proofs.YtfpagioknjjacaaGreatDoor
open Go.Sx
set_option linter.unusedSimpArgs false
set_option linter.unusedVariables false
set_option maxRecDepth 100000
set_option maxHeartbeats 40000000
theorem CX {n:Nat} {m:List Rat} (h:SymM n m) (hp:(aY n m m 0).p=n):hZ n (el m n):=by
 have hi:cK n (ie n m m 0) _ _ _:=qL (pN (A:=el m n) (M:=el m n) h h 0)
 have lB:cK n (ie n m m 0) (aY n m m 0).m (aY n m m 0).left (aY n m m 0).p:=hi
 rw[hp]at lB
 exact(hZ.of lB).congr fun i k _ _=>by show m.getD (i*n+k) 0 - 0*m.getD (i*n+k) 0=m.getD (i*n+k) 0;grind
abbrev Fs:List Rat:=cX [2,1,1,2]
abbrev zd:List Rat:=cX [1,0,0,1]
abbrev J6:List Rat:=cX [0,1,1,1]
abbrev XD2:List Rat:=cX [1,2,3,4]
theorem acC:afi 2=zd:=by decide+kernel
theorem Ft:SymM 2 Fs:=by
 have:∀i,i<2→∀k,k<2→el Fs 2 i k=el Fs 2 k i:=by decide+kernel
 exact fun i k hi hk=>this i hi k hk
theorem IU:SymM 2 zd:=by
 have:∀i,i<2→∀k,k<2→el zd 2 i k=el zd 2 k i:=by decide+kernel
 exact fun i k hi hk=>this i hi k hk
theorem IV:SymM 2 J6:=by
 have:∀i,i<2→∀k,k<2→el J6 2 i k=el J6 2 k i:=by decide+kernel
 exact fun i k hi hk=>this i hi k hk
theorem Fu:Sm 20 Fs:=by unfold Sm;decide+kernel
theorem IW:Sm 20 zd:=by unfold Sm;decide+kernel
theorem Vh:Sm 20 J6:=by unfold Sm;decide+kernel
theorem iS:zI 2 20 20 Fs zd:=⟨aH,rfl,rfl,Ft,IU,CX IU Jl,Fu,IW⟩
theorem u4:zI 2 20 20 J6 zd:=⟨aH,rfl,rfl,IV,IU,CX IU Jl,Vh,IW⟩
theorem acD:zI 2 20 20 Fs Fs:=⟨aH,rfl,rfl,Ft,Ft,CX Ft Jl,Fu,Fu⟩
theorem ze (t:Int) (b z p:Nat) (ht: -9223372036854775808≤t∧t<9223372036854775808) (h:(aY 2 Fs zd (t:Rat)).m=b∧(aY 2 Fs zd (t:Rat)).left=z∧(aY 2 Fs zd (t:Rat)).p=p):
  af Tryz.prog 132 [mA (2:Nat) (2:Nat) Fs,mA (2:Nat) (2:Nat) zd,iv t,iv (b:Nat),iv (z:Nat),iv (p:Nat)] [] (.val (.bool true)) [] []:=by
 have k:=iS.count (T:=65) (t:Rat) (nI ht.1 ht.2) aH aH
 rw[h.1,h.2.1,h.2.2]at k
 exact OX t b z p ht k
theorem OZ:iq 2 Fs zd (2^2):=by unfold iq;decide+kernel
theorem Hb:iq 2 J6 zd (2^1):=by unfold iq;decide+kernel
theorem IX:∀k,k<2→¬iq 2 Fs zd (2^k):=fun k hk=>by
 rcases(show k=0∨k=1 by omega)with rfl|rfl<;>(unfold iq;decide+kernel)
theorem CY:∀k,k<1→¬iq 2 J6 zd (2^k):=fun k hk=>by
 obtain rfl:k=0:=aa
 unfold iq;decide+kernel
theorem acE:af Tryz.prog 133 [mA (2:Nat) (2:Nat) Fs,mA (2:Nat) (2:Nat) zd,iv (1:Nat),iv (5:Nat),.frac 3,.frac 3] [] (.val (.bool true)) [] []:=by
 obtain⟨R,low,hR,hl,k,_⟩:=pn (k:=1) (places:=5) iS aH aH aH aH aH OZ IX
 have e1:R=96:=by rw[hR];decide+kernel
 subst e1
 have e2:(((96:Int):Rat)*(1/2^5))=3:=by decide+kernel
 rw[e2]at hl k
 have e3:low=3:=by rw[hl];decide+kernel
 subst e3
 exact uZ k
theorem Sj:af Tryz.prog 133 [mA (2:Nat) (2:Nat) J6,mA (2:Nat) (2:Nat) zd,iv (0:Nat),iv (2:Nat),.frac (-3/4),.frac (-1/2)] [] (.val (.bool true)) [] []:=by
 obtain⟨R,low,hR,hl,k,_⟩:=pn (k:=0) (places:=2) u4 aH aH aH aH aH Hb CY
 have e1:R= -2:=by rw[hR];decide+kernel
 subst e1
 have e2:(((-2:Int):Rat)*(1/2^2))= -1/2:=by decide+kernel
 rw[e2]at hl k
 have e3:low= -3/4:=by rw[hl];decide+kernel
 subst e3
 exact uZ k
theorem Sk:af Tryz.prog 133 [mA (2:Nat) (2:Nat) J6,mA (2:Nat) (2:Nat) zd,iv (1:Nat),iv (0:Nat),.frac 1,.frac 2] [] (.val (.bool true)) [] []:=by
 obtain⟨R,low,hR,hl,k,_⟩:=pn (k:=1) (places:=0) u4 aH aH aH aH aH Hb CY
 have e1:R=2:=by rw[hR];decide+kernel
 subst e1
 have e2:(((2:Int):Rat)*(1/2^0))=2:=by decide+kernel
 rw[e2]at hl k
 have e3:low=1:=by rw[hl];decide+kernel
 subst e3
 exact uZ k
theorem J7:af Tryz.prog 32 [] [] (.val (.bool true)) [] []:=by
 have oA:=ab5 2 2 [2,1,1,2] aH aH rfl aH
 have oI:=afT 2 aH
 rw[acC]at oI
 have oC:=ab5 2 2 [0,1,1,1] aH aH rfl aH
 have oD:=ab5 2 2 [1,2,3,4] aH aH rfl aH
 have c1:=ze 1 0 1 1 aH Jl
 have c2:=ze 2 1 0 1 aH Jl
 have c3:=ze 5 2 0 0 aH Jl
 have b1:=acE
 have b2:=Sj
 have b3:=Sk
 have f1:af Tryz.prog 18 [iv 1] [] (.frac 1) [] []:=eG 1 aH aH
 have f2:af Tryz.prog 18 [iv 2] [] (.frac 2) [] []:=eG 2 aH aH
 have f3:af Tryz.prog 18 [iv 3] [] (.frac 3) [] []:=eG 3 aH aH
 have f4:af Tryz.prog 18 [iv 4] [] (.frac 4) [] []:=eG 4 aH aH
 have g1:af Tryz.prog 134 [iv (-3),iv 4] [] (.frac (-3/4)) [] []:=Ha (-3) 4 aH aH aH
 have g2:af Tryz.prog 134 [iv (-1),iv 2] [] (.frac (-1/2)) [] []:=Ha (-1) 2 aH aH aH
 have g3:af Tryz.prog 134 [iv 14,iv 5] [] (.frac (14/5)) [] []:=Ha 14 5 aH aH aH
 have r1:=Bh (iS.ok aH aH) (iS.reach aH aH aH OZ IX)
 rw[show(2:Rat)^2=4 from by decide+kernel]at r1
 have r2:=Bh (u4.ok aH aH) (u4.reach aH aH aH Hb CY)
 rw[show(2:Rat)^1=2 from by decide+kernel]at r2
 have v1:=abl [1,2] aH aH
 have v2:=abl [0,0] aH aH
 have sv1:Sm 20 (cX [1,2]):=by unfold Sm;decide+kernel
 have sv2:Sm 20 (cX [0,0]):=by unfold Sm;decide+kernel
 have q1:=CM 2 iS.ka (v:=cX [1,2]) (w:=cX [1,2]) rfl rfl Fu sv1 sv1 aH aH aH aH
 have q2:=CM 2 iS.km (v:=cX [1,2]) (w:=cX [1,2]) rfl rfl IW sv1 sv1 aH aH aH aH
 have q3:=CM 2 iS.ka (v:=cX [0,0]) (w:=cX [0,0]) rfl rfl Fu sv2 sv2 aH aH aH aH
 have q4:=CM 2 iS.km (v:=cX [0,0]) (w:=cX [0,0]) rfl rfl IW sv2 sv2 aH aH aH aH
 rw[show Iu 2 2 Fs (cX [1,2]) (cX [1,2])=14 from by decide+kernel]at q1
 rw[show Iu 2 2 zd (cX [1,2]) (cX [1,2])=5 from by decide+kernel]at q2
 rw[show Iu 2 2 zd (cX [0,0]) (cX [0,0])=0 from by decide+kernel]at q4
 have q5:=OT (iS.ok aH aH) q1 q2 aH Jl
 have q6:=Sh (iS.ok aH aH) q3 q4
 have p1:=y9 iS aH aH aH
 have p2:=y9 u4 aH aH aH
 rw[show vG 2 Fs zd=[3, -4,1]from by decide+kernel]at p1
 rw[show vG 2 J6 zd=[-1, -1,1]from by decide+kernel]at p2
 have x1:=NA [3, -4,1] 20 aH Jl aH
 have x2:=NA [-1, -1,1] 20 aH Jl aH
 have y1:(!(tV [3, -4,1]).toList==(ByteArray.mk #[91,51,32,45,52,32,49,93]).toList)=false:=by decide+kernel
 have y2:(!(tV [-1, -1,1]).toList==(ByteArray.mk #[91,45,49,32,45,49,32,49,93]).toList)=false:=by decide+kernel
 have e1:=iR (acD.ok aH aH)
 have e2:=J5 (a:=Fs) (m:=J6) (A:=20) ⟨iS.ka,(sX rfl Ft).symm⟩ ⟨u4.ka,(sX rfl IV).symm⟩ (pN (A:=el J6 2) (M:=el J6 2) IV IV 0) aH aH Vh Jl
 have e3:=OY (n:=2) (a:=XD2) (m:=zd) ⟨aH,aH,rfl⟩ iS.km aH Jl
 have z1:(!decide ((4:Rat)=4))=false:=aH
 have z2:(!decide ((2:Rat)=2))=false:=aH
 have z3:(!decide ((14/5:Rat)=14/5))=false:=by rw[decide_eq_true rfl];rfl
 refine cj [22,31,36,95,103] Tryz.func32 ?_
 intro W0 w0 ρ0 hE
 conv=>whnf
 (repeat((first|refine ah rfl rfl ?_|refine ag rfl rfl ?_|refine aB aF ?_|refine a8 (by assumption) ?_|refine aC iT ?_|refine aC ik ?_|rw[beq_self_eq_true]|rw[bne_self_eq_false]|refine⟨_,xx aM me rfl (ak rfl) (ak rfl) rfl rfl rfl rfl (B0 _ _) wc, ?_⟩|rw[z1]|rw[z2]|rw[z3]|rw[y1]|rw[y2]);conv=>whnf));exact Q4
end Go.Proofs.YtfpagioknjjacaaGreatDoor
