/- The texts Ao. -/
import Derived.Test.YtadphegfhgmgmaaGreatDoorQMModesKnown25
set_option linter.unusedSimpArgs false
set_option linter.unusedVariables false
set_option maxHeartbeats 40000000
set_option maxRecDepth 100000
open ByteArray renaming mk->ϱ
namespace Go.Proofs.YtadphegfhgmgmaaGreatDoor
open Go.Sx
theorem wJ {n:Nat} {m:List Rat} (h:SymM n m) (hp:(aB n m m 0).p=n):iP n (el m n):=by
 have hi:cJ n (iC n m m 0) _ _ _:=uQ (mc (A:=el m n) (M:=el m n) h h 0);have nz:cJ n (iC n m m 0) (aB n m m 0).m (aB n m m 0).left (aB n m m 0).p:=hi;rw[hp]at nz;exact(iP.of nz).congr λi k _ _=>by show m.getD (i*n+k) 0 - 0*m.getD (i*n+k) 0=m.getD (i*n+k) 0;grind
abbrev HX:List Rat:=dp [2,1,1,2]
abbrev xJ:List Rat:=dp [1,0,0,1]
abbrev NO:List Rat:=dp [0,1,1,1]
abbrev XD2:List Rat:=dp [1,2,3,4]
theorem Sv:Cj 2=xJ:=by decide+kernel
theorem HY:SymM 2 HX:=by
 have:∀i,i<2->∀k,k<2->el HX 2 i k=el HX 2 k i:=by decide+kernel
 exact λi k hi hk=>this i hi k hk
theorem HZ:SymM 2 xJ:=by
 have:∀i,i<2->∀k,k<2->el xJ 2 i k=el xJ 2 k i:=by decide+kernel
 exact λi k hi hk=>this i hi k hk
theorem L9:SymM 2 NO:=by
 have:∀i,i<2->∀k,k<2->el NO 2 i k=el NO 2 k i:=by decide+kernel
 exact λi k hi hk=>this i hi k hk
theorem H0:Sm 20 HX:=by unfold Sm;decide+kernel
theorem Ma:Sm 20 xJ:=by unfold Sm;decide+kernel
theorem Zp:Sm 20 NO:=by unfold Sm;decide+kernel
theorem iS:nk 2 20 20 HX xJ:=⟨ax,rfl,rfl,HY,HZ,wJ HZ Gw,H0,Ma⟩
theorem xL:nk 2 20 20 NO xJ:=⟨ax,rfl,rfl,L9,HZ,wJ HZ Gw,Zp,Ma⟩
theorem acu:nk 2 20 20 HX HX:=⟨ax,rfl,rfl,HY,HY,wJ HY Gw,H0,H0⟩
theorem BF (t:Int) (b z p:Nat) (ht: -9223372036854775808<=t/\t<9223372036854775808) (h:(aB 2 HX xJ (t:Rat)).m=b/\(aB 2 HX xJ (t:Rat)).left=z/\(aB 2 HX xJ (t:Rat)).p=p):
  C0 59 [mA (2:Nat) (2:Nat) HX,mA (2:Nat) (2:Nat) xJ,iv t,iv (b:Nat),iv (z:Nat),iv (p:Nat)] (.val (.bool true)):=by
 have k:=iS.count (T:=65) (t:Rat) (pO ht.1 ht.2) ax ax;rw[h.1,h.2.1,h.2.2]at k;exact Ss t b z p ht k
theorem Sw:fg 2 HX xJ (2^2):=by unfold fg;decide+kernel
theorem Ka:fg 2 NO xJ (2^1):=by unfold fg;decide+kernel
theorem Mb:∀k,k<2->¬fg 2 HX xJ (2^k):=λk hk=>by
 rcases(show k=0\/k=1 by omega)with rfl|rfl<;>(unfold fg;decide+kernel)
theorem Fo:∀k,k<1->¬fg 2 NO xJ (2^k):=λk hk=>by
 obtain rfl:k=0:=aa;unfold fg;decide+kernel
theorem acv:C0 60 [mA (2:Nat) (2:Nat) HX,mA (2:Nat) (2:Nat) xJ,iv (1:Nat),iv (5:Nat),.frac 3,.frac 3] (.val (.bool true)):=by
 obtain⟨R,low,hR,hl,k,_⟩:=lE (k:=1) (places:=5) iS ax ax ax ax ax Sw Mb;have e1:R=96:=by rw[hR];decide+kernel
 subst e1;have e2:(((96:Int):Rat)*(1/2^5))=3:=by decide+kernel
 rw[e2]at hl k;have e3:low=3:=by rw[hl];decide+kernel
 subst e3;exact xI k
theorem Xo:C0 60 [mA (2:Nat) (2:Nat) NO,mA (2:Nat) (2:Nat) xJ,iv (0:Nat),iv (2:Nat),.frac (-3/4),.frac (-1/2)] (.val (.bool true)):=by
 obtain⟨R,low,hR,hl,k,_⟩:=lE (k:=0) (places:=2) xL ax ax ax ax ax Ka Fo;have e1:R= -2:=by rw[hR];decide+kernel
 subst e1;have e2:(((-2:Int):Rat)*(1/2^2))= -1/2:=by decide+kernel
 rw[e2]at hl k;have e3:low= -3/4:=by rw[hl];decide+kernel
 subst e3;exact xI k
theorem Xp:C0 60 [mA (2:Nat) (2:Nat) NO,mA (2:Nat) (2:Nat) xJ,iv (1:Nat),iv (0:Nat),.frac 1,.frac 2] (.val (.bool true)):=by
 obtain⟨R,low,hR,hl,k,_⟩:=lE (k:=1) (places:=0) xL ax ax ax ax ax Ka Fo;have e1:R=2:=by rw[hR];decide+kernel
 subst e1;have e2:(((2:Int):Rat)*(1/2^0))=2:=by decide+kernel
 rw[e2]at hl k;have e3:low=1:=by rw[hl];decide+kernel
 subst e3;exact xI k
theorem gX:C0 16 [] (.val (.bool true)):=by
 have oA:=Ws 2 2 [2,1,1,2] ax ax rfl ax;have oI:=LA 2 ax;rw[Sv]at oI;have oC:=Ws 2 2 [0,1,1,1] ax ax rfl ax;have oD:=Ws 2 2 [1,2,3,4] ax ax rfl ax;have c1:=BF 1 0 1 1 ax Gw;have c2:=BF 2 1 0 1 ax Gw;have c3:=BF 5 2 0 0 ax Gw;have b1:=acv;have b2:=Xo;have b3:=Xp;have f1:C0 35 [iv 1] (.frac 1):=dH 1 ax ax;have f2:C0 35 [iv 2] (.frac 2):=dH 2 ax ax;have f3:C0 35 [iv 3] (.frac 3):=dH 3 ax ax;have f4:C0 35 [iv 4] (.frac 4):=dH 4 ax ax;have g1:C0 61 [iv (-3),iv 4] (.frac (-3/4)):=J9 (-3) 4 ax ax ax;have g2:C0 61 [iv (-1),iv 2] (.frac (-1/2)):=J9 (-1) 2 ax ax ax;have g3:C0 61 [iv 14,iv 5] (.frac (14/5)):=J9 14 5 ax ax ax;have r1:=sM (iS.ok ax ax) (iS.reach ax ax ax Sw Mb);rw[show(2:Rat)^2=4 from by decide+kernel]at r1;have r2:=sM (xL.ok ax ax) (xL.reach ax ax ax Ka Fo);rw[show(2:Rat)^1=2 from by decide+kernel]at r2;have v1:=abw [1,2] ax ax;have v2:=abw [0,0] ax ax;have sv1:Sm 20 (dp [1,2]):=by unfold Sm;decide+kernel
 have sv2:Sm 20 (dp [0,0]):=by unfold Sm;decide+kernel
 have q1:=xq 2 iS.ka (v:=dp [1,2]) (w:=dp [1,2]) rfl rfl H0 sv1 sv1 ax ax ax ax;have q2:=xq 2 iS.km (v:=dp [1,2]) (w:=dp [1,2]) rfl rfl Ma sv1 sv1 ax ax ax ax;have q3:=xq 2 iS.ka (v:=dp [0,0]) (w:=dp [0,0]) rfl rfl H0 sv2 sv2 ax ax ax ax;have q4:=xq 2 iS.km (v:=dp [0,0]) (w:=dp [0,0]) rfl rfl Ma sv2 sv2 ax ax ax ax;rw[show gH 2 2 HX (dp [1,2]) (dp [1,2])=14 from by decide+kernel]at q1;rw[show gH 2 2 xJ (dp [1,2]) (dp [1,2])=5 from by decide+kernel]at q2;rw[show gH 2 2 xJ (dp [0,0]) (dp [0,0])=0 from by decide+kernel]at q4;have q5:=HK (iS.ok ax ax) q1 q2 ax Gw;have q6:=LU (iS.ok ax ax) q3 q4;have p1:=wI iS ax ax ax;have p2:=wI xL ax ax ax;rw[show wH 2 HX xJ=[3, -4,1]from by decide+kernel]at p1;rw[show wH 2 NO xJ=[-1, -1,1]from by decide+kernel]at p2;have x1:=QF [3, -4,1] 20 ax Gw ax;have x2:=QF [-1, -1,1] 20 ax Gw ax;have y1:(!(tV [3, -4,1]).toList==(ϱ #[91,51,32,45,52,32,49,93]).toList)=false:=by decide+kernel
 have y2:(!(tV [-1, -1,1]).toList==(ϱ #[91,45,49,32,45,49,32,49,93]).toList)=false:=by decide+kernel
 have e1:=dL (acu.ok ax ax);have e2:=Dz (a:=HX) (m:=NO) (A:=20) ⟨iS.ka,(mZ rfl HY).symm⟩ ⟨xL.ka,(mZ rfl L9).symm⟩ (mc (A:=el NO 2) (M:=el NO 2) L9 L9 0) ax ax Zp Gw;have e3:=HU (n:=2) (a:=XD2) (m:=xJ) ⟨ax,ax,rfl⟩ iS.km ax Gw;have z1:(!decide ((4:Rat)=4))=false:=ax;have z2:(!decide ((2:Rat)=2))=false:=ax;have z3:(!decide ((14/5:Rat)=14/5))=false:=by rw[decide_eq_true rfl];rfl
 refine bB [22,31,36,95,103] Tryz.func16 ?_;intro W0 w0 ρ0 hE;conv=>whnf
 (repeat((first|refine ag rfl rfl ?_|refine ae rfl rfl ?_|refine aq aD ?_|refine aN aJ ?_|refine an er ?_|refine an dZ ?_|rw[beq_self_eq_true]|rw[bne_self_eq_false]|refine⟨_,fE aH cd rfl (ai rfl) (ai rfl) rfl rfl rfl rfl (cQ _ _) b8, ?_⟩|rw[z1]|rw[z2]|rw[z3]|rw[y1]|rw[y2]);conv=>whnf));exact Q4
