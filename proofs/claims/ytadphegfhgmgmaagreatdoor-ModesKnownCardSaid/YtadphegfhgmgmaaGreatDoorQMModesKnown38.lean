/- The texts Lg1, Lg2. -/
import Derived.Test.YtadphegfhgmgmaaGreatDoorQMModesKnown25
import Derived.Test.YtadphegfhgmgmaaGreatDoorQMModesKnown26
import Derived.Test.YtadphegfhgmgmaaGreatDoorQMModesKnown31
import Derived.Test.YtadphegfhgmgmaaGreatDoorQMModesKnown7
set_option linter.unusedSimpArgs false
set_option linter.unusedVariables false
set_option maxHeartbeats 40000000
set_option maxRecDepth 100000
open List renaming replicate->θ
namespace Go.Proofs.YtadphegfhgmgmaaGreatDoor
open Go.Sx
theorem N0 {A:Nat} {a m:List Rat} (sa:HJ 1 a) (sm:HJ 1 m) (EL:dq 1 (iC 1 m m 0)) (h2:2<=A) (hM:A<=80000) (gM:Sm A m) (hp:(aB 1 m m 0).p≠1):C0 14 [mA (1:Nat) (1:Nat) a,mA (1:Nat) (1:Nat) m] (iv 1):=by
 have k1:=cO sa.ok;have k2:=cO sm.ok;have k3:=sK sa;have k4:=sK sm;have hB:∀i q,i<1->q<1->fs (iC 1 m m 0 i q)<=A:=λi q hi hq=>by
  show fs (m.getD (i*1+q) 0 - 0*m.getD (i*1+q) 0)<=A;rw[show m.getD (i*1+q) 0 - 0*m.getD (i*1+q) 0=m.getD (i*1+q) 0 by grind];exact eM gM sm.ok.n hi hq
 obtain⟨F,hF⟩:∃F,aB 1 m m 0=F:=⟨_,rfl⟩;rw[hF]at hp
 have kb:=wD (r:=1) m m 0 rfl ax ax sm.ok sm.ok (λi q hi hq=>by
  have h1:=eM gM sm.ok.n hi hq;have h3:=et;unfold el at h1
  omega)
 have ki:=sJ (r:=1) A (iC 1 m m 0) F rfl ax ax EL hB h2 hM hF;have t1:(((F.p:Nat):Int) != ((1:Nat):Int))=true:=bne_iff_ne.2 aa;refine bB [2,3] Tryz.func14 ?_;intro W0 w0 ρ0 hE;conv=>whnf
 (repeat(first|(refine ag rfl rfl ?_;conv=>whnf)|(refine ae rfl rfl ?_;conv=>whnf)|(refine aq aD ?_;conv=>whnf)|(refine aN aJ ?_;conv=>whnf)|(refine an dZ ?_;conv=>whnf)|(rw[bne_self_eq_false];conv=>whnf)|(refine ay t1 ?_;conv=>whnf)|(refine an Q6 ?_;conv=>whnf)|(refine an Q9 ?_;conv=>whnf)|(refine⟨[],_,qC _ 1 _,[],kb,aF,(λ_ _ _=>rfl),ar, ?_⟩;conv=>whnf)|(refine⟨qC _ 1 _,_,[],qC _ 1 _,ki,uU rfl rfl (λj hj=>by(obtain rfl:j=0:=by omega);rfl),ak,p5, ?_⟩;conv=>whnf)|(refine⟨_,[],[],eG rfl (ai rfl) (l:=[.int .i64 _,.int .i64 _,.int .i64 _]) rfl (ai rfl) (dz.get (t:=108) aH rfl) rfl (dz.get (t:=3) aH rfl) rfl rfl ax ax (v:=.int .i64 _) rfl rfl,aF,ak, ?_⟩;conv=>whnf)));exact Q4
theorem Um {n:Nat} {a m:List Rat} (ha:fa n n a) (hm:fa n n m) (hn:64<n):C0 14 [mA n n a,mA n n m] (iv 3):=by
 have k1:=cO ha;have k2:=cO hm;have h2:=ha.r;have t1:decide (((n:Nat):Int)>64)=true:=decide_eq_true aa;have t2:((n:Int) != (n:Int))=false:=bne_self_eq_false _;refine bB [2,3] Tryz.func14 ?_;intro W0 w0 ρ0 hE;conv=>whnf
 (repeat((first|refine ag rfl rfl ?_|refine ae rfl rfl ?_|refine aN aJ ?_|refine an dZ ?_|rw[bne_self_eq_false]|refine ay t1 ?_|refine an Q6 ?_|refine an Q9 ?_);conv=>whnf));exact Q4
theorem Iy {r c s t:Int} {a m:List Rat} (ha:a.length<1099511627776) {e:Int} (h:oj r c a.length=e) (he:e≠0):C0 14 [mA r c a,mA s t m] (iv e):=by
 have k1:=y7 r c a ha;rw[h]at k1;have t1:(e != 0)=true:=bne_iff_ne.2 he;refine bB [2,3] Tryz.func14 ?_;intro W0 w0 ρ0 hE;conv=>whnf
 (repeat(first|(refine aN aJ ?_;conv=>whnf)|(refine ay t1 ?_;conv=>whnf)|(refine an Q6 ?_;conv=>whnf)));exact Q4
theorem Un {n:Nat} {s t:Int} {a m:List Rat} (ha:fa n n a) (hm:m.length<1099511627776) {e:Int} (h:oj s t m.length=e) (he:e≠0):C0 14 [mA n n a,mA s t m] (iv e):=by
 have k0:=cO ha;have k1:=y7 s t m hm;rw[h]at k1;have t1:(e != 0)=true:=bne_iff_ne.2 he;have t2:((0:Int) != 0)=false:=rfl;refine bB [2,3] Tryz.func14 ?_;intro W0 w0 ρ0 hE;conv=>whnf
 (repeat((first|refine ae rfl rfl ?_|refine aN aJ ?_|rw[bne_self_eq_false]|refine ay t1 ?_|refine an Q6 ?_);conv=>whnf));exact Q4
end Go.Proofs.YtadphegfhgmgmaaGreatDoor
namespace Go.Sx
theorem DM {P:Program} {o:Oper} {ft:List (Nat×SV)} {fk:List (Nat×aC)} {t e:TypeId} {x y:Operand} {ti te:TI} {kl kc:IntKind} {l m:Int} (n:Nat) (ho:o.op= .makeSlice t x y) (hx:bg ft x (.val (.int kl l))) (hy:bg ft y (.val (.int kc m))) (hl:l=n) (hm:m=n)
  (ht:b6 P t ti) (hk:ti.kind= .aM e) (he:b6 P e te) (hz:te.zero=[.frac 0]) (hs:te.size=5) (hb:(te.bytes:Int)*n<=281474976710656/\(n:Int)<=9223372036854775807):bR P o ft fk (bx (θ n 0)) [] []:=by
 subst hl hm;exact Rl ho hx hy ht hk he hz hs hb
end Go.Sx
namespace Go.Proofs.YtadphegfhgmgmaaGreatDoor
open Go.Sx
theorem acJ {fk:List (Nat×aC)} {o:Oper} (ho:o.op= .makeSlice 33 (.const (.int .i64 1)) (.const (.int .i64 1))):bR Tryz.prog o [] fk (bx (θ 1 0)) [] []:=
 DM 1 ho (ai rfl) (ai rfl) rfl rfl (ez rfl) rfl (ez rfl) rfl rfl (by simp only[Yb];omega)
theorem acK {fk:List (Nat×aC)} {o:Oper} {n:Nat} (h:(2049:Int)=(n:Int)) (ho:o.op= .makeSlice 52 (.const (.int .i64 2049)) (.const (.int .i64 2049))):bR Tryz.prog o [] fk (bx (θ n 0)) [] []:=
 DM n ho (ai rfl) (ai rfl) h h (ez rfl) rfl (ez rfl) rfl rfl (by simp only[Yb];omega)
theorem XP {r c:Nat} {a v:List Rat} (ha:fa r c a) (hv:v.length<1099511627776) (hl:2048<v.length):C0 58 [mA r c a,bx v,bx v] (.bQ [.frac 0,iv 3]):=by
 have k0:=cO ha;have k1:=y8 [v,v] (by simp) (by simp;exact hv);have e:iQ [v,v]=3:=by simp[iQ,hl]
 rw[e]at k1;refine bB [3,20] Tryz.func58 ?_;intro W0 w0 ρ0 hE;conv=>whnf
 (repeat((first|refine ag rfl rfl ?_|refine ae rfl rfl ?_|refine aN aJ ?_|refine an Q6 ?_);conv=>whnf));exact Q4
theorem XQ {n A:Nat} {a m v:List Rat} (h:uu n A a m) (hv:v.length<1099511627776) (hl:2048<v.length):C0 15 [mA n n a,mA n n m,bx v] (.bQ [.frac 0,iv 3]):=by
 have k1:=dL h;have k2:=XP h.sa.ok hv hl;clear h;refine bB [3,4] Tryz.func15 ?_;intro W0 w0 ρ0 hE;conv=>whnf
 (repeat((first|refine ag rfl rfl ?_|refine ae rfl rfl ?_|refine aN aJ ?_|rw[bne_self_eq_false]|refine an Q6 ?_);conv=>whnf));exact Q4
theorem N2 (x:Rat):SymM 1 [x]:=λi k hi hk=>by
 obtain rfl:i=0:=aa;obtain rfl:k=0:=aa;rfl
theorem ahZ (x:Rat):fa 1 1 [x]:=⟨aa,aa,rfl⟩
theorem ZB (x:Rat):HJ 1 [x]:=⟨ahZ x,(mZ rfl (N2 x)).symm⟩
theorem ZC {x:Rat} (hx:Sm 20 [x]):uu 1 20 [x] [1]:=(show nk 1 20 20 [x] [1]from⟨ax,rfl,rfl,N2 x,N2 1,wJ (N2 1) Gw,hx,by unfold Sm;decide+kernel⟩).ok ax ax
theorem acL:SymM 0 []:=λi k hi hk=>aa
theorem afK:uu 0 20 [] []:=(show nk 0 20 20 [] []from⟨ax,rfl,rfl,acL,acL,wJ acL Gw,by unfold Sm;decide+kernel,by unfold Sm;decide+kernel⟩).ok ax ax
abbrev bdM (r c:Int):SV:=.agg [iv r,iv c,.val (.slice none 0 0)]
theorem ah0:C0 14 [mA (1:Nat) (1:Nat) [1],mA (1:Nat) (1:Nat) [0]] (iv 1):=
 N0 (A:=20) (ZB 1) (ZB 0) (mc (A:=el [0] 1) (M:=el [0] 1) (N2 0) (N2 0) 0) ax ax (by unfold Sm;decide+kernel) Gw
theorem ah1:C0 14 [mA (1:Nat) (1:Nat) [0],mA (1:Nat) (1:Nat) [1]] (iv 0):=dL (ZC (by unfold Sm;decide+kernel))
theorem afL {n:Nat} (h:n<=2048):fa n n (Cj n):=⟨h,h,eD ..⟩
theorem ah2:C0 14 [mA (65:Nat) (65:Nat) (Cj 65),mA (65:Nat) (65:Nat) (Cj 65)] (iv 3):=Um (afL ax) (afL ax) ax
abbrev XM2:List Rat:=dp [1,2,2,1]
theorem Uo:SymM 2 XM2:=by
 have:∀i,i<2->∀k,k<2->el XM2 2 i k=el XM2 2 k i:=by decide+kernel
 exact λi k hi hk=>this i hi k hk
theorem ah3:C0 14 [mA (2:Nat) (2:Nat) xJ,mA (2:Nat) (2:Nat) XM2] (iv 1):=
 Dz (A:=20) ⟨iS.km,(mZ rfl HZ).symm⟩ ⟨⟨ax,ax,rfl⟩,(mZ rfl Uo).symm⟩ (mc (A:=el XM2 2) (M:=el XM2 2) Uo Uo 0) ax ax (by unfold Sm;decide+kernel) Gw
theorem ah4:C0 14 [bdM 2 2,mA (65:Nat) (65:Nat) (Cj 65)] (iv 1):=by
 have h:=Iy (r:=2) (c:=2) (s:=(65:Nat)) (t:=(65:Nat)) (a:=[]) (m:=Cj 65) (e:=1) ax rfl ax;exact h.wk (args:=[.agg [iv 2,iv 2,.val (.slice none 0 0)],mA (65:Nat) (65:Nat) (Cj 65)]) Q18
theorem ah5:C0 14 [mA (2:Nat) (2:Nat) xJ,bdM 2 2] (iv 1):=by
 have h:=Un (n:=2) (s:=2) (t:=2) (a:=xJ) (m:=[]) (e:=1) iS.km ax rfl ax;exact h.wk (args:=[mA (2:Nat) (2:Nat) xJ,.agg [iv 2,iv 2,.val (.slice none 0 0)]]) Q18
theorem ah6:C0 14 [bdM 2049 0,bdM 2 2] (iv 3):=by
 have h:=Iy (r:=2049) (c:=0) (s:=2) (t:=2) (a:=[]) (m:=[]) (e:=3) ax rfl ax;exact h.wk (args:=[.agg [iv 2049,iv 0,.val (.slice none 0 0)],.agg [iv 2,iv 2,.val (.slice none 0 0)]]) Q18
theorem ah7:C0 14 [bdM 0 0,bdM 0 0] (iv 0):=
 (dL afK).wk (args:=[.agg [iv 0,iv 0,.val (.slice none 0 0)],.agg [iv 0,iv 0,.val (.slice none 0 0)]]) Q18
theorem e_q (n:Nat) (h:n=2049):C0 15 [mA (1:Nat) (1:Nat) [1],mA (1:Nat) (1:Nat) [1],bx (θ n 0)] (.bQ [.frac 0,iv 3]):=
 XQ (ZC (by unfold Sm;decide+kernel)) (by simp;omega) (by simp;omega)
theorem acM:Cj 1=[1]:=by decide+kernel
