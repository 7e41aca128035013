/- The texts Bc. -/
import Derived.Test.YtfpagioknjjacaaGreatDoorQMBareissKnown24
namespace Go.Proofs.YtfpagioknjjacaaGreatDoor
open Go.Sx
set_option linter.unusedSimpArgs false
set_option linter.unusedVariables false
set_option maxRecDepth 100000
set_option maxHeartbeats 40000000
theorem Gt {r c B:Nat} {a:List Int} (vO:r*c≤1600) (ha:gu r c a) (za:Zm B a) (hB:B≤536870912):ab Tryz.prog 167 [wA r c a] [] (.ct [mA r c (aG a),iv 0]) [] []:=by
 have k:=xh r c a (by have:=ha.n;omega) fun i hi=>Nat.le_trans (za i hi) hB
 rw[dB ha.r ha.c ha.n,if_pos rfl]at k
 exact k
theorem L8 {n:Nat} {X b:List Int} (hX:X.length=n*n) (hb:b.length=n) (c:Nat):((bo n (ED n X b c):Int):Rat)=bH n (fB (el (aG X) n) c fun i=>(aG b).getD i 0):=by
 rw[bT]
 refine aO fun i k hi hk=> ?_
 show((ED n X b c i k:Int):Rat)=_
 unfold ED fB
 by_cases e:k=c
 ·rw[if_pos e,if_pos e];exact(sE (show i<b.length by omega)).symm
 ·rw[if_neg e,if_neg e,dJ hX hi hk]
theorem L9 {n i:Nat} {a b:List Int} (hi:i<n):(MA n a b).getD i 0=bo n (ED n a b i):=by
 simp[MA,dW,List.getD_eq_getElem?_getD,hi]
theorem Pg (n:Nat) (a b:List Int):(MA n a b).length=n:=by simp[MA,dW]
theorem HR (a:WW) (n:Int) (b:List Int) (ha:K8 a) (hn:0≤n∧n<256) (hb:K8 (0,0,b)):ab Tryz.prog 44 [wQ a,fV .u8 n,cF .i64 b] [] (.val (.bool true)) [] []:=by
 have kw:=fO
 have kf:=xm [a] (by simp) (by intro m hm;simp only[List.mem_cons,List.not_mem_nil,or_false]at hm;obtain rfl:=hm;exact ha.2.2.1)
 cases hF:[a].all fun m=>decide (m.2.2.length≤40)
 ·rw[hF]at kf
  refine bP [3,25] Tryz.func44 ?_
  intro W0 w0 ρ0 hE
  conv=>whnf
  (repeat((first|refine ag rfl rfl ?_|refine af rfl rfl ?_|refine aS (by assumption) ?_|refine ak jJ ?_|refine ak Q6 ?_);conv=>whnf));exact Q5
 rw[hF]at kf
 by_cases hl:b.length>20
 ·have t1:decide ((b.length:Int)>20)=true:=decide_eq_true aa
  refine bP [3,25] Tryz.func44 ?_
  intro W0 w0 ρ0 hE
  conv=>whnf
  (repeat((first|refine ag rfl rfl ?_|refine aS (by assumption) ?_|refine ak jo ?_|refine aE t1 ?_|refine ak cO ?_|refine ak Q6 ?_);conv=>whnf));exact Q5
 have t1:decide ((b.length:Int)>20)=false:=decide_eq_false aa
 have hr:(n % 6).toNat<6:=aa
 have e1:IntKind.u8.wrap (n.tmod 6)=n.tmod 6:=by rw[Int.tmod_eq_emod_of_nonneg hn.1,wrap_u8 aa aa]
 have e2:IntKind.i64.wrap (n.tmod 6)=(((n % 6).toNat:Nat):Int):=by rw[Int.tmod_eq_emod_of_nonneg hn.1,wrap_i64 aa aa];omega
 generalize (n % 6).toNat=r at*
 have k1:=ru a ha (r:=r) (c:=r) aa aa
 have k2:=ru (0,0,b) hb (r:=r) (c:=1) aa aF
 have nC:=jO a.2.2 (r:=r) (c:=r) aa aa
 have zx:=ni ha.2.2.2 (r*r)
 have okb:=jO b (r:=r) (c:=1) aa aF
 have zb:Zm 65 (om b (r*1)):=ni hb.2.2.2 (r*1)
 generalize om a.2.2 (r*r)=X at*
 replace k2:ab Tryz.prog 158 [wQ (0,0,b),iv r,iv 1] [] (wA r 1 (om b (r*1))) [] []:=k2
 generalize om b (r*1)=Y at*
 have hX:=nC.n
 have hY:Y.length=r:=by have:=okb.n;omega
 have k3:=xl nC zx hY zb aF aF aa (CO aa)
 have k4:=rn nC zx aF aF aa (CO aa)
 have k5:=Gt (by have:r*r≤6*6:=Nat.mul_le_mul aa aa;omega) nC zx aF
 have k6:=Gt aa okb zb aF
 replace k6:ab Tryz.prog 167 [wA r 1 Y] [] (.ct [mA r 1 (aG Y),iv 0]) [] []:=k6
 have okF:jq r r (aG X):=⟨nC.r,nC.c,by rw[c5,hX]⟩
 have sF:Sm 66 (aG X):=c7 zx
 have lB:(aG Y).length=r:=by rw[c5,hY]
 have sB:Sm 66 (aG Y):=c7 zb
 have Ph:bH r (el (aG X) r)=((bo r (bl X r):Int):Rat):=by
  rw[bT];exact aO fun i k hi hk=>dJ hX hi hk
 have kS:=jt (bo r (bl X r))
 by_cases hD:bo r (bl X r)=0
 ·rw[if_pos hD]at k3
  have f1:((bo r (bl X r)).sign != 0)=false:=by rw[hD];rfl
  obtain⟨S,L,g,k7⟩:∃(S:List Rat) (L:List (List Rat)) (g:Int),ab Tryz.prog 126 [mA r r (aG X),cX (aG Y)] [] (.ct [.agg [cX S,cT 1 cX L],iv g]) [] []:=by
   by_cases hs:∃x,vj r r (aG X) (aG Y) x
   ·obtain⟨S,_,_,_,_,k⟩:=Dc okF aa aa sF aF aF lB sB hs
    exact⟨_,_,_,k⟩
   ·exact⟨_,_,_,L6 okF aa aa sF aF aF lB sB hs⟩
  clear nC zx okb zb okF sF lB sB Ph hD hX hY
  generalize bo r (bl X r)=D at*
  generalize aG X=FX at*
  generalize aG Y=FY at*
  refine bP [3,25] Tryz.func44 ?_
  intro W0 w0 ρ0 hE
  conv=>whnf
  (repeat((first|refine ag rfl rfl ?_|refine af rfl rfl ?_|refine bN Q3 ?_|refine aS (by assumption) ?_|refine ak jJ ?_|refine ak jo ?_|rw[bne_self_eq_false]|refine aM t1 ?_|refine ak cO ?_|refine ak Q6 ?_|refine⟨_,dK aL df rfl (aj rfl) (aj rfl) rfl rfl rfl rfl (fN _ _) et, ?_⟩|rw[t1]|rw[e2]|rw[f1]);conv=>whnf));exact Q5
 ·rw[if_neg hD]at k3
  have f1:((bo r (bl X r)).sign != 0)=true:=bne_iff_ne.2 fun g=>hD (Int.sign_eq_zero_iff_zero.1 g)
  have hDR:((bo r (bl X r):Int):Rat)≠0:=fun g=>hD (Rat.intCast_eq_zero_iff.1 g)
  have hdn:bH r (el (aG X) r)≠0:=by rw[Ph];exact hDR
  obtain⟨B,_,_,hB,_⟩:=EW okF aa sF aF aF hdn
  obtain⟨S,lS,sS,hS,_,k7⟩:=Dc okF aa aa sF aF aF lB sB ⟨_,Zu lB (ET hB)⟩
  have hK:KL r r (aG X)=[]:=by
   have:=Zt r r (aG X)
   rw[HL.2 hdn]at this
   exact List.length_eq_zero_iff.1 aa
  rw[hK]at k7
  have ZE:∀i,i<r→(((MA r X Y).getD i 0:Int):Rat)/((bo r (bl X r):Int):Rat)=S.getD i 0:=fun i hi=>by
   rw[L9 hi,L8 hX hY i,Zv (x:=fun q=>S.getD q 0) hi hS,Ph,Rat.div_def,Rat.mul_assoc,Rat.mul_inv_cancel _ hDR,Rat.mul_one]
  have zD:zs (bo r (bl X r))≤300000:=iQ aa aF fun x y hx hy=>bX zx hX hx hy
  have zC:∀i,i<r→zs ((MA r X Y).getD i 0)≤300000:=fun i hi=>by
   rw[L9 hi]
   exact iQ aa (by decide:65≤69) fun x y hx hy=>by
    have:=bX (K0 nC zx hY zb i) (cZ ..) hx hy
    rwa [cB hx hy]at this
  have lC:=Pg r X Y
  have f2:(((MA r X Y).length:Int) != (r:Int))=false:=by rw[lC];exact bne_self_eq_false _
  have f3:((S.length:Int) != (r:Int))=false:=by rw[lS];exact bne_self_eq_false _
  have f4:(!decide (bo r (bl X r)=bo r (bl X r)))=false:=by rw[decide_eq_true rfl];rfl
  have kD:=nk (bo r (bl X r)) aa
  clear nC zx okb zb okF sF lB sB Ph hD hX hY hdn hB hS hK sS
  generalize bo r (bl X r)=D at*
  generalize aG X=FX at*
  generalize aG Y=FY at*
  generalize MA r X Y=C at*
  refine bP [3,25] Tryz.func44 ?_
  intro W0 w0 ρ0 hE
  conv=>whnf
  (repeat((first|refine ag rfl rfl ?_|refine af rfl rfl ?_|refine bN Q3 ?_|refine aS (by assumption) ?_|refine ak jo ?_|rw[beq_self_eq_true]|rw[bne_self_eq_false]|refine aM t1 ?_|refine ak cO ?_|refine ak Q6 ?_|refine⟨_,dK aL df rfl (aj rfl) (aj rfl) rfl rfl rfl rfl (fN _ _) et, ?_⟩|rw[t1]|rw[e2]|rw[f1]|rw[f2]|rw[f3]|rw[f4]|rw[Nat.zero_add]);conv=>whnf))
  refine ai hE (fun k=>k) [7,10,11,19,21] [10,19] (fun M fr hp=>∃i:Nat,M=r - i∧i≤r∧fr=[(7,iv r),(10,.ptr 10 0 0 0),(11,gO C),(19,.ptr 19 0 0 0),(21,iv i)]∧hp=[(10,⟨50,true,.one [.int D]⟩),(19,⟨172,true,.one [cX S,cT 1 cX []]⟩)]) r ?_ ?_ ?_
  ·kernel_rfl
  ·exact⟨0,rfl,Nat.zero_le _,rfl,rfl⟩
  rintro M _ _ ⟨i,rfl,hi,rfl,rfl⟩
  conv=>whnf
  by_cases aA:i<r
  ·have t2:=dX aA
   have t3:=bA (i:=i) aa
   have z1:=zC i aA
   have z2:=oi (C.getD i 0)
   have z3:=oi D
   have kC:=nk (C.getD i 0) aa
   have kq:=ab9 ((C.getD i 0:Int):Rat) (D:Rat) hDR aa
   rw[ZE i aA]at kq
   have b1:i<C.length:=aa
   have b2:i<S.length:=aa
   clear k1 k2 k3 k4 k5 k6 k7 kw kf ZE zC
   (repeat((first|refine ag rfl rfl ?_|refine af rfl rfl ?_|refine aw aB ?_|refine aS (by assumption) ?_|refine ak jo ?_|rw[bne_self_eq_false]|refine aE t2 ?_|refine ak Ai ?_|refine ak Q6 ?_|refine ak nA ?_|refine⟨_,dK aL df rfl (aj rfl) (aj rfl) rfl rfl rfl rfl (acy (rfl)) uV, ?_⟩|rw[t2]|rw[t3]|rw[Nat.zero_add]);conv=>whnf))
   exact⟨r - (i+1),fun k=>k,[7,10,11,19,21],[10,19],aa,aB,i+1,rfl,aA,rfl,rfl⟩
  ·have t2:=ez aA
   (repeat(first|(refine aS (by assumption) ?_;conv=>whnf)|(refine aM t2 ?_;conv=>whnf)));exact Q5
theorem rI (a0:WW) (a1:Int) (a2:List Int) (w0:MB a0) (w1:(Lit.int .u8 a1).wf=true) (w2:a2.length≤maxLen∧∀x∈a2,(Lit.int .i64 x).wf=true):
  ab Tryz.prog 44 [wQ a0,fV .u8 a1,cF .i64 a2] [] (.val (.bool true)) [] []:=
 HR a0 a1 a2 (pW w0) (wf_u8 w1) (pW (m:=(0,0,a2)) ⟨(by decide:(Lit.int .u8 0).wf=true),(by decide:(Lit.int .u8 0).wf=true),w2⟩)
end Go.Proofs.YtfpagioknjjacaaGreatDoor
