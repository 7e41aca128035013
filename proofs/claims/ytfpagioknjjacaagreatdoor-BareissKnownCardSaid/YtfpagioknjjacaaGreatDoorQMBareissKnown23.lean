/- The texts Pc. -/
import Derived.Test.YtfpagioknjjacaaGreatDoorQMBareissKnown14
import Derived.Test.YtfpagioknjjacaaGreatDoorQMBareissKnown22
namespace Go.Proofs.YtfpagioknjjacaaGreatDoor
open Go.Sx
set_option linter.unusedSimpArgs false
set_option linter.unusedVariables false
set_option maxRecDepth 100000
set_option maxHeartbeats 40000000
theorem O4 {n B:Nat} {a:List Int} (hn:n≤40) (ha:gu n n a) (za:Zm B a) (hB:B≤536870912):ab Tryz.prog 167 [wA n n a] [] (.ct [mA n n (aG a),iv 0]) [] []:=by
 have h:n*n≤40*40:=Nat.mul_le_mul hn hn
 have k:=xh n n a (by have:=ha.n;omega) fun i hi=>Nat.le_trans (za i hi) hB
 rw[dB ha.r ha.c ha.n,if_pos rfl]at k
 exact k
theorem C1 (x:Int):∀n:Nat,((x^n:Int):Rat)=(x:Rat)^n
 |0=>by rw[Int.pow_zero,Rat.pow_zero];rfl
 |n+1=>by rw[Int.pow_succ,Rat.pow_succ,Rat.intCast_mul,C1 x n]
theorem O5 {r s:Nat} {X:List Int} (hs:s<r):bo (r - s) (bl (stM r r s X) (r - s))=bo r (bl X r)*bo s (bl X r)^(r - s - 1):=by
 apply cast_inj
 rw[Rat.intCast_mul,C1,bT,bT,bT]
 obtain⟨m,hm⟩:∃m,r - s=m+1:=⟨r - s - 1,aa⟩
 have e:bH (r - s) (ra (bl (stM r r s X) (r - s)))=bH (r - s) (bm s (ra (bl X r))):=aO fun i k hi hk=>by
  show((bl (stM r r s X) (r - s) i k:Int):Rat)=_
  rw[←mc]
  exact congrArg _ (cB hi hk)
 rw[e,hm,G7 s m,Nat.add_sub_cancel,show s+(m+1)=r by omega]
theorem LL {r s:Nat} {X:List Int} (hX:X.length=r*r) (hs:s≤r):bH s (el (FI r (aG X) (dW s) (dW s)) s)=((bo s (bl X r):Int):Rat):=by
 rw[bT]
 refine aO fun i k hi hk=> ?_
 have e:=fy (r:=(dW s).length) (c:=(dW s).length) (f:=fun i k=>el (aG X) r ((dW s).getD i 0).toNat ((dW s).getD k 0).toNat) (i:=i) (k:=k) (by rw[bF];exact hi) (by rw[bF];exact hk)
 simp only[bF]at e
 show el (mk (dW s).length (dW s).length _) s i k=_
 rw[bF]
 rw[e,ib hi,ib hk]
 exact dJ hX (by simpa using(by omega:i<r)) (by simpa using(by omega:k<r))
theorem A9 (a:WW) (n sv:Int) (ha:K8 a) (hn:0≤n∧n<256) (hs:0≤sv∧sv<256):ab Tryz.prog 43 [wQ a,fV .u8 n,fV .u8 sv] [] (.val (.bool true)) [] []:=by
 have kw:=fO
 have kf:=xm [a] (by simp) (by intro m hm;simp only[List.mem_cons,List.not_mem_nil,or_false]at hm;obtain rfl:=hm;exact ha.2.2.1)
 cases hF:[a].all fun m=>decide (m.2.2.length≤40)
 ·rw[hF]at kf
  refine bP [3,29] Tryz.func43 ?_
  intro W0 w0 ρ0 hE
  conv=>whnf
  (repeat(first|(refine ag rfl rfl ?_;conv=>whnf)|(refine aS (by assumption) ?_;conv=>whnf)|(refine ak Q6 ?_;conv=>whnf)));exact Q5
 rw[hF]at kf
 have hr:(n % 6).toNat<6:=aa
 have e1:IntKind.u8.wrap (n.tmod 6)=n.tmod 6:=by rw[Int.tmod_eq_emod_of_nonneg hn.1,wrap_u8 aa aa]
 have e2:IntKind.i64.wrap (n.tmod 6)=(((n % 6).toNat:Nat):Int):=by rw[Int.tmod_eq_emod_of_nonneg hn.1,wrap_i64 aa aa];omega
 have e3:IntKind.i64.wrap sv=sv:=wrap_i64 aa aa
 generalize (n % 6).toNat=r at*
 rcases Nat.eq_zero_or_pos r with h0|h0
 ·subst h0
  refine bP [3,29] Tryz.func43 ?_
  intro W0 w0 ρ0 hE
  conv=>whnf
  (repeat((first|refine ag rfl rfl ?_|refine af rfl rfl ?_|refine bN Q3 ?_|refine aS (by assumption) ?_|refine ak Q6 ?_|rw[e2]);conv=>whnf));exact Q5
 have e0:decide ((r:Int)=0)=false:=decide_eq_false aa
 obtain⟨s,Ze,e5⟩:∃s:Nat,s<r∧sv.tmod (r:Int)=(s:Int):=by
  have h1:=Int.tmod_eq_emod_of_nonneg (b:=(r:Int)) hs.1
  have h2:=Int.emod_nonneg sv (show(r:Int)≠0 by omega)
  have h3:=Int.emod_lt_of_pos sv (show 0<(r:Int) by omega)
  exact⟨(sv % (r:Int)).toNat,aa,aa⟩
 have e6:IntKind.i64.wrap (s:Int)=(s:Int):=wrap_i64 aa aa
 have k2:=ru a ha (r:=r) (c:=r) aa aa
 have nC:=jO a.2.2 (r:=r) (c:=r) aa aa
 have zx:=ni ha.2.2.2 (r*r)
 generalize om a.2.2 (r*r)=X at*
 have hX:=nC.n
 have mD:=fun(t:Nat) (ht:t≤r)=>oU (s:=t) nC zx aF aa (by have:=CO (k:=5) aF;have h:4^(t+1)≤4^6:=Nat.pow_le_pow_right aF aa;omega) ht ht
 have k3:=rn nC zx aF aF aa (CO aa)
 have k4:=mD s aa
 have zM:Zm 300000 (stM r r s X):=kN fun i j hi hj=>iQ aa aF fun x y hx hy=>bX zx hX ZJ ZJ
 have okM:gu (r - s) (r - s) (stM r r s X):=gu.mk' aa aa _
 have h45:4^(r - s)≤1024:=Nat.pow_le_pow_right (n:=4) aF (show r - s≤5 by omega)
 have k5:=rn okM zM aF aF aa aa
 rw[O5 Ze]at k5
 have k6:=O4 aa nC zx aF
 have okF:jq r r (aG X):=⟨nC.r,nC.c,by rw[c5,hX]⟩
 have k7:=YP okF (dW s) (dW s) (by rw[bF];omega) (by rw[bF];omega) (by intro x hx;simp only[dW,List.mem_map,List.mem_range]at hx;obtain⟨i,hi,rfl⟩:=hx;omega) (by intro x hx;simp only[dW,List.mem_map,List.mem_range]at hx;obtain⟨i,hi,rfl⟩:=hx;omega)
 have k8:=LK (n:=s) (A:=66) (a:=FI r (aG X) (dW s) (dW s)) ⟨aa,aa,by rw[dx,bF]⟩ aa (wL fun i k hi hk=>by
  rw[bF]at hi hk
  rw[ib hi,ib hk]
  exact mb (c7 zx) okF.n (by simpa using(by omega:i<r)) (by simpa using(by omega:k<r))) aF aF
 rw[LL hX aa]at k8
 rw[bF]at k7
 have k9:=mR ((bo s (bl X r):Int):Rat)
 rw[Rat.den_intCast,decide_eq_true rfl]at k9
 have OL:=Jl ((bo s (bl X r):Int):Rat)
 rw[Rat.num_intCast]at OL
 have zs1:zs (bo s (bl X r))≤300000:=iQ aa aF fun x y hx hy=>bX zx hX aa aa
 have zs2:zs (bo r (bl X r))≤300000:=iQ aa aF fun x y hx hy=>bX zx hX aa aa
 have Q0:=Lj (bo s (bl X r)) (r - s - 1) aa aa
 have k12:=nb (bo r (bl X r)) (bo s (bl X r)^(r - s - 1)) (by have:=EH (bo s (bl X r)) (r - s - 1);have h2:(r - s - 1)*zs (bo s (bl X r))≤5*300000:=Nat.mul_le_mul aa zs1;omega)
 have k13:=mD (r - 1) aa
 have l13:(stM r r (r - 1) X).length=1:=by rw[EI,show r - (r - 1)=1 by omega]
 have g13:(stM r r (r - 1) X).getD 0 0=bo r (bl X r):=by
  have:=Ga (r:=r) (s:=r - 1) (X:=X) (i:=0) (k:=0) aa aa
  rw[Nat.zero_mul,iI,show r - 1+1=r by omega]at this
  exact this
 have ZS:=mD r (Nat.le_refl _)
 rw[show stM r r r X=[] by show eP (r - r) (r - r) _=[];rw[Nat.sub_self];rfl,Nat.sub_self]at ZS
 have k15:=Zh nC zx aa h0
 have w1:IntKind.i64.wrap ((r:Int) - (s:Int))=((r - s:Nat):Int):=by rw[wrap_i64 aa aa];omega
 have w2:IntKind.i64.wrap (((r - s:Nat):Int) - 1)=((r - s - 1:Nat):Int):=by rw[wrap_i64 aa aa];omega
 have w3:IntKind.i64.wrap ((r:Int) - 1)=((r - 1:Nat):Int):=by rw[wrap_i64 aa aa];omega
 have lu:=bF s
 clear mD zM okM h45 okF zs1 zs2 zx nC hX
 generalize stM r r s X=M at*
 generalize stM r r (r - 1) X=L at*
 generalize FI r (aG X) (dW s) (dW s)=PM at*
 generalize aG X=FX at*
 generalize bo s (bl X r)=Ds at*
 generalize bo r (bl X r)=D at*
 have w5:(!decide (D*Ds^(r - s - 1)=D*Ds^(r - s - 1)))=false:=by simp
 have w6:(!decide (D=D))=false:=by simp
 have g14:L.getD (Int.toNat 0) 0=D:=g13
 generalize D*Ds^(r - s - 1)=SD at*
 generalize Ds^(r - s - 1)=DP at*
 refine gX [3,29,100016,100019,100023] Tryz.func43 ?_
 intro w0 ρ0 hE
 conv=>whnf
 (repeat((first|refine af rfl rfl ?_|refine bN Q3 ?_|refine aS (by assumption) ?_|refine aM e0 ?_|refine ak Q6 ?_|rw[e2]|rw[e3]|rw[e5]);conv=>whnf))
 refine bR (t:=16) (k:=2002) (s:=1) (blk:=dH []) rfl rfl rfl ?_
 refine ai hE (fun k=>k) [3,6,7,8,9,10,11,12,13,14,15,16,17] [9,10,12,14,2002] (fun m fr hp=>∃i:Nat,m=s - i∧i≤s∧
  fr=[(3,bG [fV .u8 a.1,fV .u8 a.2.1,cF .i64 a.2.2]),(6,.val (.bool false)),(7,iv r),(8,iv s),(9,.ptr 9 0 0 0),(10,.ptr 10 0 0 0),(11,iv 0),(12,.ptr 12 0 0 0),(13,iv 0),(14,.ptr 14 0 0 0),(15,iv 0),(16,.aN 2002 1 0 i),(17,iv (i:Nat))]∧
  hp=[(9,⟨207,true,.one (wC r r X)⟩),(10,OO D),(12,⟨207,true,.one (wC (r - s:Nat) (r - s:Nat) M)⟩),(14,OO SD),(2002,dH (dW i))]) s ?_ ?_ ?_
 ·kernel_rfl
 ·exact⟨0,rfl,Nat.zero_le _,rfl,rfl⟩
 rintro m _ _ ⟨i,rfl,hi,rfl,rfl⟩
 conv=>whnf
 by_cases aA:i<s
 ·have lq:=bF i
  have t1:=dX aA
  have t2:=bA (i:=i) aa
  have e7:=mZ (l:=dW i) (x:=(i:Int))
  rw[lq,←ml]at e7
  clear k2 k3 k4 k5 k6 k7 k8 k9 OL Q0 k12 k13 ZS k15 kw kf
  (repeat((first|refine ay Q3 ?_|refine aE t1 ?_|rw[t1]|rw[t2]);conv=>whnf))
  refine⟨s - (i+1),cx [(71,2002)],[3,6,7,8,9,10,11,12,13,14,15,16,17],[9,10,12,14,71],aa,aB,i+1,rfl,aA,rfl, ?_⟩
  rw[e7];rfl
 ·have t1:=ez aA
  obtain rfl:i=s:=aa
  (repeat(first|(refine aM t1 ?_;conv=>whnf)|(rw[t1];conv=>whnf)))
  refine oh 16 2002 (fun _ h=>h) rfl rfl lu.symm ?_
  refine dC hE ?_
  conv=>whnf
  (repeat(first|(refine aS (by assumption) ?_;conv=>whnf)))
  refine eM (fr1:= ?fr1) (hp1:= ?hp1) (fun K hK=>dC hE ?ra1) ?rb1
  case ra1=>
   conv=>whnf
   (repeat((first|refine ag rfl rfl ?_|refine aw aB ?_|refine aS (by assumption) ?_|refine ak jo ?_|rw[bne_self_eq_false]|refine⟨_,dK aL df rfl (aj rfl) (aj rfl) rfl rfl rfl rfl (fN _ _) et, ?_⟩|rw[w1]|rw[w2]|rw[w5]);conv=>whnf))
   exact hK
  conv=>whnf
  (repeat(first|(refine af rfl rfl ?_;conv=>whnf)|(refine aS (by assumption) ?_;conv=>whnf)|(rw[w3];conv=>whnf)))
  refine eM (fr1:= ?fr2) (hp1:= ?hp2) (fun K hK=>dC hE ?ra2) ?rb2
  case ra2=>
   conv=>whnf
   (repeat((first|refine ag rfl rfl ?_|refine aw aB ?_|refine ak jo ?_|rw[bne_self_eq_false]|refine ak cO ?_|refine ak Q6 ?_|refine ak Nk ?_|refine⟨_,dK aL df rfl (aj rfl) (aj rfl) rfl rfl rfl rfl (fN _ _) et, ?_⟩|rw[l13]|rw[g14]|rw[w6]|rw[Nat.zero_add]);conv=>whnf))
   exact hK
  conv=>whnf
  (repeat((first|refine ag rfl rfl ?_|refine af rfl rfl ?_|refine aS (by assumption) ?_|refine ak jJ ?_);conv=>whnf));exact Q5
theorem ot (a0:WW) (a1 a2:Int) (w0:MB a0) (w1:(Lit.int .u8 a1).wf=true) (w2:(Lit.int .u8 a2).wf=true):
  ab Tryz.prog 43 [wQ a0,fV .u8 a1,fV .u8 a2] [] (.val (.bool true)) [] []:=A9 a0 a1 a2 (pW w0) (wf_u8 w1) (wf_u8 w2)
end Go.Proofs.YtfpagioknjjacaaGreatDoor
