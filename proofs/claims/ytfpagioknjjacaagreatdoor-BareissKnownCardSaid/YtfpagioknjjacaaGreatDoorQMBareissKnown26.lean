/- The texts Oz. -/
import Derived.Test.YtfpagioknjjacaaGreatDoorQMBareissKnown24
import Derived.Test.YtfpagioknjjacaaGreatDoorQMBareissKnown6
namespace Go.Proofs.YtfpagioknjjacaaGreatDoor
open Go.Sx
set_option linter.unusedSimpArgs false
set_option linter.unusedVariables false
set_option maxRecDepth 100000
set_option maxHeartbeats 40000000
theorem pf {n B:Nat} {a:List Int} (hn:n≤40) (ha:gu n n a) (za:Zm B a) (hB:B≤536870912):ab Tryz.prog 167 [wA n n a] [] (.ct [mA n n (aG a),iv 0]) [] []:=by
 have h:n*n≤40*40:=Nat.mul_le_mul hn hn
 have k:=xh n n a (by have:=ha.n;omega) fun i hi=>Nat.le_trans (za i hi) hB
 rw[dB ha.r ha.c ha.n,if_pos rfl]at k
 exact k
theorem Bh {n B:Nat} {a:List Int} (ha:gu n n a) (za:Zm B a) (hB:2≤B) (hB2:B≤536870912) (hn:n≤40) (hb:2*(B*4^n)≤1073741824):
  ab Tryz.prog 159 [wA n n a] [] (.ct [wA n n (ik n a),iv 0]) [] []:=ng ha za hB hB2 hn hb
theorem EX {r C:Nat} {q:Rat} (hr:r≤2048) (hq:fs q≤C) (h:C+10≤1073741824):ab Tryz.prog 66 [.frac q,mA r r (ig r)] [] (.ct [mA r r (n7 q (ig r)),iv 0]) [] []:=
 N2 (KA (r:=r) (c:=r) (F:=delta) hr hr) hq (Y5 r) h
theorem dy {r c:Nat} {a:List Int} (ha:gu r c a):jq r c (aG a):=⟨ha.r,ha.c,by rw[c5,ha.n]⟩
theorem Bi (n:Nat) (a:List Rat) (h:a.length<1099511627776):ab Tryz.prog 20 [mA n n a,mA n n a] [] (.val (.bool true)) [] []:=by
 have k:=YO n n n n a a h h
 rw[show FH (n:Int) n n n a a=true from by simp[FH]]at k
 exact k
theorem De (v w:WW) (n:Int) (hv:K8 v) (hw:K8 w) (hn:0≤n∧n<256):ab Tryz.prog 45 [wQ v,wQ w,fV .u8 n] [] (.val (.bool true)) [] []:=by
 have kw:=fO
 have kf:=xm [v,w] (by simp) (by intro m hm;simp only[List.mem_cons,List.not_mem_nil,or_false]at hm;rcases hm with rfl|rfl;exact hv.2.2.1;exact hw.2.2.1)
 cases hF:[v,w].all fun m=>decide (m.2.2.length≤40)
 ·rw[hF]at kf
  refine bP [3,4,56] Tryz.func45 ?_
  intro W0 w0 ρ0 hE
  conv=>whnf
  (repeat(first|(refine ag rfl rfl ?_;conv=>whnf)|(refine aS (by assumption) ?_;conv=>whnf)|(refine ak Q6 ?_;conv=>whnf)));exact Q5
 rw[hF]at kf
 have hr:(n % 5).toNat<5:=aa
 have e1:IntKind.u8.wrap (n.tmod 5)=n.tmod 5:=by rw[Int.tmod_eq_emod_of_nonneg hn.1,wrap_u8 aa aa]
 have e2:IntKind.i64.wrap (n.tmod 5)=(((n % 5).toNat:Nat):Int):=by rw[Int.tmod_eq_emod_of_nonneg hn.1,wrap_i64 aa aa];omega
 generalize (n % 5).toNat=r at*
 have hp4:4^r≤4^4:=Nat.pow_le_pow_right aF aa
 have hrr:r*r≤4*4:=Nat.mul_le_mul aa aa
 have k1:=ru v hv (r:=r) (c:=r) aa aa
 have k2:=ru w hw (r:=r) (c:=r) aa aa
 have nC:=jO v.2.2 (r:=r) (c:=r) aa aa
 have zx:=ni hv.2.2.2 (r*r)
 have F9:=jO w.2.2 (r:=r) (c:=r) aa aa
 have zy:=ni hw.2.2.2 (r*r)
 generalize om v.2.2 (r*r)=X at*
 generalize om w.2.2 (r*r)=Y at*
 have hX:=nC.n
 have hY:=F9.n
 have ZX:gu r r (ik r X):=gu.mk' aa aa _
 have okB:gu r r (ik r Y):=gu.mk' aa aa _
 have okP:gu r r (Ig r X Y):=gu.mk' aa aa _
 have okT:gu r r (Ih r X):=gu.mk' aa aa _
 have ac7:gu r r (ik r (Ig r X Y)):=gu.mk' aa aa _
 have ac8:gu r r (ik r (Ih r X)):=gu.mk' aa aa _
 have zP:=Zw (n:=r) aa hX hY zx zy
 have zT:Zm 65 (Ih r X):=kN fun i k hi hk=>bX zx hX hk hi
 have zA:Zm 3912812 (ik r X):=kN fun i k hi hk=>rG (B:=65) aa aF (fun a b ha hb=>bX zx hX ha hb) hi hk
 have zB:Zm 3912812 (ik r Y):=kN fun i k hi hk=>rG (B:=65) aa aF (fun a b ha hb=>bX zy hY ha hb) hi hk
 have zAP:Zm 3912812 (ik r (Ig r X Y)):=kN fun i k hi hk=>rG (B:=600) aa aF (fun a b ha hb=>bX zP okP.n ha hb) hi hk
 have zAT:Zm 3912812 (ik r (Ih r X)):=kN fun i k hi hk=>rG (B:=65) aa aF (fun a b ha hb=>bX zT okT.n ha hb) hi hk
 have zD:=xz (n:=r) (B:=65) (A:=bl X r) aa aF fun i j hi hj=>bX zx hX hi hj
 have fD:=oi (bo r (bl X r))
 have a1:=pf aa nC zx aF
 have a2:=pf aa F9 zy aF
 have a3:=Bh nC zx aF aF aa aa
 have a4:=rn nC zx aF aF aa aa
 have a5:=pf aa ZX zA aF
 have a6:=QQ r aa
 have a7:=nk (bo r (bl X r)) aa
 have a8:=EX (r:=r) (q:=((bo r (bl X r):Int):Rat)) aa (show fs ((bo r (bl X r):Int):Rat)≤4000000 by omega) aF
 have a9:=FG 5 (dy nC) (dy ZX) (c7 zx) (c7 zA) aa aF
 rw[LW hX]at a9
 have a10:=FG 5 (dy ZX) (dy nC) (c7 zA) (c7 zx) aa aF
 rw[HM hX]at a10
 have a11:=Bi r (n7 ((bo r (bl X r):Int):Rat) (ig r)) (by rw[p9];omega)
 have a12:=FG 5 (dy nC) (dy F9) (c7 zx) (c7 zy) aa aF
 rw[C6 hX hY]at a12
 have a13:=oV (dy okP) (c7 zP) aF aa
 rw[Gp okP.n,Gn]at a13
 have a14:=Bh okP zP aF aF aa aa
 have a15:=pf aa ac7 zAP aF
 have a16:=Bh F9 zy aF aF aa aa
 have a17:=pf aa okB zB aF
 have a18:=FG 5 (dy okB) (dy ZX) (c7 zB) (c7 zA) aa aF
 rw[←LX]at a18
 have a19:=Bi r (aG (ik r (Ig r X Y))) (by rw[c5,cZ];omega)
 have a20:=Ka (dy nC)
 rw[C7 hX]at a20
 have a21:=oV (dy okT) (c7 zT) aF aa
 rw[Gp okT.n,Gn]at a21
 have a22:=Bh okT zT aF aF aa aa
 have a23:=pf aa ac8 zAT aF
 have a24:=Ka (dy ZX)
 rw[←LY]at a24
 have a25:=Bi r (aG (ik r (Ih r X))) (by rw[c5,cZ];omega)
 have k3:=nY 1 aF
 have lA:(aG (ik r X)).length=r*r:=by rw[c5,cZ]
 have w1:IntKind.i64.wrap ((r:Int)*(r:Int))=((r*r:Nat):Int):=by rw[←Int.natCast_mul,wrap_i64 aa aa]
 have w2:((r:Int) != (r:Int))=false:=bne_self_eq_false _
 have w3:(((r*r:Nat):Int) != ((r*r:Nat):Int))=false:=bne_self_eq_false _
 have lR:(List.replicate r 1).length=r:=List.length_replicate ..
 have gR:∀i,i<r→(List.replicate r 1).getD i 0=1:=fun i hi=>by rw[List.getD_eq_getElem?_getD,List.getElem?_replicate,if_pos hi];rfl
 have w4:((r:Int)==(r:Int))=true:=beq_self_eq_true _
 have w5:(!decide ((1:Nat)=1))=false:=rfl
 clear nC F9 ZX okB okP okT ac7 ac8 zP zT zA zB zAP zAT zD fD zx zy hX hY
 generalize aG (ik r (Ih r X))=m6 at*
 generalize ik r (Ih r X)=m7 at*
 generalize aG (ik r (Ig r X Y))=m1 at*
 generalize ik r (Ig r X Y)=m2 at*
 generalize n7 ((bo r (bl X r):Int):Rat) (ig r)=m3 at*
 generalize ig r=m8 at*
 generalize bo r (bl X r)=D at*
 generalize aG (Ig r X Y)=m4 at*
 generalize Ig r X Y=m5 at*
 generalize aG (Ih r X)=m9 at*
 generalize Ih r X=m10 at*
 generalize aG (ik r X)=m11 at*
 generalize ik r X=m12 at*
 generalize aG (ik r Y)=m13 at*
 generalize ik r Y=m14 at*
 generalize aG X=m15 at*
 generalize aG Y=m16 at*
 generalize List.replicate r 1=u at*
 refine gX [3,4,56] Tryz.func45 ?_
 intro w0 ρ0 hE
 conv=>whnf
 (repeat((first|refine ag rfl rfl ?_|refine af rfl rfl ?_|refine aw aB ?_|refine bN Q3 ?_|refine aS (by assumption) ?_|refine ak jo ?_|rw[bne_self_eq_false]|refine ak cO ?_|refine ak Q6 ?_|rw[e2]|rw[w1]|rw[lA]|rw[Nat.zero_add]);conv=>whnf))
 clear a1 a2 a3 a4 a5 a6 a7 a8 a9 a10 a11 a12 a13 a14 a15 a16 a17 a18 kf e1 e2 w1 w2 w3 k1 k2
 refine ai hE (fun k=>k) [6,7,9,17,30,31,33,38,40,42] [9,17,38,40] (fun m fr hp=>∃i:Nat,m=r - i∧i≤r∧
  fr=[(6,.val (.bool false)),(7,iv r),(9,.ptr 9 0 0 0),(17,.ptr 17 0 0 0),(30,Hv u),(31,iv 0),(33,iv 0),(38,.ptr 38 0 0 0),(40,.ptr 40 0 0 0),(42,iv (i:Nat))]∧
  hp=[(9,⟨38,true,.one (mC r r m15)⟩),(17,⟨38,true,.one (mC r r m11)⟩),(38,⟨38,true,.one (mC r r m1)⟩),(40,⟨38,true,.one (mC r r m1)⟩)]) r ?_ ?_ ?_
 ·kernel_rfl
 ·exact⟨0,rfl,Nat.zero_le _,rfl,rfl⟩
 rintro m _ _ ⟨i,rfl,hi,rfl,rfl⟩
 conv=>whnf
 by_cases aA:i<r
 ·have t1:=dX aA
  have t2:=bA (i:=i) aa
  have g1:=gR i aA
  clear a19 a20 a21 a22 a23 a24 a25 kw gR
  (repeat((first|refine af rfl rfl ?_|refine aw aB ?_|refine aS (by assumption) ?_|refine aE t1 ?_|refine ak cO ?_|refine ak Q6 ?_|refine ak Q25 ?_|refine⟨_,dK aL df rfl (aj rfl) (aj rfl) rfl rfl rfl rfl (vg _ _) rq, ?_⟩|rw[lR]|rw[t1]|rw[g1]|rw[w5]|rw[t2]);conv=>whnf))
  exact⟨r - (i+1),fun k=>k,[6,7,9,17,30,31,33,38,40,42],[9,17,38,40],aa,aB,i+1,rfl,aA,rfl,rfl⟩
 ·have t1:=ez aA
  obtain rfl:i=r:=aa
  clear k3 gR
  (repeat((first|refine ag rfl rfl ?_|refine aS (by assumption) ?_|refine ak jJ ?_|rw[beq_self_eq_true]|refine aM t1 ?_|refine ak cO ?_|rw[lR]);conv=>whnf));exact Q5
theorem pt (a0 a1:WW) (a2:Int) (w0:MB a0) (w1:MB a1) (w2:(Lit.int .u8 a2).wf=true):
  ab Tryz.prog 45 [wQ a0,wQ a1,fV .u8 a2] [] (.val (.bool true)) [] []:=De a0 a1 a2 (pW w0) (pW w1) (wf_u8 w2)
end Go.Proofs.YtfpagioknjjacaaGreatDoor
