/- The texts Qx. -/
import Derived.Test.YtfpagioknjjacaaGreatDoorQMElimsKnown16
namespace Go.Proofs.YtfpagioknjjacaaGreatDoor
open Go.Sx
set_option linter.unusedSimpArgs false
set_option linter.unusedVariables false
set_option maxRecDepth 100000
set_option maxHeartbeats 40000000
theorem ln (ms:List MM) (h:ms.length<1000) (hl:∀m∈ms,Eb m):ab Tryz.prog 112 [bF 3 mQ ms] [] (.val (.bool (ms.all fun m=>decide (m.2.2.length≤40)))) [] []:=Pg ms h fun m hm=>(hl m hm).2.2.1
theorem Ih {r c:Nat} {x:List Rat}:(bV c r (iG r c x)).length=(bV r c x).length:=by
 rw[gq,gq];exact(Aw (V:=tr (el x c)) fun _ _ hi hk=>sZ hi hk).trans (LB r c _)
theorem Mm {r s t:Nat} {x y:List Rat}:(bV r t (fA r s t x y)).length=qO r t (pr s (el x s) (el y t)):=by
 rw[gq];exact Aw fun _ _ hi hk=>ec hi hk
theorem Ph (a b:MM) (n k p:Int) (ha:Eb a) (hb:Eb b) (hn:0≤n∧n<256) (hk:0≤k∧k<256) (hp:0≤p∧p<256):
  ab Tryz.prog 24 [mQ a,mQ b,jv .u8 n,jv .u8 k,jv .u8 p] [] (.val (.bool true)) [] []:=by
 have kw:=eP
 have kf:=ln [a,b] (by simp) Q35
 cases hF:[a,b].all fun m=>decide (m.2.2.length≤40)
 ·rw[hF]at kf
  refine bT [5,6,29] Tryz.func24 ?_
  intro W0 w0 ρ0 hE
  conv=>whnf
  (repeat(first|(refine ag rfl rfl ?_;conv=>whnf)|(refine aS (by assumption) ?_;conv=>whnf)|(refine ah Q5 ?_;conv=>whnf)));exact Q4
 rw[hF]at kf
 obtain⟨e1,e2⟩:=jB n hn 6 aI
 obtain⟨e3,e4⟩:=jB k hk 6 aI
 obtain⟨e5,e6⟩:=jB p hp 6 aI
 have r5:(n % 6).toNat≤5:=aa
 have s5:(k % 6).toNat≤5:=aa
 have t5:(p % 6).toNat≤5:=aa
 generalize (n % 6).toNat=r at*
 generalize (k % 6).toNat=s at*
 generalize (p % 6).toNat=t at*
 have x1:=oT a ha (r:=r) (c:=s) aa aa
 have y1:=oT b hb (r:=s) (c:=t) aa aa
 have hx:=fB a.2.2 (r:=r) (c:=s) aa aa
 have hy:=fB b.2.2 (r:=s) (c:=t) aa aa
 have sx:=eT ha.2.2.2 (r*s)
 have sy:=eT hb.2.2.2 (s*t)
 generalize cM a.2.2 (r*s)=x at*
 generalize cM b.2.2 (s*t)=y at*
 have o1:=xO hx
 have o2:=z6 5 hx hy sx sy s5 aI
 have EP:=v8 hx hy
 have MS:Sm 1302 (fA r s t x y):=E7 hx.n hy.n sx sy s5
 have k1:=pX hx aa aa sx aI aI
 have k2:=pX hy aa aa sy aI aI
 have k3:=pX (oW hx) aa aa (v7 hx.n sx) aI aI
 have k4:=pX EP aa aa MS aI aI
 have k5:=pY hx aa aa sx aI aI
 rw[Ih]at k3
 rw[Mm]at k4
 have g1:=OZ r s t (el x s) (el y t)
 have g2:=O0 r s t (el x s) (el y t)
 have g3:=yv r s x
 have g4:=yj r s (el x s)
 have g5:=ng r s (el x s)
 have g6:=yj s t (el y t)
 rw[gq]at k1 k2 k3 g3
 clear hx hy sx sy EP MS ha hb hn hk hp hF
 generalize qO r t (pr s (el x s) (el y t))=U at*
 generalize qO r s (el x s)=R at*
 generalize qO s t (el y t)=V at*
 generalize KL r s x=L at*
 generalize iG r s x=T at*
 generalize fA r s t x y=XY at*
 have f1:((R:Int)==(R:Int))=true:=beq_self_eq_true _
 have f2:decide ((U:Int)≤(R:Int))=true:=decide_eq_true aa
 have f3:decide ((U:Int)≤(V:Int))=true:=decide_eq_true aa
 have w1:IntKind.i64.wrap ((R:Int)+(L.length:Int))=(s:Int):=by rw[wrap_i64 aa aa];omega
 have f4:((s:Int)==(s:Int))=true:=beq_self_eq_true _
 have f5:decide ((R:Int)≤(if (s:Int)<(r:Int)then(s:Int)else(r:Int)))=true:=decide_eq_true (by split<;>omega)
 have w2:IntKind.i64.wrap ((R:Int)+(V:Int))=((R+V:Nat):Int):=by rw[wrap_i64 aa aa];omega
 have w3:IntKind.i64.wrap (((R+V:Nat):Int) - (s:Int))=((R+V:Nat):Int) - (s:Int):=wrap_i64 aa aa
 have f6:decide (((R+V:Nat):Int) - (s:Int)≤(U:Int))=true:=decide_eq_true aa
 clear g1 g2 g3 g4 g5 g6
 refine bT [5,6,29] Tryz.func24 ?_
 intro W0 w0 ρ0 hE
 conv=>whnf
 (repeat((first|refine ag rfl rfl ?_|refine ae rfl rfl ?_|refine aq av ?_|refine bX Q3 ?_|refine aS (by assumption) ?_|refine ah dO ?_|refine ah dP ?_|rw[beq_self_eq_true]|rw[bne_self_eq_false]|refine ao f2 ?_|refine ao f3 ?_|refine ao f5 ?_|refine ao f6 ?_|refine ah Q8 ?_|refine ah Q5 ?_|rw[e2]|rw[e4]|rw[e6]|rw[f2]|rw[f3]|rw[w1]|rw[f5]|rw[w2]|rw[w3]|rw[f6]);conv=>whnf));exact Q4
theorem ze (a0 a1:MM) (a2 a3 a4:Int) (w0:GL a0) (w1:GL a1) (w2:(Lit.int .u8 a2).wf=true) (w3:(Lit.int .u8 a3).wf=true) (w4:(Lit.int .u8 a4).wf=true):
  ab Tryz.prog 24 [mQ a0,mQ a1,jv .u8 a2,jv .u8 a3,jv .u8 a4] [] (.val (.bool true)) [] []:=Ph a0 a1 a2 a3 a4 (mo w0) (mo w1) (wf_u8 w2) (wf_u8 w3) (wf_u8 w4)
end Go.Proofs.YtfpagioknjjacaaGreatDoor
