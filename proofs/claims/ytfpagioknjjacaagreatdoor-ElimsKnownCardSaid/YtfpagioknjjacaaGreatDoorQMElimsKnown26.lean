/- The texts Bj. -/
import Derived.Test.YtfpagioknjjacaaGreatDoorQMElimsKnown25
import Derived.Test.YtfpagioknjjacaaGreatDoorQMElimsKnown17
import Derived.Test.YtfpagioknjjacaaGreatDoorQMElimsKnown16
namespace Go.Proofs.YtfpagioknjjacaaGreatDoor
open Go.Sx
set_option linter.unusedSimpArgs false
set_option linter.unusedVariables false
set_option maxRecDepth 100000
set_option maxHeartbeats 40000000
theorem FM (a:MM) (n:Int) (ha:Eb a) (hn:0≤n∧n<256):ab Tryz.prog 22 [mQ a,jv .u8 n] [] (.val (.bool true)) [] []:=by
 have kw:=eP
 have kf:=ln [a] (by simp) Q31
 cases hF:[a].all fun m=>decide (m.2.2.length≤40)
 ·rw[hF]at kf
  refine bT [2,18] Tryz.func22 ?_
  intro W0 w0 ρ0 hE
  conv=>whnf
  (repeat(first|(refine ag rfl rfl ?_;conv=>whnf)|(refine aS (by assumption) ?_;conv=>whnf)|(refine ah Q5 ?_;conv=>whnf)));exact Q4
 rw[hF]at kf
 obtain⟨e1,e2⟩:=jB n hn 6 aI
 have s5:(n % 6).toNat≤5:=aa
 have ks:=On a ha
 have km:=GM a ha
 have n6:=iY a.1
 have k6:=iY a.2.1
 generalize (a.1 % 7).toNat=r at*
 generalize (a.2.1 % 7).toNat=c at*
 generalize (n % 6).toNat=s at*
 have x1:=oT a ha (r:=s) (c:=s) aa aa
 have x2:=K6 a ha (r:=s) (c:=s) aa aa
 have x3:=K6 a ha (r:=r) (c:=c) aa aa
 have hX:=fB a.2.2 (r:=r) (c:=c) aa aa
 have sX:=eT ha.2.2.2 (r*c)
 have hY:=fB a.2.2 (r:=s) (c:=s) aa aa
 have sY:=eT ha.2.2.2 (s*s)
 generalize cM a.2.2 (r*c)=X at*
 generalize cM a.2.2 (s*s)=Y at*
 have k1:=eO hX aa aa sX aI aI
 have k2:=pX hX aa aa sX aI aI
 have k3:=FK hX sX n6 k6 aI aI
 have okR:=Mf hX aa
 have smR:=Ra hX aa sX aI
 have t1:=E8 okR smR aI
 have t2:=K7 okR smR aI
 have lp:((bV r c X).map cY).length≤6:=by rw[List.length_map];have:=ng r c (el X c);rw[←gq]at this;omega
 have hlp:((bV r c X).map cY).length=(bV r c X).length:=List.length_map _
 have z2:=yF ((bV r c X).map cY) ((bV r c X).map cY) aa aa
 rw[decide_eq_true rfl]at z2
 have kd:=iA hY aa sY aI aI
 have kr:=acy hY.n sY s5 aI
 have df:=yE hY aa sY aI
 have kS:=Pb (bL s (el Y s)) aa
 have lR:=Zd r c X
 have Jd:r*c≤6*6:=Nat.mul_le_mul n6 k6
 have w0:IntKind.i64.wrap ((r:Int)*(c:Int))=((r*c:Nat):Int):=(kK (i:=r) (k:=0) (c:=c) aa aa aa).1
 have f1:((r:Int) != (r:Int))=false:=bne_self_eq_false _
 have f2:((c:Int) != (c:Int))=false:=bne_self_eq_false _
 have f3:(((RL r c X).length:Int) != ((r*c:Nat):Int))=false:=by rw[lR];exact bne_self_eq_false _
 have f4:(((bV r c X).length:Int) != (((bV r c X).map cY).length:Int))=false:=by rw[hlp];exact bne_self_eq_false _
 clear hX sX hY sY okR smR df lR
 generalize RL r c X=R at*
 generalize tM r c R=s0 at*
 generalize (bV r c X).map cY=P at*
 generalize (bV r c X).length=K at*
 generalize bL s (el Y s)=D at*
 have f5:(!s0.toList==s0.toList)=false:=by rw[beq_self_eq_true];rfl
 refine bT [2,18] Tryz.func22 ?_
 intro W0 w0' ρ0 hE
 conv=>whnf
 (repeat((first|refine ag rfl rfl ?_|refine ae rfl rfl ?_|refine aq av ?_|refine bX Q3 ?_|refine aS (by assumption) ?_|refine ah dO ?_|refine ah dP ?_|rw[beq_self_eq_true]|rw[bne_self_eq_false]|refine ay f4 ?_|refine ah Q8 ?_|refine ah Q5 ?_|refine ah (Io rfl (ak rfl) (jz rfl) rfl rfl rfl (jz rfl) rfl rfl) ?_|rw[e2]|rw[w0]|rw[f3]);conv=>whnf));exact Q4
theorem nq (a0:MM) (a1:Int) (w0:GL a0) (w1:(Lit.int .u8 a1).wf=true):
  ab Tryz.prog 22 [mQ a0,jv .u8 a1] [] (.val (.bool true)) [] []:=FM a0 a1 (mo w0) (wf_u8 w1)
end Go.Proofs.YtfpagioknjjacaaGreatDoor
