/- The texts W4. -/
import Derived.Test.YthaeohlijigplaaGreatQLTopFound29
namespace Go.Proofs.YthaeohlijigplaaGreat
open Go.Sx
set_option linter.unusedSimpArgs false
set_option linter.unusedVariables false
set_option maxRecDepth 100000
set_option maxHeartbeats 32000000
def atP (a b c:Pt) (u v w:Rat):Pt:=padd (padd (pscale a u) (pscale b v)) (pscale c w)
theorem t_At {a b c:Pt} {B C:Nat} {u v w:Rat} (ha:PB B a) (hb:PB B b) (hc:PB B c) (hu:fs u≤C) (hv:fs v≤C) (hw:fs w≤C) (h:3*(B+C)≤1073741824):
  CallOK Tryz.prog 9 [ptA a,ptA b,ptA c,ag3f u v w] [] (ptA (atP a b c u v w)) [] []∧PB (3*(B+C)) (atP a b c u v w):=by
 have k1:=p_Scale ha hu (by omega)
 have k2:=p_Scale hb hv (by omega)
 have k3:=p_Scale hc hw (by omega)
 have q1:=ha.scale hu
 have q2:=hb.scale hv
 have q3:=hc.scale hw
 have k4:=p_Add q1 q2 (by omega)
 have k5:=p_Add (q1.add q2) q3 (by omega)
 refine⟨?_,((q1.add q2).add q3).mono (by omega)⟩
 unfold atP
 clear q1 q2 q3 ha hb hc
 generalize padd (padd (pscale a u) (pscale b v)) (pscale c w)=r at*
 generalize padd (pscale a u) (pscale b v)=q at*
 generalize pscale a u=x at*
 generalize pscale b v=y at*
 generalize pscale c w=z at*
 obtain⟨a1,a2⟩:=a
 obtain⟨b1,b2⟩:=b
 obtain⟨c1,c2⟩:=c
 obtain⟨x1,x2⟩:=x
 obtain⟨y1,y2⟩:=y
 obtain⟨z1,z2⟩:=z
 obtain⟨q1,q2⟩:=q
 obtain⟨r1,r2⟩:=r
 refine callV (Z:=[4,5,6,7]) tabOK mixedOK Tryz.func9 rfl (by kernel_rfl) rfl rfl (by kernel_rfl) rfl ?_
 intro W0 w0 ρ0 hE
 conv=>whnf
 (repeat((first|refine step_i (by kernel_rfl) ?_|refine g_c (by assumption) ?_|refine g_o (op_loadA rfl (ev_ok rfl) (tgt rfl) rfl (Nat.succ_ne_zero _) rfl) ?_|refine g_o (op_indexArrA rfl (ev_ok rfl) (ev_ok rfl) (tgt rfl) rfl (tgt rfl) (by omega) (by omega) (Nat.succ_ne_zero _) rfl) ?_);conv=>whnf));(first|exact Recast.refl _|exact Frz.recast (Recast.refl _) rfl|(refine Frz.one rfl rfl ?_;skip)|(refine Frz.tup ?_;skip))
theorem at_in {a b c:Pt} {u v w:Rat} (hT:0<tw a b c) (hu:0<u) (hv:0<v) (hw:0<w) (hs:u+v+w=1):inT a b c (atP a b c u v w):=by
 have e0:tw (atP a b c u v w) b c=u*tw a b c:=by
  have:u=1 - v - w:=by grind
  subst this
  simp only[atP,tw,pcross,psub,pscale,padd];grind
 have e1:tw a (atP a b c u v w) c=v*tw a b c:=by
  have:v=1 - u - w:=by grind
  subst this
  simp only[atP,tw,pcross,psub,pscale,padd];grind
 have e2:tw a b (atP a b c u v w)=w*tw a b c:=by
  have:w=1 - u - v:=by grind
  subst this
  simp only[atP,tw,pcross,psub,pscale,padd];grind
 refine⟨?_, ?_, ?_⟩
 ·rw[e0];exact Rat.mul_pos hu hT
 ·rw[e1];exact Rat.mul_pos hv hT
 ·rw[e2];exact Rat.mul_pos hw hT
end Go.Proofs.YthaeohlijigplaaGreat
