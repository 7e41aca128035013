/- The texts Fa. -/
import Derived.Test.YtfpagioknjjacaaGreatDoorQMModesCount3
namespace Go.Proofs.YtfpagioknjjacaaGreatDoor
open Go.Sx
set_option linter.unusedSimpArgs false
set_option linter.unusedVariables false
set_option maxRecDepth 100000
set_option maxHeartbeats 4000000
variable {M:Nat}
theorem HB (a b:Rat):decide (a.den - 1=b.den - 1)=decide (a.den=b.den):=decide_eq_decide.2 (by have:=a.den_pos;have:=b.den_pos;omega)
theorem v8 {x y:Int} {k M:Nat} (hx:sz x.natAbs≤k) (hy:sz y.natAbs≤k) (h:k+1≤M):sz (x+y).natAbs≤M:=
 Nat.le_trans (Nat.le_trans (eJ (Int.natAbs_add_le x y)) (xy hx hy)) h
theorem xU {a b:Rat} (h:a.den=b.den):mkRat (a.num+b.num) a.den=a+b:=by
 rw[Rat.add_def',←h,←Int.add_mul,Rat.mkRat_mul_right a.den_nz]
theorem LS (ok:jq M) (a b:Rat) (h:qW a+qW b+1≤M):af Tryz.prog 80 [.frac a,.frac b] [] (.frac (a+b)) [] []:=by
 have ha:=dz a;have ha':=dq a;have hb:=dz b;have fV:=dq b
 have hbp:=um b.den b.den_nz
 have hap:=um a.den a.den_nz
 have wa:=rU a
 have wb:=rU b
 have k1:=xH ok a.num b.num aa aa
 have k2:=vj ok a aa
 have k3:=vj ok b aa
 refine cj [] Tryz.func80 ?_
 intro W0 w0 ρ0 hE
 conv=>whnf
 by_cases hw:a.den=1∧b.den=1
 ·have k5:=BT (a.num+b.num)
  have e:((a.num+b.num:Int):Rat)=a+b:=by
   rw[nG hw.1,nG hw.2,Rat.intCast_add];rfl
  rw[e]at k5
  rw[decide_eq_true hw.1]at wa
  rw[decide_eq_true hw.2]at wb
  (repeat(first|(refine ah rfl rfl ?_;conv=>whnf)|(refine a8 (by assumption) ?_;conv=>whnf)|(refine aC iT ?_;conv=>whnf)));exact aq.refl _
 ·by_cases h1:a.den=1
  ·rw[decide_eq_true h1]at wa
   rw[decide_eq_false (show ¬b.den=1 from fun h2=>hw ⟨h1,h2⟩)]at wb
   (repeat((first|refine ah rfl rfl ?_|refine ag rfl rfl ?_|refine a8 (by assumption) ?_|refine aC iT ?_);conv=>whnf))
   refine⟨_,kK aM me rfl (ak rfl) (ak rfl) rfl rfl rfl rfl (oT (a.den - 1) (b.den - 1)) mF, ?_⟩
   rw[HB]
   by_cases hd:a.den=b.den
   ·rw[decide_eq_true hd]
    have k4:=kT ok (a.num+b.num) a.den (v8 (k:=M - 1) aa aa aa) aa a.den_nz
    rw[xU hd]at k4
    conv=>whnf
    (repeat(first|(refine ah rfl rfl ?_;conv=>whnf)|(refine aB aF ?_;conv=>whnf)|(refine a8 (by assumption) ?_;conv=>whnf)));exact aq.refl _
   ·rw[decide_eq_false hd]
    have p1:=fD a.num.natAbs b.den
    have p2:=fD b.num.natAbs a.den
    have p3:=fD a.den b.den
    have q1:sz (a.num*b.den).natAbs≤M - 1:=by rw[Int.natAbs_mul,Int.natAbs_natCast];omega
    have q2:sz (b.num*a.den).natAbs≤M - 1:=by rw[Int.natAbs_mul,Int.natAbs_natCast];omega
    have r1:=rV ok a aa
    have r2:=rV ok b aa
    have r3:=xJ ok a.num b.den Q24
    have r4:=xJ ok b.num a.den Q24
    have r5:=xH ok (a.num*b.den) (b.num*a.den) aa aa
    have r6:=ok.mul a.den b.den aa
    have r7:=kT ok (a.num*b.den+b.num*a.den) (a.den*b.den) (v8 (k:=M - 1) q1 q2 aa) aa (Nat.mul_ne_zero a.den_nz b.den_nz)
    rw[←Rat.add_def']at r7
    conv=>whnf
    (repeat(first|(refine ag rfl rfl ?_;conv=>whnf)|(refine aB aF ?_;conv=>whnf)|(refine a8 (by assumption) ?_;conv=>whnf)));exact aq.refl _
  ·rw[decide_eq_false h1]at wa
   (repeat(first|(refine ag rfl rfl ?_;conv=>whnf)|(refine a8 (by assumption) ?_;conv=>whnf)|(refine aC ik ?_;conv=>whnf)))
   refine⟨_,kK aM me rfl (ak rfl) (ak rfl) rfl rfl rfl rfl (oT (a.den - 1) (b.den - 1)) mF, ?_⟩
   rw[HB]
   by_cases hd:a.den=b.den
   ·rw[decide_eq_true hd]
    have k4:=kT ok (a.num+b.num) a.den (v8 (k:=M - 1) aa aa aa) aa a.den_nz
    rw[xU hd]at k4
    conv=>whnf
    (repeat(first|(refine ah rfl rfl ?_;conv=>whnf)|(refine aB aF ?_;conv=>whnf)|(refine a8 (by assumption) ?_;conv=>whnf)));exact aq.refl _
   ·rw[decide_eq_false hd]
    have p1:=fD a.num.natAbs b.den
    have p2:=fD b.num.natAbs a.den
    have p3:=fD a.den b.den
    have q1:sz (a.num*b.den).natAbs≤M - 1:=by rw[Int.natAbs_mul,Int.natAbs_natCast];omega
    have q2:sz (b.num*a.den).natAbs≤M - 1:=by rw[Int.natAbs_mul,Int.natAbs_natCast];omega
    have r1:=rV ok a aa
    have r2:=rV ok b aa
    have r3:=xJ ok a.num b.den Q24
    have r4:=xJ ok b.num a.den Q24
    have r5:=xH ok (a.num*b.den) (b.num*a.den) aa aa
    have r6:=ok.mul a.den b.den aa
    have r7:=kT ok (a.num*b.den+b.num*a.den) (a.den*b.den) (v8 (k:=M - 1) q1 q2 aa) aa (Nat.mul_ne_zero a.den_nz b.den_nz)
    rw[←Rat.add_def']at r7
    conv=>whnf
    (repeat(first|(refine ag rfl rfl ?_;conv=>whnf)|(refine aB aF ?_;conv=>whnf)|(refine a8 (by assumption) ?_;conv=>whnf)));exact aq.refl _
end Go.Proofs.YtfpagioknjjacaaGreatDoor
