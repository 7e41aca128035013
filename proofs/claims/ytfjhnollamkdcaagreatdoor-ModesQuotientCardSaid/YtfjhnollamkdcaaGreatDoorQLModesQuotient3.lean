/- The texts Ay. -/
import Derived.Test.YtfjhnollamkdcaaGreatDoorQLModesQuotient2
namespace Go.Proofs.YtfjhnollamkdcaaGreatDoor
open Go.Sx
set_option linter.unusedSimpArgs false
set_option linter.unusedVariables false
set_option maxRecDepth 100000
set_option maxHeartbeats 40000000
theorem form_qf {n:Nat} {a v:List Rat} (hv:v.length=n):mform n n a v v=qf n (el a n) fun i=>v.getD i 0:=form_sum hv
theorem form_fs {n A D:Nat} {a v:List Rat} (hn:n≤5) (ha:a.length=n*n) (hv:v.length=n) (sa:Sm A a) (sv:Sm D v):fs (mform n n a v v)≤2+5*(2+5*(2*D+A)):=by
 rw[form_qf hv]
 have h1:=sum_fs (f:=fun i=>sumR n fun k=>v.getD i 0*el a n i k*v.getD k 0) (B:=2+5*(2*D+A)) n fun i hi=>by
  have h2:=sum_fs (f:=fun k=>v.getD i 0*el a n i k*v.getD k 0) (B:=2*D+A) n fun k hk=>by
   have g1:=fs_mul (v.getD i 0*el a n i k) (v.getD k 0)
   have g2:=fs_mul (v.getD i 0) (el a n i k)
   have g3:=el_sm sa ha hi hk
   have g4:=sv i (by omega)
   have g5:=sv k (by omega)
   omega
  have h3:=Nat.mul_le_mul_right (2*D+A) hn
  exact Nat.le_trans h2 (by omega)
 have h3:=Nat.mul_le_mul_right (2+5*(2*D+A)) hn
 exact Nat.le_trans h1 (by omega)
section
variable {n B C D:Nat} {a m v:List Rat} (h:Pen n B C a m) (h2:2≤C) (hC:C≤80000) (hv:v.length=n) (sv:Sm D v) (hB:B≤80000) (hD:D≤10000000)
include h h2 hC hv sv hB hD
theorem Pen.forms:CallOK Tryz.prog 82 [mA n n a,fvec v,fvec v] [] (.tup [.frac (mform n n a v v),iv 0]) [] []∧CallOK Tryz.prog 82 [mA n n m,fvec v,fvec v] [] (.tup [.frac (mform n n m v v),iv 0]) [] []:=
 ⟨m_Form 5 h.ka hv hv h.za sv sv h.n5 h.n5 (by omega) (by omega),m_Form 5 h.km hv hv h.zm sv sv h.n5 h.n5 (by omega) (by omega)⟩
theorem Pen.quot (hne:∃i,i<n∧v.getD i 0≠0):CallOK Tryz.prog 28 [mA n n a,mA n n m,fvec v] [] (.tup [.frac (mform n n a v v/mform n n m v v),iv 0]) [] []:=by
 obtain⟨k1,k2⟩:=h.forms h2 hC hv sv hB hD
 refine m_QuotOK (h.ok h2 hC) k1 k2 (fun e=> ?_) ?_
 ·have:=h.pos _ hne
  rw[←form_qf hv,e]at this
  exact absurd this (by decide)
 ·have g1:=form_fs h.n5 h.oa hv h.za sv
  have g2:=form_fs h.n5 h.om hv h.zm sv
  omega
theorem Pen.quotZ (hz:∀i,i<n→v.getD i 0=0):CallOK Tryz.prog 28 [mA n n a,mA n n m,fvec v] [] (.tup [.frac 0,iv 5]) [] []:=by
 obtain⟨k1,k2⟩:=h.forms h2 hC hv sv hB hD
 rw[show mform n n m v v=0 from by rw[form_qf hv];exact qf_zero hz]at k2
 exact m_QuotZ (h.ok h2 hC) k1 k2
end
end Go.Proofs.YtfjhnollamkdcaaGreatDoor
