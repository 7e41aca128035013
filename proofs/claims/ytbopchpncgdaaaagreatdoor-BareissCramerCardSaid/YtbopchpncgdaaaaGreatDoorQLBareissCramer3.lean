/- The texts Qn, Nh. -/
import Derived.Test.YtbopchpncgdaaaaGreatDoorQLBareissCramer2
namespace Go.Proofs.YtbopchpncgdaaaaGreatDoor
open Go.Sx
set_option linter.unusedSimpArgs false
set_option linter.unusedVariables false
set_option maxRecDepth 100000
set_option maxHeartbeats 40000000
theorem e_begunZ1 {c:Nat} (more:Nat) (a:List Rat) (g:FuncId) (p:Pred) (ha:OKM 0 c a):
  CallOK Tryz.prog 73 [mA (0:Nat) c a,iv more,.clo g [] [.atom p]] [] (.ptr 1001 0 0 0) [(1001,wzB c)] []:=by
 have k0:CallOK Tryz.prog 41 [iv 1] [] (.frac 1) [] []:=c_fInt 1 (by decide) (by decide)
 refine callID (Z:=[3]) tabOK mixedOK Tryz.func73 rfl (by kernel_rfl) (ShapeOKD.of rfl rfl rfl rfl rfl rfl rfl rfl rfl rfl rfl) rfl (NamesOK.id rfl) ?_
 intro W0 w0 ρ0 hE
 conv=>whnf
 (repeat((first|refine step_i (by kernel_rfl) ?_|refine g_c (by assumption) ?_|refine g_o (op_loadA rfl (ev_ok rfl) (tgt rfl) rfl (Nat.succ_ne_zero _) rfl) ?_|refine g_o (op_fieldA rfl (ev_ok rfl) (tgt rfl) rfl rfl (Nat.succ_ne_zero _) rfl) ?_);conv=>whnf))
 refine SW_loopN hE (fun k=>cond (Nat.beq k 15) 1001 k) [7,17,18] [15] (fun m' fr hp=>fr=[(7,.ptr 1001 0 0 0),(17,iv (0:Nat)),(18,iv (0:Nat))]∧hp=[(1001,wzB c)]) 0 ?_ ?_ ?_
 ·kernel_rfl
 ·exact⟨rfl,rfl⟩
 rintro m' _ _ ⟨rfl,rfl⟩
 conv=>whnf
 (repeat(first|(refine step_w2 rfl rfl ?_;conv=>whnf)))
 exact⟨Recast.refl _,get_cons rfl get_nil,get_nil⟩
end Go.Proofs.YtbopchpncgdaaaaGreatDoor
namespace Go.Proofs.YtbopchpncgdaaaaGreatDoor
open Go.Sx
set_option linter.unusedSimpArgs false
set_option linter.unusedVariables false
set_option maxRecDepth 100000
set_option maxHeartbeats 4000000
def kvS (M:Nat→List Rat) (sp:List Nat) (m k:Nat):Nat→List Rat
 |0=>(List.replicate m 0).set k 1
 |i+1=>(kvS M sp m k i).set (sp.getD i 0) (- (M i).getD k 0)
theorem kvS_len (M:Nat→List Rat) (sp:List Nat) (m k:Nat):∀i,(kvS M sp m k i).length=m
 |0=>by simp[kvS]
 |i+1=>by rw[kvS,List.length_set,kvS_len M sp m k i]
def kvL (M:Nat→List Rat) (sp:List Nat) (m:Nat) (k:Nat):List Rat:=kvS M sp m k sp.length
theorem mem_free {sp:List Nat} {k q:Nat}:q∈freeF sp k↔q<k∧q∉sp:=by simp[freeF]
theorem sum_last {c:Nat} {f g:Nat→Rat} (h:∀q,q<c→f q=g q):sumR (c+1) f=sumR c g+f c:=by rw[sumR,sum_congr c h]
def extV (x:Nat→Rat) (c q:Nat):Rat:=if q<c then x q else -1
theorem extV_lt {x:Nat→Rat} {c q:Nat} (h:q<c):extV x c q=x q:=if_pos h
theorem extV_c {x:Nat→Rat} {c:Nat}:extV x c c= -1:=if_neg (Nat.lt_irrefl c)
theorem sol_cons {r c:Nat} {W:Mx} {s:St} (hi:Inv r W c s) {x:Nat→Rat} (hx:∀i,i<r→sumR c (fun q=>W i q*x q)=W i c):∀i,s.piv.length≤i→i<r→s.w i c=0:=by
 have hk:Ker r (c+1) W (extV x c):=fun i hir=>by
  rw[sum_last (g:=fun q=>W i q*x q) fun q hq=>by rw[extV_lt hq],hx i hir,extV_c];grind
 have hs:=(hi.ker (c:=c+1) _).2 hk
 intro i h1 h2
 have:=hs i h2
 rw[sum_last (g:=fun q=>0) fun q hq=>by rw[hi.low i h1 h2 q hq];grind,extV_c,sum_zeros fun _ _=>rfl]at this
 grind
def xsol (w:Mx) (sp:List Nat) (c q:Nat):Rat:=sumR sp.length fun j=>delta q (sp.getD j 0)*w j c
theorem xsol_sum {r c:Nat} {w:Mx} {sp:List Nat} (h:RE r c w sp) {i:Nat} (hi:i<r):sumR c (fun q=>w i q*xsol w sp c q)=if i<sp.length then w i c else 0:=by
 rw[sum_congr c (g:=fun q=>sumR sp.length fun j=>w i q*delta q (sp.getD j 0)*w j c) fun q _=>by
  rw[xsol,sum_mulL];exact sum_congr _ fun j _=>by grind,sum_swap,sum_congr sp.length (g:=fun j=>delta i j*w j c) fun j hj=>by
  rw[←sum_mulR,sum_deltaR,if_pos (h.lt j hj),h.unit j hj i hi,delta],sum_deltaL]
theorem xsol_ok {r c:Nat} {W:Mx} {s:St} (hi:Inv r W c s) (hz:∀i,s.piv.length≤i→i<r→s.w i c=0):∀i,i<r→sumR c (fun q=>W i q*xsol s.w s.piv c q)=W i c:=by
 have hk:Ker r (c+1) s.w (extV (xsol s.w s.piv c) c):=fun i hir=>by
  rw[sum_last (g:=fun q=>s.w i q*xsol s.w s.piv c q) fun q hq=>by rw[extV_lt hq],xsol_sum hi.re hir,extV_c]
  by_cases g:i<s.piv.length
  ·rw[if_pos g];grind
  ·rw[if_neg g,hz i (by omega) hir];grind
 intro i hir
 have:=(hi.ker (c:=c+1) _).1 hk i hir
 rw[sum_last (g:=fun q=>W i q*xsol s.w s.piv c q) fun q hq=>by rw[extV_lt hq],extV_c]at this
 grind
theorem xsol_free {w:Mx} {sp:List Nat} {c q:Nat} (hq:q∉sp):xsol w sp c q=0:=sum_zeros fun j hj=>by
 rw[delta,if_neg fun e=>hq (mem_getDN.2 ⟨j,hj,e.symm⟩)];grind
theorem left_right {n:Nat} {A B:Mx} (h:∀i k,i<n→k<n→pr n B A i k=delta i k):∀i k,i<n→k<n→pr n A B i k=delta i k:=by
 have hd:det n B*det n A=1:=by rw[←det_mul,det_congr h,det_one]
 have hB:=det_ne hd
 intro i k hi hk
 have e1:pr n (adj n B) (pr n B (pr n A B)) i k=det n B*pr n A B i k:=by
  rw[←pr_assoc,pr,sum_congr n (g:=fun j=>det n B*(delta i j*pr n A B j k)) fun j hj=>by rw[adj_mul B hi hj,delta];split<;>grind,←sum_mulL,sum_deltaL,if_pos hi]
 have e2:pr n (adj n B) (pr n B (pr n A B)) i k=det n B*delta i k:=by
  rw[pr,sum_congr n (g:=fun j=>adj n B i j*B j k) fun j hj=>by
   rw[←pr_assoc,pr,sum_congr n (g:=fun m=>delta j m*B m k) fun m hm=>by rw[h j m hj hm],sum_deltaL,if_pos hj]]
  have:=adj_mul B hi hk
  unfold pr at this
  rw[this,delta];split<;>grind
 have e3:=e1.symm.trans e2
 have:det n B*(pr n A B i k - delta i k)=0:=by grind
 rcases Rat.mul_eq_zero.1 this with g|g
 ·exact absurd g hB
 ·grind
end Go.Proofs.YtbopchpncgdaaaaGreatDoor
