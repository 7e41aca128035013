/- The texts Nk, Nl, Qt, Qx. -/
import Derived.Test.YtbopchpncgdaaaaGreatDoorQLElimsInverse2
namespace Go.Proofs.YtbopchpncgdaaaaGreatDoor
open Go.Sx
set_option linter.unusedSimpArgs false
set_option linter.unusedVariables false
set_option maxRecDepth 100000
set_option maxHeartbeats 4000000
section
variable {r c:Nat} {w:Mx} {sp:List Nat} {M:Nat→List Rat}
end
theorem invL_right {n:Nat} {a b:List Rat} (h:mmul n n n b a=mone n):mmul n n n a b=mone n:=inv_iff.2 (left_right (inv_iff.1 h))
theorem invL_unique {n:Nat} {a b c:List Rat} (hb:b.length=n*n) (hc:c.length=n*n) (h1:mmul n n n b a=mone n) (h2:mmul n n n c a=mone n):b=c:=mat_ext hb hc (inv_unique (inv_iff.1 h1) (inv_iff.1 h2))
theorem invL_prod {n:Nat} {a b x y:List Rat} (h1:mmul n n n x a=mone n) (h2:mmul n n n y b=mone n):mmul n n n (mmul n n n y x) (mmul n n n a b)=mone n:=by
 refine inv_iff.2 fun i k hi hk=> ?_
 rw[←inv_prod (inv_iff.1 h1) (inv_iff.1 h2) i k hi hk]
 exact pr_congr (fun j hj=>mmul_el hi hj) (fun j hj=>mmul_el hj hk)
theorem turn_el {r c:Nat} {a:List Rat} {i k:Nat} (hi:i<c) (hk:k<r):el (mturn r c a) r i k=el a c k i:=mk_el hi hk
theorem invL_turn {n:Nat} {a x:List Rat} (h:mmul n n n x a=mone n):mmul n n n (mturn n n x) (mturn n n a)=mone n:=by
 refine inv_iff.2 fun i k hi hk=> ?_
 rw[←inv_turn (inv_iff.1 h) i k hi hk]
 exact pr_congr (fun j hj=>turn_el hi hj) (fun j hj=>turn_el hj hk)
theorem invL_det {n:Nat} {a x:List Rat} (h:mmul n n n x a=mone n):det n (el a n)*det n (el x n)=1:=by
 rw[Rat.mul_comm,←det_mul,det_congr (inv_iff.1 h),det_one]
theorem detL_mul {n:Nat} {a b:List Rat}:det n (el (mmul n n n a b) n)=det n (el a n)*det n (el b n):=by
 rw[←det_mul];exact det_congr fun i k hi hk=>mmul_el hi hk
theorem detL_turn {n:Nat} {a:List Rat}:det n (el (mturn n n a) n)=det n (el a n):=
 (det_congr (B:=tr (el a n)) fun _ _ hi hk=>turn_el hi hk).trans (det_turn n _)
theorem sol_invL {n:Nat} {a b x y:List Rat} (hx:x.length=n) (h:mmul n n n b a=mone n) (hs:∀i,i<n→sumR n (fun q=>el a n i q*x.getD q 0)=y.getD i 0):x=mapply n n b y:=
 vec_ext (n:=n) hx mapply_len fun i hi=>by rw[mapply_get hi];exact sol_inv (x:=fun q=>x.getD q 0) (y:=fun q=>y.getD q 0) (inv_iff.1 h) hs i hi
end Go.Proofs.YtbopchpncgdaaaaGreatDoor
namespace Go.Proofs.YtbopchpncgdaaaaGreatDoor
open Go.Sx
set_option linter.unusedSimpArgs false
set_option linter.unusedVariables false
set_option maxRecDepth 100000
set_option maxHeartbeats 4000000
theorem pivL_rnk (r c:Nat) (a:List Rat):(pivL r c a).length=rnk r c (el a c):=rfl
theorem KL_len (r c:Nat) (a:List Rat):(KL r c a).length=(freeF (pivL r c a) c).length:=List.length_map _
theorem KL_cnt (r c:Nat) (a:List Rat):(KL r c a).length+(pivL r c a).length=c:=by rw[KL_len];exact(RW_re r c a).free
section
variable {r c:Nat} {a:List Rat} {i k:Nat}
end
section
variable {r c:Nat} {W:Mx} {s:St} {a b:List Rat} (hi:Inv r W c s) (hW:∀i q,i<r→q<c→W i q=el a c i q) (hb:∀i,i<r→W i c=b.getD i 0)
include hi hW hb
theorem sol_iff:(∀i,s.piv.length≤i→i<r→s.w i c=0)↔∃x,Sol r c a b x:=by
 constructor
 ·intro hz
  refine⟨xsol s.w s.piv c,fun i h=> ?_⟩
  have:=xsol_ok hi hz i h
  rw[hb i h]at this
  rw[←this]
  exact sum_congr c fun q hq=>by rw[hW i q h hq]
 ·rintro⟨x,hx⟩
  exact sol_cons hi (x:=x) fun i h=>by rw[hb i h,←hx i h];exact sum_congr c fun q hq=>by rw[hW i q h hq]
theorem sol_x (hz:∀i,s.piv.length≤i→i<r→s.w i c=0) {x:Nat→Rat} (hx:∀q,q<c→x q=xsol s.w s.piv c q):Sol r c a b x∧∀q,q<c→q∉pivL r c a→x q=0:=by
 constructor
 ·intro i h
  have:=xsol_ok hi hz i h
  rw[hb i h]at this
  rw[←this]
  exact sum_congr c fun q hq=>by rw[hW i q h hq,hx q hq]
 ·intro q hq hn
  rw[hx q hq]
  rw[←(hi.pivL hW).1]at hn
  exact xsol_free hn
end
theorem xsol_val {r c:Nat} {w:Mx} {sp:List Nat} (h:RE r c w sp) (q:Nat):xsol w sp c q=0∨∃j,j<r∧xsol w sp c q=w j c:=by
 by_cases hm:q∈sp
 ·obtain⟨j,hj,rfl⟩:=mem_getDN.1 hm
  refine .inr ⟨j,by have:=h.len;omega, ?_⟩
  unfold xsol
  rw[sum_one (j:=j) _ hj fun i hi hne=>by rw[delta,if_neg fun g=>hne (piv_inj h hi hj g.symm)];grind,delta,if_pos rfl];grind
 ·exact .inl (xsol_free hm)
end Go.Proofs.YtbopchpncgdaaaaGreatDoor
namespace Go.Proofs.YtbopchpncgdaaaaGreatDoor
open Go.Sx
set_option linter.unusedSimpArgs false
set_option linter.unusedVariables false
set_option maxRecDepth 100000
set_option maxHeartbeats 40000000
theorem augB_c {c i:Nat} {a b:List Rat}:augB c a b i c=b.getD i 0:=aug_ge (k:=0)
section
variable {r c A:Nat} {a:List Rat} (ha:OKM r c a) (hr:r≤6) (hc:c≤40) (sa:Sm A a) (h2:2≤A) (hA:4096*A≤4398046511104)
include ha hr sa h2
omit sa h2
include hc sa h2 hA
theorem e_RankS:CallOK Tryz.prog 16 [mA r c a] [] (.tup [iv (pivL r c a).length,iv 0]) [] []:=by
 have k:=e_Rank ha hr hc sa h2 hA rfl
 rwa [((redS_Inv r c (aug0 c a)).pivL aug_lt).1]at k
section
variable {b:List Rat} (hb:b.length=r) (sb:Sm A b)
include hb sb
theorem e_SolveS (hx:∃x,Sol r c a b x):∃X:List Rat,X.length=c∧Sm (4096*A) X∧Sol r c a b (fun q=>X.getD q 0)∧(∀q,q<c→q∉pivL r c a→X.getD q 0=0)∧
  CallOK Tryz.prog 18 [mA r c a,fvec b] [] (.tup [.agg [fvec X,mvec 1 fvec (KL r c a)],iv 0]) [] []:=by
 have hi:=redS_Inv r c (augB c a b)
 have hbc:∀i,i<r→augB c a b i c=b.getD i 0:=fun i _=>augB_c
 have hz:=(sol_iff hi aug_lt hbc).2 hx
 have k:=e_SolveOK ha hb hr hc sa sb h2 hA rfl hz
 have hg:=fun q hq=>xS_get (M:=rowsM (c+1) (redS r c (augB c a b)).w) hi.re (fun j _=>rwL_get (Nat.lt_succ_self c)) _ (Nat.le_refl _) q hq
 obtain⟨h3,h4⟩:=sol_x hi aug_lt hbc hz (x:=fun q=>(xS (rowsM (c+1) (redS r c (augB c a b)).w) (redS r c (augB c a b)).piv c c (redS r c (augB c a b)).piv.length).getD q 0) hg
 have hsz:=(redS_siz (r:=r) (m:=c) (augB_bd ha sa hb sb) h2 hr (Nat.le_succ c)).1
 refine⟨_,xS_len _ _ _ _ _, ?_,h3,h4, ?_⟩
 ·intro q hq
  rw[xS_len]at hq
  have e:=hg q hq
  rw[e]
  rcases xsol_val hi.re q with h|⟨j,hj,h⟩
  ·rw[show sumR _ _=(0:Rat)from h,fs_zero];omega
  ·rw[show sumR _ _=(redS r c (augB c a b)).w j c from h];exact hsz j c hj (Nat.lt_succ_self c)
 ·rwa [KL_eq hi aug_lt fun j _ k hk=>rwL_get (by omega)]at k
end
end
end Go.Proofs.YtbopchpncgdaaaaGreatDoor
namespace Go.Proofs.YtbopchpncgdaaaaGreatDoor
open Go.Sx
set_option linter.unusedSimpArgs false
set_option linter.unusedVariables false
set_option maxRecDepth 100000
set_option maxHeartbeats 40000000
theorem c_few14L (ms:List MM) (h:ms.length<1000) (hl:∀m∈ms,mOK m):CallOK Tryz.prog 23 [mvec 3 mQ ms] [] (.val (.bool (ms.all fun m=>decide (m.2.2.length≤40)))) [] []:=c_few14 ms h fun m hm=>(hl m hm).2.2.1
end Go.Proofs.YtbopchpncgdaaaaGreatDoor
