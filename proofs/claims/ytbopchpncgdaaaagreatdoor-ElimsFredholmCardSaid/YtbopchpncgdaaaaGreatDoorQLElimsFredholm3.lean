/- The texts Nk, Nl, Qt. -/
import Derived.Test.YtbopchpncgdaaaaGreatDoorQLElimsFredholm2
namespace Go.Proofs.YtbopchpncgdaaaaGreatDoor
open Go.Sx
set_option linter.unusedSimpArgs false
set_option linter.unusedVariables false
set_option maxRecDepth 100000
set_option maxHeartbeats 4000000
theorem ker_ext {r c:Nat} {w:Mx} {f g:Nat→Rat} (h:∀q,q<c→f q=g q):Ker r c w f↔Ker r c w g:=by
 unfold Ker
 constructor
 ·intro k i hi;rw[←k i hi];exact sum_congr c fun q hq=>by rw[h q hq]
 ·intro k i hi;rw[←k i hi];exact sum_congr c fun q hq=>by rw[h q hq]
theorem apply_zero {r c:Nat} {a v:List Rat} (h:Ker r c (el a c) fun q=>v.getD q 0):mapply r c a v=List.replicate r 0:=by
 refine vec_ext (n:=r) mapply_len (by simp) fun i hi=> ?_
 rw[mapply_get hi,get_zero hi];exact h i hi
theorem free_get {sp:List Nat} {c i:Nat} (hi:i<(freeF sp c).length):(freeF sp c).getD i 0<c∧(freeF sp c).getD i 0∉sp:=by
 rw[List.getD_eq_getElem?_getD,List.getElem?_eq_getElem hi]
 exact mem_free.1 (List.getElem_mem hi)
theorem kvL_len (M:Nat→List Rat) (sp:List Nat) (m k:Nat):(kvL M sp m k).length=m:=kvS_len M sp m k _
section
variable {r c:Nat} {w:Mx} {sp:List Nat} {M:Nat→List Rat}
theorem kvL_ker (h:RE r c w sp) (hM:∀j,j<sp.length→∀k,k<c→(M j).getD k 0=w j k) {k:Nat} (hk:k<c) (hn:k∉sp):Ker r c w fun q=>(kvL M sp c k).getD q 0:=
 (ker_ext fun q hq=>kvL_get h hk hn (Nat.le_refl c) (fun j hj=>hM j hj k hk) hq).2 (kv_ker h hk)
end
theorem turn_el {r c:Nat} {a:List Rat} {i k:Nat} (hi:i<c) (hk:k<r):el (mturn r c a) r i k=el a c k i:=mk_el hi hk
end Go.Proofs.YtbopchpncgdaaaaGreatDoor
namespace Go.Proofs.YtbopchpncgdaaaaGreatDoor
open Go.Sx
set_option linter.unusedSimpArgs false
set_option linter.unusedVariables false
set_option maxRecDepth 100000
set_option maxHeartbeats 4000000
theorem pivL_rnk (r c:Nat) (a:List Rat):(pivL r c a).length=rnk r c (el a c):=rfl
theorem KL_len (r c:Nat) (a:List Rat):(KL r c a).length=(freeF (pivL r c a) c).length:=List.length_map _
theorem KL_cnt (r c:Nat) (a:List Rat):(KL r c a).length+(pivL r c a).length=c:=by rw[KL_len];exact(RW_re r c a).free
section
variable {r c:Nat} {a:List Rat} {i k:Nat}
theorem KL_get (hi:i<(KL r c a).length):(KL r c a).getD i []=kvL (rwM r c a) (pivL r c a) c ((freeF (pivL r c a) c).getD i 0):=by
 rw[KL_len]at hi
 simp[KL,List.getD_eq_getElem?_getD,hi]
theorem KL_vlen (hi:i<(KL r c a).length):((KL r c a).getD i []).length=c:=by rw[KL_get hi];exact kvL_len ..
theorem KL_ker (hi:i<(KL r c a).length):Ker r c (el a c) fun q=>((KL r c a).getD i []).getD q 0:=by
 rw[KL_get hi]
 rw[KL_len]at hi
 obtain⟨h1,h2⟩:=free_get hi
 exact(RW_ker r c a _).1 (kvL_ker (RW_re r c a) (fun j _ k hk=>rwM_get hk) h1 h2)
theorem KL_val (hi:i<(KL r c a).length) {q:Nat} (hq:q<c):((KL r c a).getD i []).getD q 0=0∨((KL r c a).getD i []).getD q 0=1∨∃j k,j<r∧k<c∧((KL r c a).getD i []).getD q 0= - RW r c a j k:=by
 rw[KL_get hi]
 rw[KL_len]at hi
 obtain⟨h1,h2⟩:=free_get hi
 have h:=RW_re r c a
 rw[kvL_get h h1 h2 (Nat.le_refl c) (fun j _=>rwM_get h1) hq]
 by_cases hm:q∈pivL r c a
 ·obtain⟨j,hj,rfl⟩:=mem_getDN.1 hm
  exact .inr (.inr ⟨j,_,by have:=h.len;omega,h1,kv_piv h h2 hj⟩)
 ·by_cases e:q=(freeF (pivL r c a) c).getD i 0
  ·subst e;exact .inr (.inl (kv_self h h2))
  ·exact .inl (kv_other hm e)
end
section
variable {r c:Nat} {W:Mx} {s:St} {a b:List Rat} (hi:Inv r W c s) (hW:∀i q,i<r→q<c→W i q=el a c i q) (hb:∀i,i<r→W i c=b.getD i 0)
include hi hW hb
theorem sol_iff:(∀i,s.piv.length≤i→i<r→s.w i c=0)↔∃x,Sol r c a b x:=by
 constructor
 ·intro hz
  refine⟨xsol s.w s.piv c,fun i h=> ?_⟩
  have:=xsol_ok hi hz i h
  rw[hb i h]at this
  rw[←this]
  exact sum_congr c fun q hq=>by rw[hW i q h hq]
 ·rintro⟨x,hx⟩
  exact sol_cons hi (x:=x) fun i h=>by rw[hb i h,←hx i h];exact sum_congr c fun q hq=>by rw[hW i q h hq]
theorem sol_x (hz:∀i,s.piv.length≤i→i<r→s.w i c=0) {x:Nat→Rat} (hx:∀q,q<c→x q=xsol s.w s.piv c q):Sol r c a b x∧∀q,q<c→q∉pivL r c a→x q=0:=by
 constructor
 ·intro i h
  have:=xsol_ok hi hz i h
  rw[hb i h]at this
  rw[←this]
  exact sum_congr c fun q hq=>by rw[hW i q h hq,hx q hq]
 ·intro q hq hn
  rw[hx q hq]
  rw[←(hi.pivL hW).1]at hn
  exact xsol_free hn
theorem sol_first (hno:¬∃x,Sol r c a b x):∃j,s.piv.length≤j∧j<r∧s.w j c≠0∧∀i,s.piv.length≤i→i<j→s.w i c=0:=by
 have h0:¬∀i,s.piv.length≤i→i<r→s.w i c=0:=fun h=>hno ((sol_iff hi hW hb).1 h)
 have h1:∃j,s.piv.length≤j∧j<r∧s.w j c≠0:=Classical.byContradiction fun hn=>h0 fun i h2 h3=>Classical.byContradiction fun h4=>hn ⟨i,h2,h3,h4⟩
 clear h0 hno
 obtain⟨j,h⟩:=h1
 induction j using Nat.strongRecOn with
 |ind j ih=>
  by_cases hq:∃i,s.piv.length≤i∧i<j∧s.w i c≠0
  ·obtain⟨i,h2,h3,h4⟩:=hq
   exact ih i h3 ⟨h2,by omega,h4⟩
  ·exact⟨j,h.1,h.2.1,h.2.2,fun i h2 h3=>Classical.byContradiction fun h4=>hq ⟨i,h2,h3,h4⟩⟩
end
theorem xsol_val {r c:Nat} {w:Mx} {sp:List Nat} (h:RE r c w sp) (q:Nat):xsol w sp c q=0∨∃j,j<r∧xsol w sp c q=w j c:=by
 by_cases hm:q∈sp
 ·obtain⟨j,hj,rfl⟩:=mem_getDN.1 hm
  refine .inr ⟨j,by have:=h.len;omega, ?_⟩
  unfold xsol
  rw[sum_one (j:=j) _ hj fun i hi hne=>by rw[delta,if_neg fun g=>hne (piv_inj h hi hj g.symm)];grind,delta,if_pos rfl];grind
 ·exact .inl (xsol_free hm)
end Go.Proofs.YtbopchpncgdaaaaGreatDoor
namespace Go.Proofs.YtbopchpncgdaaaaGreatDoor
open Go.Sx
set_option linter.unusedSimpArgs false
set_option linter.unusedVariables false
set_option maxRecDepth 100000
set_option maxHeartbeats 40000000
theorem augB_c {c i:Nat} {a b:List Rat}:augB c a b i c=b.getD i 0:=aug_ge (k:=0)
section
variable {r c A:Nat} {a:List Rat} (ha:OKM r c a) (hr:r≤6) (hc:c≤40) (sa:Sm A a) (h2:2≤A) (hA:4096*A≤4398046511104)
include ha hr sa h2
theorem RW_siz:∀i q,i<r→q<c→fs (RW r c a i q)≤4096*A:=fun i q hi hq=>by
 have h:=(redS_siz (r:=r) (m:=c) (aug0_bd ha sa) h2 hr (Nat.le_refl c)).1 i q hi hq
 rwa [((redS_Inv r c (aug0 c a)).pivL aug_lt).2 i q hi hq]at h
theorem KL_sm {i:Nat} (hi:i<(KL r c a).length):Sm (4096*A) ((KL r c a).getD i []):=by
 intro q hq
 rw[KL_vlen hi]at hq
 rcases KL_val hi hq with h|h|⟨j,k,hj,hk,h⟩
 ·rw[h,fs_zero];omega
 ·rw[h,fs_one];omega
 ·rw[h,fs_neg];exact RW_siz ha hr sa h2 j k hj hk
omit sa h2
include hc sa h2 hA
section
variable {b:List Rat} (hb:b.length=r) (sb:Sm A b)
include hb sb
theorem e_SolveS (hx:∃x,Sol r c a b x):∃X:List Rat,X.length=c∧Sm (4096*A) X∧Sol r c a b (fun q=>X.getD q 0)∧(∀q,q<c→q∉pivL r c a→X.getD q 0=0)∧
  CallOK Tryz.prog 18 [mA r c a,fvec b] [] (.tup [.agg [fvec X,mvec 1 fvec (KL r c a)],iv 0]) [] []:=by
 have hi:=redS_Inv r c (augB c a b)
 have hbc:∀i,i<r→augB c a b i c=b.getD i 0:=fun i _=>augB_c
 have hz:=(sol_iff hi aug_lt hbc).2 hx
 have k:=e_SolveOK ha hb hr hc sa sb h2 hA rfl hz
 have hg:=fun q hq=>xS_get (M:=rowsM (c+1) (redS r c (augB c a b)).w) hi.re (fun j _=>rwL_get (Nat.lt_succ_self c)) _ (Nat.le_refl _) q hq
 obtain⟨h3,h4⟩:=sol_x hi aug_lt hbc hz (x:=fun q=>(xS (rowsM (c+1) (redS r c (augB c a b)).w) (redS r c (augB c a b)).piv c c (redS r c (augB c a b)).piv.length).getD q 0) hg
 have hsz:=(redS_siz (r:=r) (m:=c) (augB_bd ha sa hb sb) h2 hr (Nat.le_succ c)).1
 refine⟨_,xS_len _ _ _ _ _, ?_,h3,h4, ?_⟩
 ·intro q hq
  rw[xS_len]at hq
  have e:=hg q hq
  rw[e]
  rcases xsol_val hi.re q with h|⟨j,hj,h⟩
  ·rw[show sumR _ _=(0:Rat)from h,fs_zero];omega
  ·rw[show sumR _ _=(redS r c (augB c a b)).w j c from h];exact hsz j c hj (Nat.lt_succ_self c)
 ·rwa [KL_eq hi aug_lt fun j _ k hk=>rwL_get (by omega)]at k
theorem e_SolveN (hx:¬∃x,Sol r c a b x):CallOK Tryz.prog 18 [mA r c a,fvec b] [] (.tup [.agg [fvec [],mvec 1 fvec []],iv 6]) [] []:=by
 obtain⟨j,h1,h3,h4,h5⟩:=sol_first (redS_Inv r c (augB c a b)) aug_lt (fun i _=>augB_c) hx
 exact e_SolveNo ha hb hr hc sa sb h2 hA rfl h1 h3 h4 h5
end
end
end Go.Proofs.YtbopchpncgdaaaaGreatDoor
