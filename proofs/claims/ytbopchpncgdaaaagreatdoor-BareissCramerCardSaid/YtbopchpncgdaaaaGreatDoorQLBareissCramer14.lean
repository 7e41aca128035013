/- The texts Nk, Nl, Qt, Nn. -/
import Derived.Test.YtbopchpncgdaaaaGreatDoorQLBareissCramer13
namespace Go.Proofs.YtbopchpncgdaaaaGreatDoor
open Go.Sx
set_option linter.unusedSimpArgs false
set_option linter.unusedVariables false
set_option maxRecDepth 100000
set_option maxHeartbeats 4000000
section
variable {r c:Nat} {w:Mx} {sp:List Nat} {M:Nat→List Rat}
end
theorem invL_right {n:Nat} {a b:List Rat} (h:mmul n n n b a=mone n):mmul n n n a b=mone n:=inv_iff.2 (left_right (inv_iff.1 h))
end Go.Proofs.YtbopchpncgdaaaaGreatDoor
namespace Go.Proofs.YtbopchpncgdaaaaGreatDoor
open Go.Sx
set_option linter.unusedSimpArgs false
set_option linter.unusedVariables false
set_option maxRecDepth 100000
set_option maxHeartbeats 4000000
def rwM (r c:Nat) (a:List Rat) (i:Nat):List Rat:=(List.range c).map (RW r c a i)
theorem rwM_get {r c:Nat} {a:List Rat} {i k:Nat} (hk:k<c):(rwM r c a i).getD k 0=RW r c a i k:=by simp[rwM,List.getD_eq_getElem?_getD,hk]
def KL (r c:Nat) (a:List Rat):List (List Rat):=(freeF (pivL r c a) c).map (kvL (rwM r c a) (pivL r c a) c)
theorem kvS_congr {M N:Nat→List Rat} {sp:List Nat} {m k:Nat}:∀i,(∀j,j<i→(M j).getD k 0=(N j).getD k 0)→kvS M sp m k i=kvS N sp m k i
 |0,_=>rfl
 |i+1,h=>by rw[kvS,kvS,kvS_congr i fun j hj=>h j (by omega),h i (by omega)]
theorem KL_eq {r c:Nat} {W:Mx} {s:St} {a:List Rat} {M:Nat→List Rat} (h:Inv r W c s) (hW:∀i q,i<r→q<c→W i q=el a c i q) (hM:∀j,j<r→∀k,k<c→(M j).getD k 0=s.w j k):(freeF s.piv c).map (kvL M s.piv c)=KL r c a:=by
 obtain⟨h1,h2⟩:=h.pivL hW
 have hl:=h.len
 rw[h1]at hl ⊢
 refine List.map_congr_left fun k hk=> ?_
 obtain⟨hk,_⟩:=mem_free.1 hk
 exact kvS_congr _ fun j hj=>by rw[hM j (by omega) k hk,h2 j k (by omega) hk,rwM_get hk]
theorem KL_len (r c:Nat) (a:List Rat):(KL r c a).length=(freeF (pivL r c a) c).length:=List.length_map _
theorem KL_cnt (r c:Nat) (a:List Rat):(KL r c a).length+(pivL r c a).length=c:=by rw[KL_len];exact(RW_re r c a).free
section
variable {r c:Nat} {a:List Rat} {i k:Nat}
end
section
variable {r c:Nat} {W:Mx} {s:St} {a b:List Rat} (hi:Inv r W c s) (hW:∀i q,i<r→q<c→W i q=el a c i q) (hb:∀i,i<r→W i c=b.getD i 0)
include hi hW hb
theorem sol_iff:(∀i,s.piv.length≤i→i<r→s.w i c=0)↔∃x,Sol r c a b x:=by
 constructor
 ·intro hz
  refine⟨xsol s.w s.piv c,fun i h=> ?_⟩
  have:=xsol_ok hi hz i h
  rw[hb i h]at this
  rw[←this]
  exact sum_congr c fun q hq=>by rw[hW i q h hq]
 ·rintro⟨x,hx⟩
  exact sol_cons hi (x:=x) fun i h=>by rw[hb i h,←hx i h];exact sum_congr c fun q hq=>by rw[hW i q h hq]
theorem sol_x (hz:∀i,s.piv.length≤i→i<r→s.w i c=0) {x:Nat→Rat} (hx:∀q,q<c→x q=xsol s.w s.piv c q):Sol r c a b x∧∀q,q<c→q∉pivL r c a→x q=0:=by
 constructor
 ·intro i h
  have:=xsol_ok hi hz i h
  rw[hb i h]at this
  rw[←this]
  exact sum_congr c fun q hq=>by rw[hW i q h hq,hx q hq]
 ·intro q hq hn
  rw[hx q hq]
  rw[←(hi.pivL hW).1]at hn
  exact xsol_free hn
theorem sol_first (hno:¬∃x,Sol r c a b x):∃j,s.piv.length≤j∧j<r∧s.w j c≠0∧∀i,s.piv.length≤i→i<j→s.w i c=0:=by
 have h0:¬∀i,s.piv.length≤i→i<r→s.w i c=0:=fun h=>hno ((sol_iff hi hW hb).1 h)
 have h1:∃j,s.piv.length≤j∧j<r∧s.w j c≠0:=Classical.byContradiction fun hn=>h0 fun i h2 h3=>Classical.byContradiction fun h4=>hn ⟨i,h2,h3,h4⟩
 clear h0 hno
 obtain⟨j,h⟩:=h1
 induction j using Nat.strongRecOn with
 |ind j ih=>
  by_cases hq:∃i,s.piv.length≤i∧i<j∧s.w i c≠0
  ·obtain⟨i,h2,h3,h4⟩:=hq
   exact ih i h3 ⟨h2,by omega,h4⟩
  ·exact⟨j,h.1,h.2.1,h.2.2,fun i h2 h3=>Classical.byContradiction fun h4=>hq ⟨i,h2,h3,h4⟩⟩
end
theorem xsol_val {r c:Nat} {w:Mx} {sp:List Nat} (h:RE r c w sp) (q:Nat):xsol w sp c q=0∨∃j,j<r∧xsol w sp c q=w j c:=by
 by_cases hm:q∈sp
 ·obtain⟨j,hj,rfl⟩:=mem_getDN.1 hm
  refine .inr ⟨j,by have:=h.len;omega, ?_⟩
  unfold xsol
  rw[sum_one (j:=j) _ hj fun i hi hne=>by rw[delta,if_neg fun g=>hne (piv_inj h hi hj g.symm)];grind,delta,if_pos rfl];grind
 ·exact .inl (xsol_free hm)
end Go.Proofs.YtbopchpncgdaaaaGreatDoor
namespace Go.Proofs.YtbopchpncgdaaaaGreatDoor
open Go.Sx
set_option linter.unusedSimpArgs false
set_option linter.unusedVariables false
set_option maxRecDepth 100000
set_option maxHeartbeats 40000000
theorem augB_c {c i:Nat} {a b:List Rat}:augB c a b i c=b.getD i 0:=aug_ge (k:=0)
section
variable {r c A:Nat} {a:List Rat} (ha:OKM r c a) (hr:r≤6) (hc:c≤40) (sa:Sm A a) (h2:2≤A) (hA:4096*A≤4398046511104)
include ha hr sa h2
omit sa h2
include hc sa h2 hA
section
variable {b:List Rat} (hb:b.length=r) (sb:Sm A b)
include hb sb
theorem e_SolveS (hx:∃x,Sol r c a b x):∃X:List Rat,X.length=c∧Sm (4096*A) X∧Sol r c a b (fun q=>X.getD q 0)∧(∀q,q<c→q∉pivL r c a→X.getD q 0=0)∧
  CallOK Tryz.prog 18 [mA r c a,fvec b] [] (.tup [.agg [fvec X,mvec 1 fvec (KL r c a)],iv 0]) [] []:=by
 have hi:=redS_Inv r c (augB c a b)
 have hbc:∀i,i<r→augB c a b i c=b.getD i 0:=fun i _=>augB_c
 have hz:=(sol_iff hi aug_lt hbc).2 hx
 have k:=e_SolveOK ha hb hr hc sa sb h2 hA rfl hz
 have hg:=fun q hq=>xS_get (M:=rowsM (c+1) (redS r c (augB c a b)).w) hi.re (fun j _=>rwL_get (Nat.lt_succ_self c)) _ (Nat.le_refl _) q hq
 obtain⟨h3,h4⟩:=sol_x hi aug_lt hbc hz (x:=fun q=>(xS (rowsM (c+1) (redS r c (augB c a b)).w) (redS r c (augB c a b)).piv c c (redS r c (augB c a b)).piv.length).getD q 0) hg
 have hsz:=(redS_siz (r:=r) (m:=c) (augB_bd ha sa hb sb) h2 hr (Nat.le_succ c)).1
 refine⟨_,xS_len _ _ _ _ _, ?_,h3,h4, ?_⟩
 ·intro q hq
  rw[xS_len]at hq
  have e:=hg q hq
  rw[e]
  rcases xsol_val hi.re q with h|⟨j,hj,h⟩
  ·rw[show sumR _ _=(0:Rat)from h,fs_zero];omega
  ·rw[show sumR _ _=(redS r c (augB c a b)).w j c from h];exact hsz j c hj (Nat.lt_succ_self c)
 ·rwa [KL_eq hi aug_lt fun j _ k hk=>rwL_get (by omega)]at k
theorem e_SolveN (hx:¬∃x,Sol r c a b x):CallOK Tryz.prog 18 [mA r c a,fvec b] [] (.tup [.agg [fvec [],mvec 1 fvec []],iv 6]) [] []:=by
 obtain⟨j,h1,h3,h4,h5⟩:=sol_first (redS_Inv r c (augB c a b)) aug_lt (fun i _=>augB_c) hx
 exact e_SolveNo ha hb hr hc sa sb h2 hA rfl h1 h3 h4 h5
end
end
end Go.Proofs.YtbopchpncgdaaaaGreatDoor
namespace Go.Proofs.YtbopchpncgdaaaaGreatDoor
open Go.Sx
set_option linter.unusedSimpArgs false
set_option linter.unusedVariables false
set_option maxRecDepth 100000
set_option maxHeartbeats 4000000
theorem sol_ex {n:Nat} {a b v:List Rat} (hv:v.length=n) (h:mmul n n n a b=mone n):Sol n n a v fun q=>(mapply n n b v).getD q 0:=by
 intro i hi
 have e:mapply n n a (mapply n n b v)=v:=by
  rw[←mul_applyM a b v,h]
  refine apply_is hv fun i hi=> ?_
  rw[sum_congr n (g:=fun q=>delta i q*v.getD q 0) fun q hq=>by rw[mone_el hi hq],sum_deltaL,if_pos hi]
 have:=congrArg (fun l:List Rat=>l.getD i 0) e
 simp only[mapply_get hi]at this
 exact this
theorem rank_full {n:Nat} {x:List Rat}:(pivL n n x).length=n↔det n (el x n)≠0:=full_det n _
theorem cramer {n:Nat} {A:Mx} {x y:Nat→Rat} {c:Nat} (hc:c<n) (h:∀i,i<n→sumR n (fun q=>A i q*x q)=y i):det n (setCol A c y)=x c*det n A:=by
 obtain⟨m,rfl⟩:∃m,n=m+1:=⟨n - 1,by omega⟩
 have h1:det (m+1) (setCol A c y)=sumR (m+1) fun i=>adj (m+1) A c i*y i:=by
  rw[laplaceC m _ hc]
  refine sum_congr _ fun i hi=> ?_
  have e:mnr (setCol A c y) i c=mnr A i c:=by
   funext p q
   unfold mnr setCol
   rw[if_neg (sk_ne c q)]
  rw[e,show setCol A c y i c=y i from if_pos rfl]
  unfold adj
  rw[Nat.add_comm c i,Nat.add_sub_cancel];grind
 rw[h1,sum_congr (m+1) (g:=fun i=>sumR (m+1) fun q=>adj (m+1) A c i*(A i q*x q)) fun i hi=>by rw[←h i hi,sum_mulL],sum_swap]
 have h2:∀q,q<m+1→sumR (m+1) (fun i=>adj (m+1) A c i*(A i q*x q))=(if c=q then det (m+1) A else 0)*x q:=fun q hq=>by
  rw[←adj_mul A hc hq,pr,sum_mulR]
  exact sum_congr _ fun i _=>by grind
 rw[sum_congr (m+1) h2,sum_one (j:=c) _ hc fun q _ hne=>by rw[if_neg (Ne.symm hne)];grind,if_pos rfl]
 grind
end Go.Proofs.YtbopchpncgdaaaaGreatDoor
