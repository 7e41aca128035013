/- The texts Nk, Nl, Qt. -/
import Derived.Test.YtbopchpncgdaaaaGreatDoorQsA13
namespace Go.Proofs.YtbopchpncgdaaaaGreatDoor
open Go.Sx
set_option linter.unusedSimpArgs false
set_option linter.unusedVariables false
set_option maxRecDepth 100000
set_option maxHeartbeats 4000000
theorem Inv.rnk {r c:Nat} {W:Mx} {s:St} (h:Inv r W c s):s.piv.length=rnk r c W:=
 congrArg List.length (RE.unique h.re (Inv.red (r:=r) (W:=W) c).re fun x=>(h.ker x).trans ((Inv.red (r:=r) (W:=W) c).ker x).symm).1
theorem Inv.full {n:Nat} {W:Mx} {s:St} (h:Inv n W n s):s.piv.length=n↔det n W≠0:=by rw[h.rnk];exact full_det n W
theorem apply_is {r c:Nat} {a v b:List Rat} (hb:b.length=r) (h:∀i,i<r→sumR c (fun q=>el a c i q*v.getD q 0)=b.getD i 0):mapply r c a v=b:=
 vec_ext (n:=r) mapply_len hb fun i hi=>by rw[mapply_get hi];exact h i hi
section
variable {r c:Nat} {w:Mx} {sp:List Nat} {M:Nat→List Rat}
end
theorem mmul_el {n:Nat} {a b:List Rat} {i k:Nat} (hi:i<n) (hk:k<n):el (mmul n n n a b) n i k=pr n (el a n) (el b n) i k:=mk_el hi hk
theorem mone_el {n i k:Nat} (hi:i<n) (hk:k<n):el (mone n) n i k=delta i k:=mk_el hi hk
theorem inv_iff {n:Nat} {a b:List Rat}:mmul n n n b a=mone n↔∀i k,i<n→k<n→pr n (el b n) (el a n) i k=delta i k:=by
 constructor
 ·intro h i k hi hk;rw[←mmul_el hi hk,h,mone_el hi hk]
 ·exact fun h=>mk_congr h
def invL (n:Nat) (s:St):List Rat:=mk n n fun i k=>s.w i (n+k)
theorem invL_left {n:Nat} {a:List Rat} {W:Mx} {s:St} (hi:Inv n W n s) (hp:s.piv.length=n) (hI:∀i k,i<n→k<n→W i (n+k)=delta i k) (hA:∀i q,i<n→q<n→W i q=el a n i q):mmul n n n (invL n s) a=mone n:=by
 refine inv_iff.2 fun i k hi' hk=> ?_
 rw[←inv_left hi hp hI i k hi' hk]
 exact sum_congr n fun j hj=>by rw[show el (invL n s) n i j=s.w i (n+j)from mk_el hi' hj,hA j k hj hk]
end Go.Proofs.YtbopchpncgdaaaaGreatDoor
namespace Go.Proofs.YtbopchpncgdaaaaGreatDoor
open Go.Sx
set_option linter.unusedSimpArgs false
set_option linter.unusedVariables false
set_option maxRecDepth 100000
set_option maxHeartbeats 4000000
def pivL (r c:Nat) (a:List Rat):List Nat:=(redF r c ⟨el a c,[],1⟩).piv
def RW (r c:Nat) (a:List Rat):Mx:=(redF r c ⟨el a c,[],1⟩).w
theorem RW_re (r c:Nat) (a:List Rat):RE r c (RW r c a) (pivL r c a):=(Inv.red (r:=r) (W:=el a c) c).re
theorem RW_ker (r c:Nat) (a:List Rat) (x:Nat→Rat):Ker r c (RW r c a) x↔Ker r c (el a c) x:=(Inv.red (r:=r) (W:=el a c) c).ker x
theorem Inv.pivL {r c:Nat} {W:Mx} {s:St} {a:List Rat} (h:Inv r W c s) (hW:∀i q,i<r→q<c→W i q=el a c i q):s.piv=pivL r c a∧∀i q,i<r→q<c→s.w i q=RW r c a i q:=
 RE.unique h.re (RW_re r c a) fun x=>(h.ker x).trans ((ker_congr hW x).trans (RW_ker r c a x).symm)
section
variable {r c:Nat} {a:List Rat} {i k:Nat}
end
def Sol (r c:Nat) (a b:List Rat) (x:Nat→Rat):Prop:=∀i,i<r→sumR c (fun q=>el a c i q*x q)=b.getD i 0
theorem Sol.ext {r c:Nat} {a b:List Rat} {x y:Nat→Rat} (h:Sol r c a b x) (he:∀q,q<c→x q=y q):Sol r c a b y:=fun i hi=>by rw[←h i hi];exact sum_congr c fun q hq=>by rw[he q hq]
theorem Sol.app {r c:Nat} {a b v:List Rat} (hb:b.length=r) (h:Sol r c a b fun q=>v.getD q 0):mapply r c a v=b:=apply_is hb h
theorem Sol.of {r c:Nat} {a v:List Rat}:Sol r c a (mapply r c a v) fun q=>v.getD q 0:=fun i hi=>by rw[mapply_get hi]
theorem Sol.add {r c:Nat} {a b:List Rat} {x y:Nat→Rat} (t:Rat) (h:Sol r c a b x) (hk:Ker r c (el a c) y):Sol r c a b fun q=>t*y q+x q:=by
 intro i hi
 have e:sumR c (fun q=>el a c i q*(t*y q+x q))=t*sumR c (fun q=>el a c i q*y q)+sumR c (fun q=>el a c i q*x q):=by
  rw[←sum_smul,←sum_add];exact sum_congr c fun q _=>by grind
 rw[e,h i hi,hk i hi];grind
theorem Sol.sub {r c:Nat} {a b:List Rat} {x y:Nat→Rat} (h:Sol r c a b x) (h':Sol r c a b y):Ker r c (el a c) fun q=>x q - y q:=by
 intro i hi
 have e:sumR c (fun q=>el a c i q*(x q - y q))=sumR c (fun q=>el a c i q*x q)+(-1)*sumR c (fun q=>el a c i q*y q):=by
  rw[←sum_smul,←sum_add];exact sum_congr c fun q _=>by grind
 rw[e,h i hi,h' i hi];grind
theorem Sol.eq {r c:Nat} {a b:List Rat} {x y:Nat→Rat} (h:Sol r c a b x) (h':Sol r c a b y) (hf:∀q,q<c→q∉pivL r c a→x q=y q):∀q,q<c→x q=y q:=by
 intro q hq
 have:=ker_free (RW_re r c a) ((RW_ker r c a _).2 (h.sub h')) (fun q hq hn=>by rw[hf q hq hn];grind) q hq
 grind
section
variable {r c:Nat} {W:Mx} {s:St} {a b:List Rat} (hi:Inv r W c s) (hW:∀i q,i<r→q<c→W i q=el a c i q) (hb:∀i,i<r→W i c=b.getD i 0)
include hi hW hb
end
end Go.Proofs.YtbopchpncgdaaaaGreatDoor
namespace Go.Proofs.YtbopchpncgdaaaaGreatDoor
open Go.Sx
set_option linter.unusedSimpArgs false
set_option linter.unusedVariables false
set_option maxRecDepth 100000
set_option maxHeartbeats 40000000
theorem Inv.agree {r c:Nat} {W:Mx} {s t:St} (h:Inv r W c t) (ha:Agree r s t):Inv r W c s:=by
 obtain⟨sw,sp,sd⟩:=s
 obtain⟨tw,tp,td⟩:=t
 obtain⟨rfl,rfl,hw,hl⟩:=ha
 simp only at hw hl
 obtain⟨P,hP,hP2⟩:=h.by_
 exact⟨h.len,h.lt,h.inc,fun j hj i hi=>by show sw i _=_;rw[hw i hi];exact h.unit j hj i hi,fun i hi q hq=>by show sw i q=0;rw[hw i (Nat.lt_of_lt_of_le hi h.len)];exact h.left i hi q hq,
  fun i h1 h2 q hq=>by show sw i q=0;rw[hw i h2];exact h.low i h1 h2 q hq,P,hP,fun i hi q=>by show sw i q=_;rw[hw i hi];exact hP2 i hi q⟩
theorem redS_Inv (r c:Nat) (W:Mx):Inv r W c (redS r c W):=(Inv.red (r:=r) (W:=W) c).agree (red_agree r W c)
theorem step_siz {r c A k:Nat} {s:St} (h:Siz r c A s) (hl:s.piv.length≤r) (hk:k<c):Siz r c A (colStep2 r s k):=by
 obtain⟨sw,sp,sd⟩:=s
 replace hl:sp.length≤r:=hl
 unfold colStep2
 simp only
 cases hq:pickF sw k (r - sp.length) sp.length with
 |none=>exact h
 |some i=>have hs:=pick_some hq;exact h.step hk (by omega) (by omega)
theorem red_siz {r c A:Nat} {W:Mx} (hA:∀i q,i<r→q<c→fs (W i q)≤A) (h2:2≤A):∀m,m≤c→Siz r c A (redS r m W)
 |0,_=>⟨fun i q hi hq=>by show fs (W i q)≤4^0*A;rw[Nat.pow_zero,Nat.one_mul];exact hA i q hi hq,by show fs 1≤4^0*A;rw[Nat.pow_zero,Nat.one_mul,fs_one];exact h2⟩
 |m+1,hm=>by
  show Siz r c A (red2F r (m+1) ⟨W,[],1⟩)
  rw[red2F_succ]
  exact step_siz (red_siz hA h2 m (by omega)) (red_agree r W m).le hm
theorem pow_le6 {p r:Nat} (A:Nat) (h:p≤r) (hr:r≤6):4^p*A≤4096*A:=Nat.mul_le_mul_right A (Nat.pow_le_pow_right (n:=4) (by decide) (show p≤6 by omega))
theorem redS_siz {r m c A:Nat} {W:Mx} (hA:∀i q,i<r→q<c→fs (W i q)≤A) (h2:2≤A) (hr:r≤6) (hm:m≤c):(∀i q,i<r→q<c→fs ((redS r m W).w i q)≤4096*A)∧fs (redS r m W).d≤4096*A:=by
 have h:=red_siz hA h2 m hm
 have hl:=pow_le6 A (red_agree r W m).le hr
 exact⟨fun i q hi hq=>Nat.le_trans (h.w i q hi hq) hl,Nat.le_trans h.d hl⟩
theorem aug_lt {r c:Nat} {a:List Rat} {b:Mx}:∀i q,i<r→q<c→augW a c b i q=el a c i q:=fun i q _ hq=>by unfold augW;rw[if_pos hq]
theorem aug_ge {c i k:Nat} {a:List Rat} {b:Mx}:augW a c b i (c+k)=b i k:=by unfold augW;rw[if_neg (by omega),Nat.add_sub_cancel_left]
section
variable {r c A:Nat} {a:List Rat} (ha:OKM r c a) (hr:r≤6) (hc:c≤40) (sa:Sm A a) (h2:2≤A) (hA:4096*A≤4398046511104)
include ha hr sa h2
omit sa h2
include hc sa h2 hA
section
variable {b:List Rat} (hb:b.length=r) (sb:Sm A b)
include hb sb
end
end
end Go.Proofs.YtbopchpncgdaaaaGreatDoor
