/- The texts Kw, Oc, Oe, Qr, Qt, Qu, Ag. -/
import Derived.Test.YtfjhnollamkdcaaGreatDoorQsA19
namespace Go.Proofs.YtfjhnollamkdcaaGreatDoor
open Go.Sx
set_option linter.unusedSimpArgs false
set_option linter.unusedVariables false
set_option maxRecDepth 100000
set_option maxHeartbeats 40000000
def plF (n:Nat) (p:Int):Int:=p % (n:Int)
def places (l:List Int) (n:Nat) (b:Bool):List Int:=(if b then(List.range n).map (fun i=>((i:Nat):Int))else[])++(if n=0 then[]else l.map (plF n))
end Go.Proofs.YtfjhnollamkdcaaGreatDoor
namespace Go.Sx
set_option linter.unusedSimpArgs false
set_option linter.unusedVariables false
end Go.Sx
namespace Go.Proofs.YtfjhnollamkdcaaGreatDoor
open Go.Sx
set_option linter.unusedSimpArgs false
set_option linter.unusedVariables false
set_option maxRecDepth 100000
set_option maxHeartbeats 4000000
def crZ (a:List Int) (c i k:Nat):Int:=elz a c 0 0*elz a c (i+1) (k+1) - elz a c (i+1) 0*elz a c 0 (k+1)
theorem crZ_zs {a:List Int} {r c i k B:Nat} (h:Zm B a) (ha:a.length=(r+1)*(c+1)) (hi:i<r) (hk:k<c):zs (crZ a (c+1) i k)≤4*B:=by
 have h1:=elz_zm h ha (i:=0) (k:=0) (by omega) (by omega)
 have h2:=elz_zm h ha (i:=i+1) (k:=k+1) (by omega) (by omega)
 have h3:=elz_zm h ha (i:=i+1) (k:=0) (by omega) (by omega)
 have h4:=elz_zm h ha (i:=0) (k:=k+1) (by omega) (by omega)
 have:=zs_sub (elz a (c+1) 0 0*elz a (c+1) (i+1) (k+1)) (elz a (c+1) (i+1) 0*elz a (c+1) 0 (k+1))
 have:=zs_mul (elz a (c+1) 0 0) (elz a (c+1) (i+1) (k+1))
 have:=zs_mul (elz a (c+1) (i+1) 0) (elz a (c+1) 0 (k+1))
 unfold crZ;omega
abbrev nxt (r c:Nat) (a:List Int) (b:Int):List Int:=mkz r c fun i k=>crZ a (c+1) i k/b
end Go.Proofs.YtfjhnollamkdcaaGreatDoor
namespace Go.Proofs.YtfjhnollamkdcaaGreatDoor
open Go.Sx
set_option linter.unusedSimpArgs false
set_option linter.unusedVariables false
set_option maxRecDepth 100000
set_option maxHeartbeats 4000000
structure StOK (n s B:Nat) (A0:Mz) (a:List Int) (b:Int) (w:Nat):Prop where
 le:s≤n
 ex:∃A:Mz,a=mkz (n - s) (n - s) (bmZ s A)∧b=detZ s A∧b≠0∧detZ n A0=sgZ w*detZ n A
 z:Zm (B*4^s) a
 zb:zs b≤B*4^s
 w:w≤s
theorem StOK.start {n B:Nat} {a:List Int} (ha:a.length=n*n) (hB:2≤B) (h:Zm B a):StOK n 0 B (elz a n) a 1 0 where
 le:=Nat.zero_le _
 ex:=⟨elz a n,by rw[←mkz_self ha,Nat.sub_zero];exact mkz_congr fun i k hi hk=>by rw[bmZ_zero,mkz_el hi hk],rfl,by decide,by rw[sgZ,Int.one_mul]⟩
 z:=by rw[Nat.pow_zero,Nat.mul_one];exact h
 zb:=by rw[zs_1];omega
 w:=Nat.le_refl _
theorem StOK.fin {n B:Nat} {A0:Mz} {a:List Int} {b:Int} {w:Nat} (h:StOK n n B A0 a b w):detZ n A0=if w % 2=1 then -b else b:=by
 obtain⟨A,_,rfl,_,e⟩:=h.ex
 rw[e,sgZ_mod]
 split<;>omega
theorem StOK.none {n s B:Nat} {A0:Mz} {a:List Int} {b:Int} {w:Nat} (h:StOK n s B A0 a b w) (hs:s<n) (h0:∀i,i<n - s→elz a (n - s) i 0=0):detZ n A0=0:=by
 obtain⟨A,rfl,rfl,hb,e⟩:=h.ex
 rw[e,bmZ_sing hb hs fun i hi=>by have:=h0 i (by omega);rwa [mkz_el (by omega) (by omega)]at this,Int.mul_zero]
theorem StOK.turn {n s B:Nat} {A0:Mz} {a:List Int} {b:Int} {w j:Nat} (h:StOK n s B A0 a b w) (hj:s+j<n):
  ∃w',w'=(if 0<j then w+1 else w)∧(∃A:Mz,mkz (n - s) (n - s) (swapZ (elz a (n - s)) 0 j)=mkz (n - s) (n - s) (bmZ s A)∧b=detZ s A∧b≠0∧detZ n A0=sgZ w'*detZ n A)∧Zm (B*4^s) (mkz (n - s) (n - s) (swapZ (elz a (n - s)) 0 j)):=by
 obtain⟨A,ha,hb,hb0,e⟩:=h.ex
 have hl:a.length=(n - s)*(n - s):=by rw[ha,mkz_len]
 refine⟨_,rfl,⟨swapZ A s (s+j), ?_, ?_,hb0, ?_⟩, ?_⟩
 ·refine mkz_congr fun p q hp hq=> ?_
  rw[bmZ_swap]
  have e2:∀p,p<n - s→elz a (n - s) p q=bmZ s A p q:=fun p hp=>by rw[ha,mkz_el hp hq]
  unfold swapZ
  by_cases h1:p=0
  ·rw[if_pos h1,if_pos h1,e2 j (by omega)]
  ·rw[if_neg h1,if_neg h1]
   by_cases h2:p=j
   ·rw[if_pos h2,if_pos h2,e2 0 (by omega)]
   ·rw[if_neg h2,if_neg h2,e2 p hp]
 ·rw[detZ_swap_lead,hb]
 ·by_cases g:0<j
  ·rw[if_pos g,detZ_swap A (by omega) hj (by omega),sgZ,e,Int.neg_mul_neg]
  ·rw[if_neg g,show s+j=s by omega,swapZ_self,e]
 ·refine Zm_mk fun p q hp hq=> ?_
  unfold swapZ
  split
  ·exact elz_zm h.z hl (by omega) hq
  ·split
   ·exact elz_zm h.z hl (by omega) hq
   ·exact elz_zm h.z hl hp hq
theorem StOK.next {n s B:Nat} {A0:Mz} {a:List Int} {b:Int} {w:Nat} (hs:s<n) (hw:w≤s+1) (hz:Zm (B*4^s) a) (hx:∃A:Mz,a=mkz (n - s) (n - s) (bmZ s A)∧b=detZ s A∧b≠0∧detZ n A0=sgZ w*detZ n A) (h0:elz a (n - s) 0 0≠0):
  StOK n (s+1) B A0 (nxt (n - (s+1)) (n - (s+1)) a b) (elz a (n - s) 0 0) w:=by
 obtain⟨A,ha,hb,hb0,e⟩:=hx
 have hl:a.length=(n - s)*(n - s):=by rw[ha,mkz_len]
 have hn:n - s=n - (s+1)+1:=by omega
 have e2:∀p q,p<n - s→q<n - s→elz a (n - s) p q=bmZ s A p q:=fun p q hp hq=>by rw[ha,mkz_el hp hq]
 have hpow:B*4^(s+1)=4*(B*4^s):=by rw[Nat.pow_succ];rw[←Nat.mul_assoc,Nat.mul_comm]
 refine⟨hs,⟨A, ?_, ?_,h0,e⟩, ?_, ?_,hw⟩
 ·refine mkz_congr fun i k hi hk=> ?_
  rw[crZ,←hn,e2 0 0 (by omega) (by omega),e2 (i+1) (k+1) (by omega) (by omega),e2 (i+1) 0 (by omega) (by omega),e2 0 (k+1) (by omega) (by omega),hb]
  exact bmZ_div (by rwa [hb]at hb0) i k
 ·rw[e2 0 0 (by omega) (by omega),bmZ_first]
 ·rw[hpow]
  refine Zm_mk fun i k hi hk=>Nat.le_trans (zs_div _ _) ?_
  exact crZ_zs hz (by rw[hl,hn]) hi hk
 ·rw[hpow]
  have:=elz_zm hz hl (i:=0) (k:=0) (by omega) (by omega);omega
end Go.Proofs.YtfjhnollamkdcaaGreatDoor
namespace Go.Proofs.YtfjhnollamkdcaaGreatDoor
open Go.Sx
set_option linter.unusedSimpArgs false
set_option linter.unusedVariables false
set_option maxRecDepth 100000
set_option maxHeartbeats 40000000
abbrev redS (r c:Nat) (W:Mx):St:=red2F r c ⟨W,[],1⟩
abbrev aug0 (c:Nat) (a:List Rat):Mx:=augW a c fun _ _=>0
theorem aug0_bd {r c A:Nat} {a:List Rat} (ha:OKM r c a) (sa:Sm A a):∀i q,i<r→q<c+0→fs (aug0 c a i q)≤A:=aug_bd ha sa fun i k _ hk=>absurd hk (Nat.not_lt_zero _)
end Go.Proofs.YtfjhnollamkdcaaGreatDoor
namespace Go.Proofs.YtfjhnollamkdcaaGreatDoor
open Go.Sx
set_option linter.unusedSimpArgs false
set_option linter.unusedVariables false
set_option maxRecDepth 100000
set_option maxHeartbeats 40000000
theorem Inv.agree {r c:Nat} {W:Mx} {s t:St} (h:Inv r W c t) (ha:Agree r s t):Inv r W c s:=by
 obtain⟨sw,sp,sd⟩:=s
 obtain⟨tw,tp,td⟩:=t
 obtain⟨rfl,rfl,hw,hl⟩:=ha
 simp only at hw hl
 obtain⟨P,hP,hP2⟩:=h.by_
 exact⟨h.len,h.lt,h.inc,fun j hj i hi=>by show sw i _=_;rw[hw i hi];exact h.unit j hj i hi,fun i hi q hq=>by show sw i q=0;rw[hw i (Nat.lt_of_lt_of_le hi h.len)];exact h.left i hi q hq,
  fun i h1 h2 q hq=>by show sw i q=0;rw[hw i h2];exact h.low i h1 h2 q hq,P,hP,fun i hi q=>by show sw i q=_;rw[hw i hi];exact hP2 i hi q⟩
theorem step_siz {r c A k:Nat} {s:St} (h:Siz r c A s) (hl:s.piv.length≤r) (hk:k<c):Siz r c A (colStep2 r s k):=by
 obtain⟨sw,sp,sd⟩:=s
 replace hl:sp.length≤r:=hl
 unfold colStep2
 simp only
 cases hq:pickF sw k (r - sp.length) sp.length with
 |none=>exact h
 |some i=>have hs:=pick_some hq;exact h.step hk (by omega) (by omega)
theorem red_siz {r c A:Nat} {W:Mx} (hA:∀i q,i<r→q<c→fs (W i q)≤A) (h2:2≤A):∀m,m≤c→Siz r c A (redS r m W)
 |0,_=>⟨fun i q hi hq=>by show fs (W i q)≤4^0*A;rw[Nat.pow_zero,Nat.one_mul];exact hA i q hi hq,by show fs 1≤4^0*A;rw[Nat.pow_zero,Nat.one_mul,fs_one];exact h2⟩
 |m+1,hm=>by
  show Siz r c A (red2F r (m+1) ⟨W,[],1⟩)
  rw[red2F_succ]
  exact step_siz (red_siz hA h2 m (by omega)) (red_agree r W m).le hm
theorem pow_le6 {p r:Nat} (A:Nat) (h:p≤r) (hr:r≤6):4^p*A≤4096*A:=Nat.mul_le_mul_right A (Nat.pow_le_pow_right (n:=4) (by decide) (show p≤6 by omega))
theorem redS_siz {r m c A:Nat} {W:Mx} (hA:∀i q,i<r→q<c→fs (W i q)≤A) (h2:2≤A) (hr:r≤6) (hm:m≤c):(∀i q,i<r→q<c→fs ((redS r m W).w i q)≤4096*A)∧fs (redS r m W).d≤4096*A:=by
 have h:=red_siz hA h2 m hm
 have hl:=pow_le6 A (red_agree r W m).le hr
 exact⟨fun i q hi hq=>Nat.le_trans (h.w i q hi hq) hl,Nat.le_trans h.d hl⟩
section
variable {r c A:Nat} {a:List Rat} (ha:OKM r c a) (hr:r≤6) (hc:c≤40) (sa:Sm A a) (h2:2≤A) (hA:4096*A≤4398046511104)
include ha hr sa h2
omit sa h2
include hc sa h2 hA
section
variable {b:List Rat} (hb:b.length=r) (sb:Sm A b)
include hb sb
end
end
end Go.Proofs.YtfjhnollamkdcaaGreatDoor
namespace Go.Proofs.YtfjhnollamkdcaaGreatDoor
open Go.Sx
set_option linter.unusedSimpArgs false
set_option linter.unusedVariables false
set_option maxRecDepth 100000
set_option maxHeartbeats 40000000
section
variable {r A:Nat} {a:List Rat} (ha:OKM r r a) (hr:r≤6) (sa:Sm A a) (h2:2≤A) (hA:4096*A≤4398046511104)
include ha hr sa h2 hA
end
theorem det_fs {n A:Nat} {a:List Rat} (ha:OKM n n a) (hn:n≤6) (sa:Sm A a) (h2:2≤A):fs (det n (el a n))≤4096*A:=by
 have hd:=redW_det (augW a n fun _ _=>0) (s:=red2F n n ⟨augW a n fun _ _=>0,[],1⟩) rfl
 rw[det_aug _ _ (Nat.le_refl _)]at hd
 rw[←hd]
 split
 ·rw[fs_zero];omega
 ·exact(redS_siz (c:=n) (aug0_bd ha sa) h2 hn (Nat.le_refl n)).2
end Go.Proofs.YtfjhnollamkdcaaGreatDoor
namespace Go.Proofs.YtfjhnollamkdcaaGreatDoor
open Go.Sx
set_option linter.unusedSimpArgs false
set_option linter.unusedVariables false
set_option maxRecDepth 100000
set_option maxHeartbeats 40000000
def nwI (o:Nat):Nat→List Rat→List Rat
 |0,v=>v
 |j+1,v=>nwI o j (v.set (o+j) ((v.getD (o+j) 0 - v.getD (o+j - 1) 0)/((o:Int):Rat)))
def nwO (n:Nat):Nat→List Rat→List Rat
 |0,v=>v
 |k+1,v=>nwO n k (nwI (n - k) (k+1) v)
def hoI (t:Nat):Nat→List Rat→List Rat
 |0,w=>w
 |j+1,w=>hoI t j (w.set j (if 0<j then w.getD j 0*((-(t:Int):Int):Rat)+w.getD (j - 1) 0 else w.getD j 0*((-(t:Int):Int):Rat)))
def hoO (n:Nat) (v:List Rat):Nat→List Rat→List Rat
 |0,w=>w
 |k+1,w=>hoO n v k ((hoI k (n+1) w).set 0 ((hoI k (n+1) w).getD 0 0+v.getD k 0))
def valP (n:Nat) (a m:List Rat):List Rat:=(List.range (n+1)).map fun t=>det n (el (mk n n (begX n a m (((t:Nat):Int):Rat))) n)
def polyF (n:Nat) (a m:List Rat):List Rat:=hoO n (nwO n n (valP n a m)) (n+1) (List.replicate (n+1) 0)
theorem valP_len (n:Nat) (a m:List Rat):(valP n a m).length=n+1:=by simp[valP]
theorem valP_get {n t:Nat} {a m:List Rat} (h:t<n+1):(valP n a m).getD t 0=det n (el (mk n n (begX n a m (((t:Nat):Int):Rat))) n):=by simp[valP,List.getD_eq_getElem?_getD,h]
theorem nwI_step {o t:Nat} {v:List Rat} (h1:1≤o) (h:o≤t):nwI o (t+1 - o) v=nwI o (t - 1+1 - o) (v.set t ((v.getD t 0 - v.getD (t - 1) 0)/((o:Int):Rat))):=by
 obtain⟨j,rfl⟩:∃j,t=o+j:=⟨t - o,by omega⟩
 rw[show o+j+1 - o=j+1 by omega,show o+j - 1+1 - o=j by omega,nwI]
theorem sm_get {B p:Nat} {v:List Rat} (h:Sm B v) (hB:2≤B):fs (v.getD p 0)≤B:=by
 by_cases hp:p<v.length
 ·exact h p hp
 ·rw[List.getD_eq_getElem?_getD,List.getElem?_eq_none (by omega)]
  have:fs (0:Rat)≤B:=by rw[fs_zero];exact hB
  exact this
theorem new_hpSk {r n k:Nat} {X:Mx} {b:Blk} (hk:k<1000):∀j c,(j,c)∈hpS r n X→find [(k,b)] j=none:=by
 intro j c hm
 have hj:1001≤j:=by
  rcases List.mem_cons.1 hm with e|hm
  ·cases e;exact Nat.le_refl _
  ·rcases List.mem_cons.1 hm with e|hm
   ·cases e;decide
   ·obtain⟨q,_,_,rfl,_⟩:=mem_rowsE.1 hm
    omega
 rw[find_skip (by omega)];rfl
theorem m_Poly1 {n:Nat} (X:Mx) (i k:Nat) (hi:i<n) (hk:k<n) (hn:n≤5):CallOK Tryz.prog 61 ([]++([iv (i:Nat),iv (k:Nat)]++[ptrA [sqA n ((List.range n).map (rowsM n X))]])) [] (.frac (X i k)) [] []:=by
 have e1:((List.range n).map (rowsM n X)).getD i []=rowsM n X i:=by simp[List.getD_eq_getElem?_getD,hi]
 have e2:(rowsM n X i).getD k 0=X i k:=rwL_get hk
 have l1:((List.range n).map (rowsM n X)).length=n:=by simp
 have l2:(rowsM n X i).length=n:=rwL_len _ _
 generalize rowsM n X i=R at*
 generalize (List.range n).map (rowsM n X)=L at*
 have hiL:i<L.length:=by omega
 have hkR:k<R.length:=by omega
 refine callV (Z:=[]) tabOK mixedOK Tryz.func61 rfl (by kernel_rfl) rfl rfl (by kernel_rfl) rfl ?_
 intro W0 w0 ρ0 hE
 conv=>whnf
 (repeat((first|refine g_o (op_indexN (α:=Rat) (d:=0) rfl (ev_ok rfl) (ev_ok rfl) (tgt rfl) rfl (tgt rfl) rfl (by omega)) ?_|refine g_o (op_loadA rfl (ev_ok rfl) (tgt rfl) rfl (Nat.succ_ne_zero _) rfl) ?_|refine g_o (op_indexN (α:=List Rat) (d:=[]) rfl (ev_ok rfl) (ev_ok rfl) (tgt rfl) rfl (tgt rfl) rfl (by omega)) ?_|refine g_o (op_fieldA rfl (ev_ok rfl) (tgt rfl) rfl rfl (Nat.succ_ne_zero _) rfl) ?_|refine g_o (op_nilCheckA rfl (ev_ok rfl)) ?_|rw[e1]|rw[e2]);conv=>whnf));(first|exact Recast.refl _|exact Frz.recast (Recast.refl _) rfl|(refine Frz.one rfl rfl ?_;skip)|(refine Frz.tup ?_;skip))
end Go.Proofs.YtfjhnollamkdcaaGreatDoor
