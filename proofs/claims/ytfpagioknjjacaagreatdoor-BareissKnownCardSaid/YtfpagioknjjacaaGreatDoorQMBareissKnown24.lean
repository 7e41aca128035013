/- The texts Nh, Nk, Nl, Nn, Oy, Qp, Qr, Qs, Qt, Qu. -/
import Derived.Test.YtfpagioknjjacaaGreatDoorQMBareissKnown17
import Derived.Test.YtfpagioknjjacaaGreatDoorQMBareissKnown12
import Derived.Test.YtfpagioknjjacaaGreatDoorQMBareissKnown21
import Derived.Test.YtfpagioknjjacaaGreatDoorQMBareissKnown5
import Derived.Test.YtfpagioknjjacaaGreatDoorQMBareissKnown15
import Derived.Test.YtfpagioknjjacaaGreatDoorQMBareissKnown22
import Derived.Test.YtfpagioknjjacaaGreatDoorQMBareissKnown14
import Derived.Test.YtfpagioknjjacaaGreatDoorQMBareissKnown10
namespace Go.Proofs.YtfpagioknjjacaaGreatDoor
open Go.Sx
set_option linter.unusedSimpArgs false
set_option linter.unusedVariables false
set_option maxRecDepth 100000
set_option maxHeartbeats 4000000
def MC (M:Nat→List Rat) (sp:List Nat) (m k:Nat):Nat→List Rat
 |0=>(List.replicate m 0).set k 1
 |i+1=>(MC M sp m k i).set (sp.getD i 0) (- (M i).getD k 0)
theorem Ba (M:Nat→List Rat) (sp:List Nat) (m k:Nat):∀i,(MC M sp m k i).length=m
 |0=>by simp[MC]
 |i+1=>by rw[MC,List.length_set,Ba M sp m k i]
def HG (M:Nat→List Rat) (sp:List Nat) (m:Nat) (k:Nat):List Rat:=MC M sp m k sp.length
def fa (sp:List Nat) (k:Nat):List Nat:=(List.range k).filter fun q=>decide (q∉sp)
theorem xy (sp:List Nat) (k:Nat):fa sp (k+1)=fa sp k++if k∈sp then[]else[k]:=by
 unfold fa
 rw[List.range_succ,List.filter_append]
 by_cases h:k∈sp
 ·rw[if_pos h];simp[h]
 ·rw[if_neg h];simp[h]
theorem LM {sp:List Nat} {k q:Nat}:q∈fa sp k↔q<k∧q∉sp:=by simp[fa]
theorem zd:∀{l:List Nat},(∀i j,i<j→j<l.length→l.getD i 0<l.getD j 0)→l.Nodup
 |[],_=>List.nodup_nil
 |a::l,h=>by
  refine List.nodup_cons.2 ⟨fun hm=> ?_,zd fun i j GG hj=>by simpa using h (i+1) (j+1) aa (by simpa using hj)⟩
  obtain⟨j,hj,e⟩:=c8.1 hm
  have:=h 0 (j+1) aa (by simpa using hj)
  simp only[List.getD_cons_zero,List.getD_cons_succ]at this
  omega
theorem ze {k:Nat}:∀{l:List Nat},l.Nodup→k∈l→l.count k=1
 |a::l,hn,h=>by
  rw[List.count_cons]
  have hn:=List.nodup_cons.1 hn
  rcases List.mem_cons.1 h with e|e
  ·subst e;rw[List.count_eq_zero.2 hn.1];simp
  ·have g:a≠k:=fun g=>hn.1 (g▸e)
   rw[ze hn.2 e];simp[g]
theorem C2 {sp:List Nat} (hn:sp.Nodup):∀k,(fa sp k).length+sp.countP (fun q=>decide (q<k))=k
 |0=>by simp[fa]
 |k+1=>by
  have ih:=C2 hn k
  rw[xy,List.length_append]
  have e:sp.countP (fun q=>decide (q<k+1))=sp.countP (fun q=>decide (q<k))+sp.count k:=by
   clear ih hn
   induction sp with
   |nil=>rfl
   |cons a l ih=>
    simp only[List.countP_cons,List.count_cons,ih,decide_eq_true_eq,beq_iff_eq]
    by_cases g:a=k
    ·subst g;simp;omega
    ·by_cases g2:a<k
     ·rw[if_pos aa,if_pos g2,if_neg g];omega
     ·rw[if_neg aa,if_neg g2,if_neg g];omega
  by_cases h:k∈sp
  ·rw[if_pos h,e,ze hn h];simp;omega
  ·rw[if_neg h,e,List.count_eq_zero.2 h];simp;omega
theorem RE.nodup {r c:Nat} {w:Mx} {sp:List Nat} (h:RE r c w sp):sp.Nodup:=zd h.inc
theorem RE.free {r c:Nat} {w:Mx} {sp:List Nat} (h:RE r c w sp):(fa sp c).length+sp.length=c:=by
 have:=C2 h.nodup c
 rwa [List.countP_eq_length.2 fun q hq=>by
  obtain⟨j,hj,rfl⟩:=c8.1 hq
  exact decide_eq_true (h.lt j hj)]at this
theorem HI {r c:Nat} {W V:Mx} (h:∀i q,i<r→q<c→W i q=V i q) (x:Nat→Rat):CT r c W x↔CT r c V x:=by
 have e:∀i,i<r→aH c (fun q=>W i q*x q)=aH c (fun q=>V i q*x q):=fun i hi=>ao c fun q hq=>by rw[h i q hi hq]
 exact⟨fun g i hi=>by rw[←e i hi];exact g i hi,fun g i hi=>by rw[e i hi];exact g i hi⟩
theorem rF {c:Nat} {f g:Nat→Rat} (h:∀q,q<c→f q=g q):aH (c+1) f=aH c g+f c:=by rw[aH,ao c h]
def O6 (x:Nat→Rat) (c q:Nat):Rat:=if q<c then x q else -1
theorem Bb {x:Nat→Rat} {c q:Nat} (h:q<c):O6 x c q=x q:=if_pos h
theorem Bc {x:Nat→Rat} {c:Nat}:O6 x c c= -1:=if_neg (Nat.lt_irrefl c)
theorem LN {r c:Nat} {W:Mx} {s:St} (hi:Inv r W c s) {x:Nat→Rat} (hx:∀i,i<r→aH c (fun q=>W i q*x q)=W i c):∀i,s.bg.length≤i→i<r→s.w i c=0:=by
 have hk:CT r (c+1) W (O6 x c):=fun i EM=>by
  rw[rF (g:=fun q=>W i q*x q) fun q hq=>by rw[Bb hq],hx i EM,Bc];grind
 have hs:=(hi.ZV (c:=c+1) _).2 hk
 intro i h1 h2
 have:=hs i h2
 rw[rF (g:=fun q=>0) fun q hq=>by rw[hi.low i h1 h2 q hq];grind,Bc,c6 fun _ _=>rfl]at this
 grind
def uG (w:Mx) (sp:List Nat) (c q:Nat):Rat:=aH sp.length fun j=>delta q (sp.getD j 0)*w j c
theorem LO {r c:Nat} {w:Mx} {sp:List Nat} (h:RE r c w sp) {i:Nat} (hi:i<r):aH c (fun q=>w i q*uG w sp c q)=if i<sp.length then w i c else 0:=by
 rw[ao c (g:=fun q=>aH sp.length fun j=>w i q*delta q (sp.getD j 0)*w j c) fun q _=>by
  rw[uG,bC];exact ao _ fun j _=>by grind,fA,ao sp.length (g:=fun j=>delta i j*w j c) fun j hj=>by
  rw[←gZ,gA,if_pos (h.lt j hj),h.unit j hj i hi,delta],dh]
theorem Gj {r c:Nat} {W:Mx} {s:St} (hi:Inv r W c s) (hz:∀i,s.bg.length≤i→i<r→s.w i c=0):∀i,i<r→aH c (fun q=>W i q*uG s.w s.bg c q)=W i c:=by
 have hk:CT r (c+1) s.w (O6 (uG s.w s.bg c) c):=fun i EM=>by
  rw[rF (g:=fun q=>s.w i q*uG s.w s.bg c q) fun q hq=>by rw[Bb hq],LO hi.re EM,Bc]
  by_cases g:i<s.bg.length
  ·rw[if_pos g];grind
  ·rw[if_neg g,hz i aa EM];grind
 intro i EM
 have:=(hi.ZV (c:=c+1) _).1 hk i EM
 rw[rF (g:=fun q=>W i q*uG s.w s.bg c q) fun q hq=>by rw[Bb hq],Bc]at this
 grind
theorem zf {w:Mx} {sp:List Nat} {c q:Nat} (hq:q∉sp):uG w sp c q=0:=c6 fun j hj=>by
 rw[delta,if_neg fun e=>hq (c8.2 ⟨j,hj,e.symm⟩)];grind
theorem LP {r c:Nat} {w:Mx} {sp:List Nat} (h:RE r c w sp) {z:Nat→Rat} (hz:CT r c w z) (hf:∀q,q<c→q∉sp→z q=0):∀q,q<c→z q=0:=by
 intro q hq
 by_cases g:q∈sp
 ·obtain⟨j,hj,rfl⟩:=c8.1 g
  have hjr:j<r:=Nat.lt_of_lt_of_le hj h.len
  have:=hz j hjr
  rw[hO (j:=sp.getD j 0) c hq fun q' xM b6=>by
   by_cases g':q'∈sp
   ·obtain⟨i,hi,rfl⟩:=c8.1 g'
    rw[h.unit i hi j hjr,if_neg fun e=>b6 (by rw[e])];grind
   ·rw[hf q' xM g'];grind,h.unit j hj j hjr,if_pos rfl]at this
  grind
 ·exact hf q hq g
theorem ac0 {r m:Nat} {W:Mx} {s:St} {P:Mx} (hP:∀i,i<r→∀q,s.w i q=pr r P W i q) (hI:∀a k,a<r→k<r→W a (m+k)=delta a k) {i k:Nat} (hi:i<r) (hk:k<r):s.w i (m+k)=P i k:=by
 rw[hP i hi,pr,ao r (g:=fun a=>P i a*delta a k) fun a ha=>by rw[hI a k ha hk],gA,if_pos hk]
theorem ES {n:Nat} {A B:Mx} (h:∀i k,i<n→k<n→pr n B A i k=delta i k):∀i k,i<n→k<n→pr n A B i k=delta i k:=by
 have hd:bH n B*bH n A=1:=by rw[←q8,aO h,oK]
 have hB:=A3 hd
 intro i k hi hk
 have e1:pr n (dU n B) (pr n B (pr n A B)) i k=bH n B*pr n A B i k:=by
  rw[←oc,pr,ao n (g:=fun j=>bH n B*(delta i j*pr n A B j k)) fun j hj=>by rw[lv B hi hj,delta];split<;>grind,←bC,dh,if_pos hi]
 have e2:pr n (dU n B) (pr n B (pr n A B)) i k=bH n B*delta i k:=by
  rw[pr,ao n (g:=fun j=>dU n B i j*B j k) fun j hj=>by
   rw[←oc,pr,ao n (g:=fun m=>delta j m*B m k) fun m hm=>by rw[h j m hj hm],dh,if_pos hj]]
  have:=lv B hi hk
  unfold pr at this
  rw[this,delta];split<;>grind
 have e3:=e1.symm.trans e2
 have:bH n B*(pr n A B i k - delta i k)=0:=by grind
 rcases Rat.mul_eq_zero.1 this with g|g
 ·exact absurd g hB
 ·grind
theorem LQ {n:Nat} {W:Mx} {s:St} (hi:Inv n W n s) (hp:s.bg.length=n) (hI:∀a k,a<n→k<n→W a (n+k)=delta a k):∀i q,i<n→q<n→aH n (fun a=>s.w i (n+a)*W a q)=delta i q:=by
 obtain⟨P,_,hP⟩:=hi.Rb
 intro i q h1 h2
 rw[ao n (g:=fun a=>P i a*W a q) fun a ha=>by rw[ac0 (m:=n) hP hI h1 ha]]
 have e1:=hP i h1 q
 unfold pr at e1
 rw[←e1]
 have e2:=hi.re.full hp q h2
 have:=hi.unit q aa i h1
 rw[e2]at this
 rw[this,delta]
theorem C3 (n:Nat) (W:Mx):(pq n n ⟨W,[],1⟩).bg.length=n↔bH n W≠0:=by
 have h:=Gg n W
 have hi:=Inv.red (r:=n) (W:=W) n
 obtain⟨P,h1,_⟩:=hi.Rb
 have hd:(pq n n ⟨W,[],1⟩).d≠0:=A3 (show(pq n n ⟨W,[],1⟩).d*bH n P=1 by rw[Rat.mul_comm];exact h1)
 have hl:=hi.len
 by_cases g:(pq n n ⟨W,[],1⟩).bg.length<n
 ·rw[if_pos g]at h
  exact⟨fun e=>aa,fun e=>absurd h.symm e⟩
 ·rw[if_neg g]at h
  exact⟨fun _=>by rw[←h];exact hd,fun _=>aa⟩
theorem Inv.rnk {r c:Nat} {W:Mx} {s:St} (h:Inv r W c s):s.bg.length=rnk r c W:=
 congrArg List.length (RE.unique h.re (Inv.red (r:=r) (W:=W) c).re fun x=>(h.ZV x).trans ((Inv.red (r:=r) (W:=W) c).ZV x).symm).1
theorem Inv.full {n:Nat} {W:Mx} {s:St} (h:Inv n W n s):s.bg.length=n↔bH n W≠0:=by rw[h.rnk];exact C3 n W
theorem C4 {r c:Nat} {a v b:List Rat} (hb:b.length=r) (h:∀i,i<r→aH c (fun q=>el a c i q*v.getD q 0)=b.getD i 0):jv r c a v=b:=
 As (n:=r) pP hb fun i hi=>by rw[iH hi];exact h i hi
section
variable {r c:Nat} {w:Mx} {sp:List Nat} {M:Nat→List Rat}
end
theorem O7 {n:Nat} {a b:List Rat} {i k:Nat} (hi:i<n) (hk:k<n):el (qY n n n a b) n i k=pr n (el a n) (el b n) i k:=fy hi hk
theorem vi {n i k:Nat} (hi:i<n) (hk:k<n):el (ig n) n i k=delta i k:=fy hi hk
theorem Be {n:Nat} {a b:List Rat}:qY n n n b a=ig n↔∀i k,i<n→k<n→pr n (el b n) (el a n) i k=delta i k:=by
 constructor
 ·intro h i k hi hk;rw[←O7 hi hk,h,vi hi hk]
 ·exact fun h=>mk_congr h
theorem ET {n:Nat} {a b:List Rat} (h:qY n n n b a=ig n):qY n n n a b=ig n:=Be.2 (ES (Be.1 h))
def O8 (n:Nat) (s:St):List Rat:=mk n n fun i k=>s.w i (n+k)
theorem HJ {n:Nat} {a:List Rat} {W:Mx} {s:St} (hi:Inv n W n s) (hp:s.bg.length=n) (hI:∀i k,i<n→k<n→W i (n+k)=delta i k) (hA:∀i q,i<n→q<n→W i q=el a n i q):qY n n n (O8 n s) a=ig n:=by
 refine Be.2 fun i k jU hk=> ?_
 rw[←LQ hi hp hI i k jU hk]
 exact ao n fun j hj=>by rw[show el (O8 n s) n i j=s.w i (n+j)from fy jU hj,hA j k hj hk]
def sM (r c:Nat) (a:List Rat):List Nat:=(pq r c ⟨el a c,[],1⟩).bg
def RW (r c:Nat) (a:List Rat):Mx:=(pq r c ⟨el a c,[],1⟩).w
theorem LR (r c:Nat) (a:List Rat):RE r c (RW r c a) (sM r c a):=(Inv.red (r:=r) (W:=el a c) c).re
theorem LS (r c:Nat) (a:List Rat) (x:Nat→Rat):CT r c (RW r c a) x↔CT r c (el a c) x:=(Inv.red (r:=r) (W:=el a c) c).ZV x
theorem Inv.sM {r c:Nat} {W:Mx} {s:St} {a:List Rat} (h:Inv r W c s) (hW:∀i q,i<r→q<c→W i q=el a c i q):s.bg=sM r c a∧∀i q,i<r→q<c→s.w i q=RW r c a i q:=
 RE.unique h.re (LR r c a) fun x=>(h.ZV x).trans ((HI hW x).trans (LS r c a x).symm)
def rwM (r c:Nat) (a:List Rat) (i:Nat):List Rat:=(List.range c).map (RW r c a i)
theorem O9 {r c:Nat} {a:List Rat} {i k:Nat} (hk:k<c):(rwM r c a i).getD k 0=RW r c a i k:=by simp[rwM,List.getD_eq_getElem?_getD,hk]
def KL (r c:Nat) (a:List Rat):List (List Rat):=(fa (sM r c a) c).map (HG (rwM r c a) (sM r c a) c)
theorem zg {M N:Nat→List Rat} {sp:List Nat} {m k:Nat}:∀i,(∀j,j<i→(M j).getD k 0=(N j).getD k 0)→MC M sp m k i=MC N sp m k i
 |0,_=>rfl
 |i+1,h=>by rw[MC,MC,zg i fun j hj=>h j aa,h i aa]
theorem ac1 {r c:Nat} {W:Mx} {s:St} {a:List Rat} {M:Nat→List Rat} (h:Inv r W c s) (hW:∀i q,i<r→q<c→W i q=el a c i q) (hM:∀j,j<r→∀k,k<c→(M j).getD k 0=s.w j k):(fa s.bg c).map (HG M s.bg c)=KL r c a:=by
 obtain⟨h1,h2⟩:=h.sM hW
 have hl:=h.len
 rw[h1]at hl ⊢
 refine List.map_congr_left fun k hk=> ?_
 obtain⟨hk,_⟩:=LM.1 hk
 exact zg _ fun j hj=>by rw[hM j aa k hk,h2 j k aa hk,O9 hk]
theorem Zs (r c:Nat) (a:List Rat):(KL r c a).length=(fa (sM r c a) c).length:=List.length_map _
theorem Zt (r c:Nat) (a:List Rat):(KL r c a).length+(sM r c a).length=c:=by rw[Zs];exact(LR r c a).free
section
variable {r c:Nat} {a:List Rat} {i k:Nat}
end
def vj (r c:Nat) (a b:List Rat) (x:Nat→Rat):Prop:=∀i,i<r→aH c (fun q=>el a c i q*x q)=b.getD i 0
theorem vj.ext {r c:Nat} {a b:List Rat} {x y:Nat→Rat} (h:vj r c a b x) (he:∀q,q<c→x q=y q):vj r c a b y:=fun i hi=>by rw[←h i hi];exact ao c fun q hq=>by rw[he q hq]
theorem vj.app {r c:Nat} {a b v:List Rat} (hb:b.length=r) (h:vj r c a b fun q=>v.getD q 0):jv r c a v=b:=C4 hb h
theorem vj.of {r c:Nat} {a v:List Rat}:vj r c a (jv r c a v) fun q=>v.getD q 0:=fun i hi=>by rw[iH hi]
theorem vj.add {r c:Nat} {a b:List Rat} {x y:Nat→Rat} (t:Rat) (h:vj r c a b x) (hk:CT r c (el a c) y):vj r c a b fun q=>t*y q+x q:=by
 intro i hi
 have e:aH c (fun q=>el a c i q*(t*y q+x q))=t*aH c (fun q=>el a c i q*y q)+aH c (fun q=>el a c i q*x q):=by
  rw[←sum_smul,←sum_add];exact ao c fun q _=>by grind
 rw[e,h i hi,hk i hi];grind
theorem vj.sub {r c:Nat} {a b:List Rat} {x y:Nat→Rat} (h:vj r c a b x) (h':vj r c a b y):CT r c (el a c) fun q=>x q - y q:=by
 intro i hi
 have e:aH c (fun q=>el a c i q*(x q - y q))=aH c (fun q=>el a c i q*x q)+(-1)*aH c (fun q=>el a c i q*y q):=by
  rw[←sum_smul,←sum_add];exact ao c fun q _=>by grind
 rw[e,h i hi,h' i hi];grind
theorem vj.eq {r c:Nat} {a b:List Rat} {x y:Nat→Rat} (h:vj r c a b x) (h':vj r c a b y) (hf:∀q,q<c→q∉sM r c a→x q=y q):∀q,q<c→x q=y q:=by
 intro q hq
 have:=LP (LR r c a) ((LS r c a _).2 (h.sub h')) (fun q hq hn=>by rw[hf q hq hn];grind) q hq
 grind
section
variable {r c:Nat} {W:Mx} {s:St} {a b:List Rat} (hi:Inv r W c s) (hW:∀i q,i<r→q<c→W i q=el a c i q) (hb:∀i,i<r→W i c=b.getD i 0)
include hi hW hb
theorem Gk:(∀i,s.bg.length≤i→i<r→s.w i c=0)↔∃x,vj r c a b x:=by
 constructor
 ·intro hz
  refine⟨uG s.w s.bg c,fun i h=> ?_⟩
  have:=Gj hi hz i h
  rw[hb i h]at this
  rw[←this]
  exact ao c fun q hq=>by rw[hW i q h hq]
 ·rintro⟨x,hx⟩
  exact LN hi (x:=x) fun i h=>by rw[hb i h,←hx i h];exact ao c fun q hq=>by rw[hW i q h hq]
theorem ac2 (hz:∀i,s.bg.length≤i→i<r→s.w i c=0) {x:Nat→Rat} (hx:∀q,q<c→x q=uG s.w s.bg c q):vj r c a b x∧∀q,q<c→q∉sM r c a→x q=0:=by
 constructor
 ·intro i h
  have:=Gj hi hz i h
  rw[hb i h]at this
  rw[←this]
  exact ao c fun q hq=>by rw[hW i q h hq,hx q hq]
 ·intro q hq hn
  rw[hx q hq]
  rw[←(hi.sM hW).1]at hn
  exact zf hn
theorem HK (O2:¬∃x,vj r c a b x):∃j,s.bg.length≤j∧j<r∧s.w j c≠0∧∀i,s.bg.length≤i→i<j→s.w i c=0:=by
 have h0:¬∀i,s.bg.length≤i→i<r→s.w i c=0:=fun h=>O2 ((Gk hi hW hb).1 h)
 have h1:∃j,s.bg.length≤j∧j<r∧s.w j c≠0:=Classical.byContradiction fun hn=>h0 fun i h2 h3=>Classical.byContradiction fun h4=>hn ⟨i,h2,h3,h4⟩
 clear h0 O2
 obtain⟨j,h⟩:=h1
 induction j using Nat.strongRecOn with
 |ind j ih=>
  by_cases hq:∃i,s.bg.length≤i∧i<j∧s.w i c≠0
  ·obtain⟨i,h2,h3,h4⟩:=hq
   exact ih i h3 ⟨h2,aa,h4⟩
  ·exact⟨j,h.1,h.2.1,h.2.2,fun i h2 h3=>Classical.byContradiction fun h4=>hq ⟨i,h2,h3,h4⟩⟩
end
theorem LU {r c:Nat} {w:Mx} {sp:List Nat} (h:RE r c w sp) (q:Nat):uG w sp c q=0∨∃j,j<r∧uG w sp c q=w j c:=by
 by_cases hm:q∈sp
 ·obtain⟨j,hj,rfl⟩:=c8.1 hm
  refine .inr ⟨j,by have:=h.len;omega, ?_⟩
  unfold uG
  rw[hO (j:=j) _ hj fun i hi b6=>by rw[delta,if_neg fun g=>b6 (A4 h hi hj g.symm)];grind,delta,if_pos rfl];grind
 ·exact .inl (zf hm)
theorem Zu {n:Nat} {a b v:List Rat} (hv:v.length=n) (h:qY n n n a b=ig n):vj n n a v fun q=>(jv n n b v).getD q 0:=by
 intro i hi
 have e:jv n n a (jv n n b v)=v:=by
  rw[←Ef a b v,h]
  refine C4 hv fun i hi=> ?_
  rw[ao n (g:=fun q=>delta i q*v.getD q 0) fun q hq=>by rw[vi hi hq],dh,if_pos hi]
 have:=congrArg (fun l:List Rat=>l.getD i 0) e
 simp only[iH hi]at this
 exact this
theorem HL {n:Nat} {x:List Rat}:(sM n n x).length=n↔bH n (el x n)≠0:=C3 n _
theorem Zv {n:Nat} {A:Mx} {x y:Nat→Rat} {c:Nat} (hc:c<n) (h:∀i,i<n→aH n (fun q=>A i q*x q)=y i):bH n (fB A c y)=x c*bH n A:=by
 obtain⟨m,rfl⟩:∃m,n=m+1:=⟨n - 1,aa⟩
 have h1:bH (m+1) (fB A c y)=aH (m+1) fun i=>dU (m+1) A c i*y i:=by
  rw[JV m _ hc]
  refine ao _ fun i hi=> ?_
  have e:rK (fB A c y) i c=rK A i c:=by
   funext p q
   unfold rK fB
   rw[if_neg (JQ c q)]
  rw[e,show fB A c y i c=y i from if_pos rfl]
  unfold dU
  rw[Nat.add_comm c i,Nat.add_sub_cancel];grind
 rw[h1,ao (m+1) (g:=fun i=>aH (m+1) fun q=>dU (m+1) A c i*(A i q*x q)) fun i hi=>by rw[←h i hi,bC],fA]
 have h2:∀q,q<m+1→aH (m+1) (fun i=>dU (m+1) A c i*(A i q*x q))=(if c=q then bH (m+1) A else 0)*x q:=fun q hq=>by
  rw[←lv A hc hq,pr,gZ]
  exact ao _ fun i _=>by grind
 rw[ao (m+1) h2,hO (j:=c) _ hc fun q _ b6=>by rw[if_neg (Ne.symm b6)];grind,if_pos rfl]
 grind
set_option maxHeartbeats 40000000
theorem Ri {n B:Nat} (hn:n≤5) (hB:B≤1000):∀m,pS n B m≤pS 5 1000 m
 |0=>Nat.le_refl _
 |m+1=>Nat.add_le_add_left (Nat.mul_le_mul hn (Nat.add_le_add hB (Ri hn hB m))) 2
theorem Pa {n B m:Nat} (hn:n≤5) (hB:B≤1000) (hm:m≤5):pS n B m≤3912812:=by
 refine Nat.le_trans (Ri hn hB m) ?_
 obtain rfl|rfl|rfl|rfl|rfl|rfl:m=0∨m=1∨m=2∨m=3∨m=4∨m=5:=aa
 all_goals decide
theorem xz {n B:Nat} {A:Mz} (hn:n≤5) (hB:B≤999) (h:∀i k,i<n→k<n→zs (A i k)≤B):zs (bo n A)≤3912812:=by
 refine Nat.le_trans (CP _) ?_
 rw[bT]
 have:=mi (n:=n) (B:=B+1) (a:=mk n n (ra A)) (dx ..) (wL fun i k hi hk=>by have:=oi (A i k);have:=h i k hi hk;show fs ((A i k:Int):Rat)≤_;omega) n 0 [] (Nat.zero_add _)
 rw[oL,aO (B:=ra A) fun i k hi hk=>fy hi hk]at this
 exact Nat.le_trans this (Pa hn aa hn)
theorem rG {n B:Nat} {A:Mz} (hn:n≤5) (hB:B≤999) (h:∀i k,i<n→k<n→zs (A i k)≤B) {i k:Nat} (hi:i<n) (hk:k<n):zs (po n A i k)≤3912812:=by
 have h1:=xz (n:=n - 1) (B:=B) (A:=fun a b=>A (sk k a) (sk i b)) aa hB fun a b ha hb=>h _ _ (by have:=kp (k:=k) ha;omega) (by have:=kp (k:=i) hb;omega)
 unfold po
 rw[jK]
 split
 ·rw[Int.neg_one_mul,Ew];exact h1
 ·rw[Int.one_mul];exact h1
abbrev ik (n:Nat) (X:List Int):List Int:=eP n n (po n (bl X n))
def prZ (n:Nat) (A B:Mz):Mz:=fun i k=>oe n fun p=>A i p*B p k
abbrev Ig (n:Nat) (X Y:List Int):List Int:=eP n n (prZ n (bl X n) (bl Y n))
abbrev Ih (n:Nat) (X:List Int):List Int:=eP n n fun i k=>bl X n k i
theorem np {n:Nat} (X:List Int) {i k:Nat} (hi:i<n) (hk:k<n):el (aG (ik n X)) n i k=dU n (ra (bl X n)) i k:=by
 rw[dJ (cZ ..) hi hk,cB hi hk,yX]
theorem zh {n:Nat} (q:Rat) {i k:Nat} (hi:i<n) (hk:k<n):el (n7 q (ig n)) n i k=q*delta i k:=by
 have h:=dN hi hk
 have e:=Fe (f:=fun x _=>q*x) (a:=ig n) (b:=ig n) (i:=i*n+k) (d1:=0) (d2:=0) (d3:=0) (by rw[dx];exact h) (by rw[dx];exact h)
 rw[el,e]
 show q*el (ig n) n i k=_
 rw[fy hi hk]
theorem p9 (q:Rat) (n:Nat):(n7 q (ig n)).length=n*n:=Fc (dx ..) (dx ..)
theorem LW {n:Nat} {X:List Int} (hX:X.length=n*n):qY n n n (aG X) (aG (ik n X))=n7 ((bo n (bl X n):Int):Rat) (ig n):=by
 refine qX (dx ..) (p9 ..) fun i k hi hk=> ?_
 rw[fy hi hk,zh _ hi hk,ao n (g:=fun p=>ra (bl X n) i p*dU n (ra (bl X n)) p k) fun p hp=>by rw[dJ hX hi hp,np X hp hk];rfl]
 have:=Au (ra (bl X n)) hi hk
 unfold pr at this
 rw[this,bT,delta];split<;>grind
theorem HM {n:Nat} {X:List Int} (hX:X.length=n*n):qY n n n (aG (ik n X)) (aG X)=n7 ((bo n (bl X n):Int):Rat) (ig n):=by
 refine qX (dx ..) (p9 ..) fun i k hi hk=> ?_
 rw[fy hi hk,zh _ hi hk,ao n (g:=fun p=>dU n (ra (bl X n)) i p*ra (bl X n) p k) fun p hp=>by rw[dJ hX hp hk,np X hi hp];rfl]
 have:=lv (ra (bl X n)) hi hk
 unfold pr at this
 rw[this,bT,delta];split<;>grind
theorem C5 (n:Nat) (A B:Mz) (i k:Nat):((prZ n A B i k:Int):Rat)=pr n (ra A) (ra B) i k:=by
 rw[prZ,oM];exact ao n fun p _=>by rw[Rat.intCast_mul];rfl
theorem C6 {n:Nat} {X Y:List Int} (hX:X.length=n*n) (hY:Y.length=n*n):qY n n n (aG X) (aG Y)=aG (Ig n X Y):=by
 rw[oW]
 refine mk_congr fun i k hi hk=> ?_
 show _=((prZ n (bl X n) (bl Y n) i k:Int):Rat)
 rw[C5]
 exact ao n fun p hp=>by rw[dJ hX hi hp,dJ hY hp hk];rfl
theorem C7 {n:Nat} {X:List Int} (hX:X.length=n*n):JP n n (aG X)=aG (Ih n X):=by
 rw[oW]
 refine mk_congr fun i k hi hk=> ?_
 rw[dJ hX hk hi];rfl
theorem zi {n:Nat} {A B:Mx} (h:∀i k,i<n→k<n→A i k=B i k) {i k:Nat} (hi:i<n) (hk:k<n):dU n A i k=dU n B i k:=by
 rw[dU,dU,aO (A:=rK A k i) (B:=rK B k i) fun a b ha hb=>h _ _ (by have:=kp (k:=k) ha;omega) (by have:=kp (k:=i) hb;omega)]
theorem LX {n:Nat} (X Y:List Int):aG (ik n (Ig n X Y))=qY n n n (aG (ik n Y)) (aG (ik n X)):=by
 refine qX (by rw[c5,cZ]) (dx ..) fun i k hi hk=> ?_
 rw[np _ hi hk,fy hi hk,zi (B:=pr n (ra (bl X n)) (ra (bl Y n))) (fun a b ha hb=>by
  show((bl (Ig n X Y) n a b:Int):Rat)=_
  rw[cB ha hb,C5]) hi hk,YD _ _ hi hk]
 exact ao n fun p hp=>by rw[np _ hi hp,np _ hp hk]
theorem LY {n:Nat} (X:List Int):aG (ik n (Ih n X))=JP n n (aG (ik n X)):=by
 refine qX (by rw[c5,cZ]) (dx ..) fun i k hi hk=> ?_
 rw[np _ hi hk,fy hi hk,np _ hk hi,zi (B:=tr (ra (bl X n))) (fun a b ha hb=>by
  show((bl (Ih n X) n a b:Int):Rat)=_
  rw[cB ha hb];rfl) hi hk,JW]
theorem Gl:∀(l:List Rat),(∀x∈l,x.den=1)→l.foldl EB 1=1
 |[],_=>rfl
 |x::l,h=>by
  rw[List.foldl_cons,show EB 1 x=1 from by rw[EB,h x (List.mem_cons_self ..)];decide]
  exact Gl l fun y hy=>h y (List.mem_cons_of_mem _ hy)
theorem Gm (l:List Int) (c i:Nat):jN (cj (aG l) c i)=1:=Gl _ fun x hx=>by
 have h1:=List.mem_of_mem_take hx
 have h2:=List.mem_of_mem_drop h1
 obtain⟨z,_,rfl⟩:=List.mem_map.1 h2
 rfl
theorem Gn (r c:Nat) (l:List Int):xG r c (aG l)=List.replicate r 1:=by
 have:xG r c (aG l)=(List.range r).map fun _=>1:=List.map_congr_left fun i _=>Gm l c i
 rw[this,List.map_const',List.length_range]
theorem Gp {r c:Nat} {l:List Int} (hl:l.length=r*c):xk r c (aG l)=l:=by
 refine oS hl fun i k hi hk=> ?_
 rw[Gm,dJ hl hi hk,show(((1:Nat):Rat))=1 from rfl,Rat.mul_one,Rat.num_intCast]
theorem Zw {n:Nat} {X Y:List Int} (hn:n≤4) (hX:X.length=n*n) (hY:Y.length=n*n) (zx:Zm 65 X) (zy:Zm 65 Y):Zm 600 (Ig n X Y):=kN fun i k hi hk=>by
 have:=nc (f:=fun p=>bl X n i p*bl Y n p k) (B:=130) n fun p hp=>by
  have h1:=bX zx hX hi hp
  have h2:=bX zy hY hp hk
  have:=na (bl X n i p) (bl Y n p k)
  omega
 have h3:n*130≤4*130:=Nat.mul_le_mul_right 130 hn
 unfold prZ;omega
theorem Pb (l:List Int) (x:Int) (hl:l.length<1099511627776):∃n:Int,decide (0≤n)=decide (x∈l)∧ab Tryz.prog 349 [cF .i64 l,iv x] [] (iv n) [] []:=by
 by_cases h:∃j,j<l.length∧l.getD j 0=x∧∀i,i<j→l.getD i 0≠x
 ·obtain⟨j,hj,hx,hb⟩:=h
  have hm:x∈l:=by rw[←hx,List.getD_eq_getElem?_getD,List.getElem?_eq_getElem hj];exact List.getElem_mem hj
  refine⟨j,by rw[decide_eq_true (Int.natCast_nonneg j),decide_eq_true hm], ?_⟩
  refine bP [] Tryz.func349 ?_
  intro W0 w0 ρ0 hE
  conv=>whnf
  (repeat(first|(refine ak cO ?_;conv=>whnf)))
  refine ai hE (fun k=>k) [0,1,7,8] [] (fun m fr hp=>∃i:Nat,m=l.length - i∧i≤j∧fr=[(0,cF .i64 l),(1,iv x),(7,iv l.length),(8,iv i)]∧hp=[]) l.length ?_ ?_ ?_
  ·kernel_rfl
  ·exact⟨0,rfl,Nat.zero_le _,rfl,rfl⟩
  rintro m _ _ ⟨i,rfl,hi,rfl,rfl⟩
  have t1:=dX (show i<l.length by omega)
  have t2:=bA (i:=i) aa
  conv=>whnf
  by_cases e:i=j
  ·subst e
   have t3:decide (x=l.getD i 0)=true:=decide_eq_true hx.symm
   (repeat((first|refine aE t1 ?_|refine aE t3 ?_|refine ak Q6 ?_|refine ak nA ?_);conv=>whnf));exact Q5
  ·have t3:decide (x=l.getD i 0)=false:=decide_eq_false fun g=>hb i aa g.symm
   (repeat((first|refine aE t1 ?_|refine aM t3 ?_|refine ak Q6 ?_|refine ak nA ?_|rw[t1]|rw[t2]);conv=>whnf))
   exact⟨l.length - (i+1),fun k=>k,[0,1,7,8],[],aa,aB,i+1,rfl,aa,rfl,rfl⟩
 ·have O2:∀j,j<l.length→l.getD j 0≠x:=by
   intro j
   induction j using Nat.strongRecOn with
   |ind j ih=>
    intro hj hx
    exact h ⟨j,hj,hx,fun i hi=>ih i hi aa⟩
  have hm:x∉l:=fun hm=>by
   obtain⟨j,hj,e⟩:=List.getElem_of_mem hm
   exact O2 j hj (by rw[List.getD_eq_getElem?_getD,List.getElem?_eq_getElem hj];exact e)
  refine⟨-1,by rw[decide_eq_false hm];rfl, ?_⟩
  refine bP [] Tryz.func349 ?_
  intro W0 w0 ρ0 hE
  conv=>whnf
  (repeat(first|(refine ak cO ?_;conv=>whnf)))
  refine ai hE (fun k=>k) [0,1,7,8] [] (fun m fr hp=>∃i:Nat,m=l.length - i∧i≤l.length∧fr=[(0,cF .i64 l),(1,iv x),(7,iv l.length),(8,iv i)]∧hp=[]) l.length ?_ ?_ ?_
  ·kernel_rfl
  ·exact⟨0,rfl,Nat.zero_le _,rfl,rfl⟩
  rintro m _ _ ⟨i,rfl,hi,rfl,rfl⟩
  conv=>whnf
  by_cases aA:i<l.length
  ·have t1:=dX aA
   have t2:=bA (i:=i) aa
   have t3:decide (x=l.getD i 0)=false:=decide_eq_false fun g=>O2 i aA g.symm
   (repeat((first|refine aE t1 ?_|refine aM t3 ?_|refine ak Q6 ?_|refine ak nA ?_|rw[t1]|rw[t2]);conv=>whnf))
   exact⟨l.length - (i+1),fun k=>k,[0,1,7,8],[],aa,aB,i+1,rfl,aA,rfl,rfl⟩
  ·have t1:=ez aA
   (repeat(first|(refine aM t1 ?_;conv=>whnf)));exact Q5
theorem EU (l:List Int) (x:Int) (hl:l.length<1099511627776):ab Tryz.prog 310 [cF .i64 l,iv x] [] (.val (.bool (decide (x∈l)))) [] []:=by
 obtain⟨n,hn,k1⟩:=Pb l x hl
 rw[←hn]
 refine bP [] Tryz.func310 ?_
 intro W0 w0 ρ0 hE
 conv=>whnf
 (repeat(first|(refine aS (by assumption) ?_;conv=>whnf)));exact Q5
theorem Pc (n i:Nat) (hn:n≤2048) (hi:i<n) (K:Nat):ab Tryz.prog 94 [iv (n:Nat),iv (i:Nat)] [] (.ct [.aN K 5 0 n,iv 0]) [(K,⟨52,true,.cm ((List.replicate n 0).set i 1)⟩)] []:=by
 have k1:=NC n hn 1001
 have k2:ab Tryz.prog 18 [iv 1] [] (.frac 1) [] []:=ju 1 aF aF
 have t1:decide ((i:Int)<0)=false:=decide_eq_false aa
 have t2:decide ((i:Int)≥(n:Int))=false:=decide_eq_false aa
 refine fq (Z:=[]) aL bJ Tryz.func94 rfl aB (args:=[iv (n:Nat),iv (i:Nat)]) (fk:=[]) (c:=.ct [.aN 1001 5 0 n,iv 0]) (new:=[(1001,⟨52,true,.cm ((List.replicate n 0).set i 1)⟩)]) (upd:=[]) (cu.of rfl rfl rfl rfl rfl rfl rfl rfl rfl rfl rfl) rfl (fun _=>K) bh.one ?_
 intro W0 w0 ρ0 hE
 conv=>whnf
 (repeat((first|refine ag rfl rfl ?_|refine af rfl rfl ?_|refine aX Q3 ?_|refine ay Q3 ?_|refine aS (by assumption) ?_|refine mK (by assumption) rfl ?_|refine ak jo ?_|rw[bne_self_eq_false]|refine aM t2 ?_|rw[Int.toNat_natCast]|rw[Nat.zero_add]);conv=>whnf))
 exact⟨aq.refl _,dL rfl get_nil,get_nil⟩
theorem HN (sp:List Nat) (k:Nat):(fa sp k).length≤k:=by
 have:=List.length_filter_le (fun q=>decide (q∉sp)) (List.range k)
 simpa [fa]using this
theorem Gq {sp:List Nat} {k:Nat}:((k:Int)∈sp.map pc)↔k∈sp:=by
 simp only[List.mem_map]
 constructor
 ·rintro⟨a,ha,h⟩;rw[←Int.ofNat_inj.1 (show(a:Int)=(k:Int)from h)];exact ha
 ·intro h;exact⟨k,h,rfl⟩
abbrev LZ (l:List (List Rat)):aC:=⟨54,true,.seq 1 (l.map cX)⟩
theorem HO (l:List (List Rat)) (v:List Rat):LZ (l++[v])=⟨54,true,.seq 1 (List.take l.length (l.map cX)++List.take 1 (List.drop 0 [cX v]))⟩:=by
 rw[List.take_of_length_le (by rw[List.length_map];exact Nat.le_refl _),LZ,List.map_append];rfl
theorem L0 {r m c:Nat} {M:Nat→List Rat} {sp:List Nat} {d:Rat} (hM:∀i,i<r→(M i).length=c) (hr:r≤2048) (hm:m≤2048) (hmc:m≤c) (hp:sp.length≤r) (hsp:∀j,j<sp.length→sp.getD j 0<m):
  ab Tryz.prog 229 [xZ r m c M (sp.map pc) d] [] (cT 1 cX ((fa sp m).map (HG M sp m))) [] []:=by
 have nt:(sp.map pc).length=sp.length:=List.length_map _
 have An:=sL r M
 refine gX [100011] Tryz.func229 ?_
 intro w0 ρ0 hE
 conv=>whnf
 (repeat(first|(refine ak Q6 ?_;conv=>whnf)|(refine ak Q9 ?_;conv=>whnf)|(refine ak Ff ?_;conv=>whnf)))
 refine bR (t:=2) (k:=2001) (s:=1) (blk:=LZ []) rfl rfl rfl ?_
 refine ai hE (fun k=>k) [0,2,11,12] [2001] (fun m' fr hp=>∃k n:Nat,m'=m - k∧k≤m∧n=(fa sp k).length∧fr=[(0,xZ r m c M (sp.map pc) d),(2,.aN 2001 1 0 n),(11,iv m),(12,iv k)]∧hp=[(2001,LZ ((fa sp k).map (HG M sp m)))]) m ?_ ?_ ?_
 ·kernel_rfl
 ·exact⟨0,0,rfl,Nat.zero_le _,rfl,rfl,rfl⟩
 rintro m' _ _ ⟨k,n,rfl,hk,hn,rfl,rfl⟩
 conv=>whnf
 by_cases aA:k<m
 ·have t1:=dX aA
  have t2:=bA (i:=k) aa
  have k1:=EU (sp.map pc) k (by rw[nt];omega)
  have GM:=xy sp k
  by_cases qe:k∈sp
  ·have t3:decide ((k:Int)∈sp.map pc)=true:=decide_eq_true (Gq.2 qe)
   rw[if_pos qe,List.append_nil]at GM
   rw[t3]at k1
   (repeat((first|refine ag rfl rfl ?_|refine aS (by assumption) ?_|refine aE t1 ?_|refine ak Q6 ?_|refine ak Q9 ?_|refine ak Ff ?_|rw[t1]|rw[t2]);conv=>whnf))
   exact⟨m - (k+1),fun q=>q,[0,2,11,12],[2001],aa,aB,k+1,n,rfl,aA,by rw[GM];exact hn,rfl,by rw[GM];rfl⟩
  ·have t3:decide ((k:Int)∈sp.map pc)=false:=decide_eq_false fun h=>qe (Gq.1 h)
   rw[if_neg qe]at GM
   rw[t3]at k1
   have k2:=Pc m k hm aA 2002
   have ZP:((fa sp k).map (HG M sp m)).length=n:=by rw[List.length_map];exact hn.symm
   have Iv:n≤m:=by rw[hn];exact Nat.le_trans (HN sp k) hk
   have Ym:=HO ((fa sp k).map (HG M sp m)) (HG M sp m k)
   rw[ZP]at Ym
   have hs2:(fa sp (k+1)).map (HG M sp m)=(fa sp k).map (HG M sp m)++[HG M sp m k]:=by rw[GM,List.map_append];rfl
   rw[←hs2]at Ym
   have NB:n+1=(fa sp (k+1)).length:=by rw[GM,List.length_append,←hn];rfl
   (repeat((first|refine af rfl rfl ?_|refine aS (by assumption) ?_|refine mK (by assumption) rfl ?_|refine aE t1 ?_|refine ak cO ?_|refine ak Q6 ?_|refine ak Q9 ?_|refine ak Ff ?_|rw[t1]);conv=>whnf))
   refine ai hE (fun k=>k) [0,2,3,4,11,12,33,34,35] [2001,2002] (fun m' fr hp=>∃i:Nat,m'=sp.length - i∧i≤sp.length∧fr=[(0,xZ r m c M (sp.map pc) d),(2,.aN 2001 1 0 n),(3,iv k),(4,.aN 2002 5 0 m),(11,iv m),(12,iv k),(33,cF .i64 (sp.map pc)),(34,iv sp.length),(35,iv i)]∧
    hp=[(2001,LZ ((fa sp k).map (HG M sp m))),(2002,hZ (MC M sp m k i))]) sp.length ?_ ?_ ?_
   ·kernel_rfl
   ·exact⟨0,rfl,Nat.zero_le _,by rw[←nt];rfl,rfl⟩
   rintro m' _ _ ⟨i,rfl,hi,rfl,rfl⟩
   conv=>whnf
   by_cases hip:i<sp.length
   ·have t4:=dX hip
    have t5:=bA (i:=i) aa
    have g1:(sp.map pc).getD i 0=((sp.getD i 0:Nat):Int):=by simp[List.getD_eq_getElem?_getD,hip]
    have g2:=ER (M:=M) (show i<r by omega)
    have g3:=hM i aa
    have g4:=hsp i hip
    have g5:=Ba M sp m k i
    have k3:=DU ((M i).getD k 0)
    clear k1 k2
    (repeat((first|refine aX Q3 ?_|refine ay Q3 ?_|refine aS (by assumption) ?_|refine aE t4 ?_|refine ak Ai ?_|refine ak Q6 ?_|refine ak nA ?_|refine ak Ia ?_|refine ak Q9 ?_|refine ak Ff ?_|rw[t4]|rw[t5]|rw[g1]|rw[g2]|rw[Int.toNat_natCast]|rw[Nat.zero_add]);conv=>whnf))
    exact⟨sp.length - (i+1),fun q=>q,[0,2,3,4,11,12,33,34,35],[2001,2002],aa,aB,i+1,rfl,hip,rfl,rfl⟩
   ·have t4:=ez hip
    obtain rfl:i=sp.length:=aa
    clear k1 k2
    (repeat(first|(refine aM t4 ?_;conv=>whnf)|(rw[t4];conv=>whnf)))
    refine ue 4 2002 (fun _ h=>h) rfl rfl (Ba M sp m k _).symm ?_
    refine dC hE ?_
    conv=>whnf
    (repeat(first|(refine ay Q3 ?_;conv=>whnf)|(rw[t2];conv=>whnf)))
    refine⟨m - (k+1),cx [(58,2001)],[0,2,11,12],[58],aa,aB,k+1,n+1,rfl,aA,NB,rfl, ?_⟩
    rw[Ym];rfl
 ·have t1:=ez aA
  obtain rfl:k=m:=aa
  have ZP:((fa sp k).map (HG M sp k)).length=n:=by rw[List.length_map];exact hn.symm
  (repeat(first|(refine aM t1 ?_;conv=>whnf)));exact X7
theorem Bf {E:Env} (t:Nat) (ts ks:List Nat) {fr:List (Nat×SV)} {hp:List (Nat×aC)} {m:Nat} (hW:∀b,¬E.W0 b) (ht:lk fr t=some (.ptr 1001 0 0 0)) (h1:find hp 1001=some (Rh m))
  (R5:dZ ks fr ts=true) (NB:dD ks hp ks=true) (hn3:(qG (fun k=>k) ks&&ua (fun k=>k) ks E.fx)=true) (hb:Zq ks=true) (hE:E.OK):
  ∀a w,RR E (fn fr hp) a w→RR E (fn ((t,xZ 0 m 0 (fun _=>[]) [] 1)::fp (fun k=>k) ((t,xZ 0 m 0 (fun _=>[]) [] 1)::fr) ts) (mm hp ks)) a w:=by
 intro a w hR
 have rV:∀k∈ks,k<1000:=fun k hk=>by simpa [Nat.blt_eq]using List.all_eq_true.1 hb k hk
 have r4:=pY t 1001 hW ht rfl rfl (r8 h1 (fun _ z hz=>LJ z hz) hR)
 generalize hq:fI _ 1001 _=HH at r4
 have vm:∀k∈ks,find HH k=find hp k:=fun k hk=>by
  have:=rV k hk
  rw[←hq,cn,if_neg aa,rE aa]
 have O2:gT E.fx (fun k=>k) (t::ts) ks ((t,xZ 0 m 0 (fun _=>[]) [] 1)::fr) HH=true:=by
  refine jX ?_ (by rw[nn vm];exact NB) hn3
  rw[dZ]
  simp only[lk,Nat.beq_refl]
  rw[jm R5];rfl
 have r5:=oA hE O2 r4
 rw[oo,p8 vm]at r5
 rw[fp]at r5
 simp only[lk,Nat.beq_refl]at r5
 exact r5
theorem ac4 (W:Mx):∀c,pq 0 c ⟨W,[],1⟩=⟨W,[],1⟩
 |0=>rfl
 |c+1=>by rw[sJ,ac4 W c];rfl
abbrev qc (r c:Nat) (W:Mx):St:=kP r c ⟨W,[],1⟩
abbrev ae7 (c:Nat) (a:List Rat):Mx:=ic a c fun _ _=>0
theorem sN {c:Nat} {W:Mx} {s:St} (hs:qc 0 c W=s):s.bg=[]∧s.d=1:=by
 have h:=gM 0 W c
 rw[show kP 0 c ⟨W,[],1⟩=s from hs,ac4]at h
 exact⟨h.bg,h.d⟩
theorem Pd {r n c:Nat} {w:Mx} (f:Nat) (h:f+n≤c):mk r n (fun i k=>(bZ c w i).getD (f+k) 0)=mk r n fun i k=>w i (f+k):=mk_congr fun i k _ hk=>fS aa
theorem Pe {r c A:Nat} {a:List Rat} (ha:jq r c a) (sa:Sm A a):∀i q,i<r→q<c+0→fs (ae7 c a i q)≤A:=A8 ha sa fun i k _ hk=>absurd hk (Nat.not_lt_zero _)
theorem C8 (r c:Nat) (W:Mx) {s:St} (hs:qc r c W=s):s.bg.length≤r∧∀j,j<s.bg.length→s.bg.getD j 0<c:=by
 have h:=gM r W c
 rw[show kP r c ⟨W,[],1⟩=s from hs]at h
 have hi:=Inv.red (r:=r) (W:=W) c
 exact⟨h.le,fun j hj=>by rw[h.bg]at hj ⊢;exact hi.lt j hj⟩
theorem Rj {r c:Nat} {a b:List Rat} (ha:jq r c a) (hb:b.length=r):ab Tryz.prog 232 [mA r c a,cX b] [] (iv 0) [] []:=by
 have k1:=kI ha
 have hr:=ha.r
 have t1:decide ((r:Int)>2048)=false:=decide_eq_false aa
 have t2:((r:Int) != (r:Int))=false:=bne_self_eq_false _
 refine bP [2] Tryz.func232 ?_
 intro W0 w0 ρ0 hE
 conv=>whnf
 (repeat((first|refine af rfl rfl ?_|refine aS (by assumption) ?_|rw[bne_self_eq_false]|refine aM t1 ?_|refine ak cO ?_|refine ak Q6 ?_|refine ak Q9 ?_|rw[hb]);conv=>whnf));exact Q5
theorem C9 {b:List Rat} (i k:Nat) (hi:i<b.length):ab Tryz.prog 233 ([]++([iv (i:Nat),iv (k:Nat)]++[bG [cX b]])) [] (.frac (b.getD i 0)) [] []:=by
 refine bP [] Tryz.func233 ?_
 intro W0 w0 ρ0 hE
 conv=>whnf
 (repeat(first|(refine ak Ai ?_;conv=>whnf)|(refine ak Q6 ?_;conv=>whnf)));exact Q5
def xS (M:Nat→List Rat) (sp:List Nat) (c m:Nat):Nat→List Rat
 |0=>List.replicate m 0
 |i+1=>(xS M sp c m i).set (sp.getD i 0) ((M i).getD c 0)
theorem sO (M:Nat→List Rat) (sp:List Nat) (c m:Nat):∀i,(xS M sp c m i).length=m
 |0=>by simp[xS]
 |i+1=>by rw[xS,List.length_set,sO M sp c m i]
theorem L1 {r c:Nat} {w:Mx} {sp:List Nat} {M:Nat→List Rat} (h:RE r c w sp) (hM:∀j,j<sp.length→(M j).getD c 0=w j c):
  ∀i,i≤sp.length→∀q,q<c→(xS M sp c c i).getD q 0=aH i fun j=>delta q (sp.getD j 0)*w j c
 |0,_,q,hq=>by simp[xS,aH,List.getD_eq_getElem?_getD,hq]
 |i+1,hi,q,hq=>by
  rw[xS,aH]
  have ih:=L1 h hM i aa q hq
  by_cases e:sp.getD i 0=q
  ·have hz:aH i (fun j=>delta q (sp.getD j 0)*w j c)=0:=c6 fun j hj=>by
    rw[delta,if_neg fun g=>by have:=A4 h (i:=j) (j:=i) aa aa (by rw[←g,e]);omega];grind
   rw[hz,←e,List.getD_eq_getElem?_getD,List.getElem?_set_self (by rw[sO,e];exact hq),hM i aa,delta,if_pos rfl]
   simp only[Option.getD_some];grind
  ·rw[List.getD_eq_getElem?_getD,List.getElem?_set_ne e,←List.getD_eq_getElem?_getD,ih,show delta q (sp.getD i 0)=0 from if_neg (Ne.symm e)];grind
abbrev rH (c:Nat) (a b:List Rat):Mx:=ic a c fun i _=>b.getD i 0
abbrev L2:aC:=⟨172,true,.one [.val (.slice none 0 0),.val (.slice none 0 0)]⟩
theorem Bg {r c A:Nat} {a b:List Rat} (ha:jq r c a) (sa:Sm A a) (hb:b.length=r) (sb:Sm A b):∀i q,i<r→q<c+1→fs (rH c a b i q)≤A:=A8 ha sa fun i _ hi _=>sb i aa
theorem Da {r p i:Nat} {M:Nat→List Rat} (h:p+i<r):(List.take (r - p) (List.drop p ((List.range r).map M))).getD i []=M (p+i):=by
 rw[List.take_of_length_le (by simp),List.getD_eq_getElem?_getD,List.getElem?_drop,List.getElem?_map,List.getElem?_range h];rfl
theorem Db {r p:Nat} {M:Nat→List Rat}:(List.take (r - p) (List.drop p ((List.range r).map M))).length=r - p:=by simp
theorem HP {r c A:Nat} {a b:List Rat} (ha:jq r c a) (hb:b.length=r) (hr:r≤6) (hc:c≤40) (sa:Sm A a) (sb:Sm A b) (h2:2≤A) (hA:4096*A≤4398046511104) {s:St} (hs:qc r c (rH c a b)=s)
  {j:Nat} (hj1:s.bg.length≤j) (hj2:j<r) (hj3:s.w j c≠0) (hj4:∀i,s.bg.length≤i→i<j→s.w i c=0):
  ab Tryz.prog 126 [mA r c a,cX b] [] (.ct [.agg [cX [],cT 1 cX []],iv 6]) [] []:=by
 have k1:=Rj ha hb
 have Mr:=Bg ha sa hb sb
 have An:=sL r (bZ (c+1) s.w)
 have nt:(s.bg.map pc).length=s.bg.length:=List.length_map _
 obtain⟨gp,iM⟩:=C8 r c _ hs
 refine gX [2,3,100004,100017] Tryz.func126 ?_
 intro w0 ρ0 hE
 conv=>whnf
 (repeat((first|refine af rfl rfl ?_|refine aS (by assumption) ?_|rw[bne_self_eq_false]|refine ak Q6 ?_);conv=>whnf))
 refine eM (fr1:=[(7,xZ r c (c+1) (bZ (c+1) s.w) (s.bg.map pc) s.d),(2,bG (mC r c a)),(3,bG [cX b]),(4,.ptr 4 0 0 0),(5,iv 0)]) (hp1:=[(4,L2)]) (fun K hK=> ?_) ?_
 case refine_2=>
  clear Mr hs
  conv=>whnf
  (repeat((first|refine aw aB ?_|refine ak cO ?_|refine ak Q6 ?_|refine ak Q9 ?_|refine ak Qx ?_|refine ak Ff ?_|rw[An]|rw[nt]|rw[Int.toNat_natCast]);conv=>whnf))
  generalize hTL:List.take (r - s.bg.length) (List.drop s.bg.length ((List.range r).map (bZ (c+1) s.w)))=TL
  have hTl:TL.length=r - s.bg.length:=by rw[←hTL];exact Db
  have hTg:∀i,s.bg.length+i<r→TL.getD i []=bZ (c+1) s.w (s.bg.length+i):=fun i hi=>by rw[←hTL];exact Da hi
  refine ai hE (fun k=>k) [2,4,7,33,34,35] [4] (fun m fr hp=>∃i:Nat,m=r - i∧s.bg.length+i≤j∧fr=[(2,bG (mC r c a)),(4,.ptr 4 0 0 0),(7,xZ r c (c+1) (bZ (c+1) s.w) (s.bg.map pc) s.d),(33,cT 1 cX TL),(34,iv (r - s.bg.length:Nat)),(35,iv i)]∧hp=[(4,L2)]) r ?_ ?_ ?_
  ·kernel_rfl
  ·exact⟨0,rfl,hj1,by rw[←hTl];rfl,rfl⟩
  rintro m _ _ ⟨i,rfl,hi,rfl,rfl⟩
  conv=>whnf
  have t1:=dX (show i<r - s.bg.length by omega)
  have t2:=bA (i:=i) aa
  have g1:=hTg i aa
  have g2:(bZ (c+1) s.w (s.bg.length+i)).length=c+1:=dm _ _
  have g3:(bZ (c+1) s.w (s.bg.length+i)).getD c 0=s.w (s.bg.length+i) c:=fS (Nat.lt_succ_self c)
  have k2:=qQ (s.w (s.bg.length+i) c)
  by_cases e:s.bg.length+i=j
  ·have t3:((s.w (s.bg.length+i) c).num.sign != 0)=true:=by rw[e];exact bne_iff_ne.2 fun g=>hj3 (Rat.num_eq_zero.1 (Int.sign_eq_zero_iff_zero.1 g))
   (repeat((first|refine aS (by assumption) ?_|refine aE t1 ?_|refine aE t3 ?_|refine ak Ai ?_|refine ak Q6 ?_|refine ak Ia ?_|refine ak Q9 ?_|rw[t1]|rw[g1]|rw[g3]);conv=>whnf));exact X8
  ·have t3:((s.w (s.bg.length+i) c).num.sign != 0)=false:=by rw[hj4 _ aa aa];rfl
   (repeat((first|refine aS (by assumption) ?_|refine aE t1 ?_|refine aM t3 ?_|refine ak Ai ?_|refine ak Q6 ?_|refine ak Ia ?_|refine ak Q9 ?_|rw[t1]|rw[t2]|rw[g1]|rw[g3]|rw[t3]);conv=>whnf))
   exact⟨r - (i+1),fun k=>k,[2,4,7,33,34,35],[4],aa,aB,i+1,rfl,aa,rfl,rfl⟩
 rcases(show r=0∨1≤r by omega)with e0|e0
 ·subst e0
  obtain⟨rR,x7⟩:=sN hs
  have kz:=y9 (c:=c) 1 a 233 (eS [cX b]) ha
  have k3:=pe c aa
  rw[rR,x7]at hK
  refine pb hE 100 ?_
  conv=>whnf
  (repeat((first|refine mK (by assumption) rfl ?_|refine ak Q6 ?_|refine ak uf ?_|refine xo k3 Mt an ?_);conv=>whnf))
  exact⟨_,_,Bf 7 [2,3,4,5] [4] (fun _ h=>h) rfl rfl aB aB aB rfl hE,hK⟩
 ·have k2:=CW (r:=r) 1 a (fun i _=>b.getD i 0) 233 (eS [cX b]) hr e0 ha hc aa (fun i k hi _=>C9 i k (by rw[hb];exact hi))
  have k3:=pd (r:=r) c (c+1) A (rH c a b) s hr e0 (Nat.le_add_right _ _) aa Mr h2 hA hs
  have nt:(s.bg.map pc).length=s.bg.length:=List.length_map _
  rcases(show r=1∨r=2∨r=3∨r=4∨r=5∨r=6 by omega)with e1|e1|e1|e1|e1|e1
  all_goals
   rw[e1]at k2 k3 hK
   rw[e1]
   refine pb hE 100 ?_
   conv=>whnf
   (repeat((first|refine ak Q6 ?_|refine ak uf ?_|refine⟨[],_,_,[],k2,aJ,Qy,an, ?_⟩|refine⟨Rf _ _ _ _,_,_,_,k3,Q34,Qy,fQ rfl rfl, ?_⟩|rw[Nat.zero_add]);conv=>whnf))
   exact⟨_,_,vh (M:=bZ _ s.w) 7 [2,3,4,5] [4] (fun _ h=>h) rfl rfl rfl rfl (by intro j hj;rcases(show j=0∨j=1∨j=2∨j=3∨j=4∨j=5 by omega)with e|e|e|e|e|e<;>first|omega|(subst e;exact⟨rfl,(dm _ _).symm⟩)) nt.symm aB aB aB rfl aF hE,hK⟩
theorem HQ {r c A:Nat} {a b:List Rat} (ha:jq r c a) (hb:b.length=r) (hr:r≤6) (hc:c≤40) (sa:Sm A a) (sb:Sm A b) (h2:2≤A) (hA:4096*A≤4398046511104) {s:St} (hs:qc r c (rH c a b)=s)
  (hz:∀i,s.bg.length≤i→i<r→s.w i c=0):
  ab Tryz.prog 126 [mA r c a,cX b] [] (.ct [.agg [cX (xS (bZ (c+1) s.w) s.bg c c s.bg.length),cT 1 cX ((fa s.bg c).map (HG (bZ (c+1) s.w) s.bg c))],iv 0]) [] []:=by
 have k1:=Rj ha hb
 have Mr:=Bg ha sa hb sb
 have An:=sL r (bZ (c+1) s.w)
 have nt:(s.bg.map pc).length=s.bg.length:=List.length_map _
 obtain⟨gp,iM⟩:=C8 r c _ hs
 refine gX [2,3,100004,100017] Tryz.func126 ?_
 intro w0 ρ0 hE
 conv=>whnf
 (repeat((first|refine af rfl rfl ?_|refine aS (by assumption) ?_|rw[bne_self_eq_false]|refine ak Q6 ?_);conv=>whnf))
 refine eM (fr1:=[(7,xZ r c (c+1) (bZ (c+1) s.w) (s.bg.map pc) s.d),(2,bG (mC r c a)),(3,bG [cX b]),(4,.ptr 4 0 0 0),(5,iv 0)]) (hp1:=[(4,L2)]) (fun K hK=> ?_) ?_
 case refine_2=>
  have k4:=L0 (r:=r) (m:=c) (c:=c+1) (M:=bZ (c+1) s.w) (sp:=s.bg) (d:=s.d) (fun i _=>dm _ _) aa aa aa gp iM
  clear Mr hs
  conv=>whnf
  (repeat((first|refine aw aB ?_|refine ak cO ?_|refine ak Q6 ?_|refine ak Q9 ?_|refine ak Qx ?_|refine ak Ff ?_|rw[An]|rw[nt]|rw[Int.toNat_natCast]);conv=>whnf))
  generalize hTL:List.take (r - s.bg.length) (List.drop s.bg.length ((List.range r).map (bZ (c+1) s.w)))=TL
  have hTl:TL.length=r - s.bg.length:=by rw[←hTL];exact Db
  have hTg:∀i,s.bg.length+i<r→TL.getD i []=bZ (c+1) s.w (s.bg.length+i):=fun i hi=>by rw[←hTL];exact Da hi
  refine ai hE (fun k=>k) [2,4,7,33,34,35] [4] (fun m fr hp=>∃i:Nat,m=r - i∧s.bg.length+i≤r∧fr=[(2,bG (mC r c a)),(4,.ptr 4 0 0 0),(7,xZ r c (c+1) (bZ (c+1) s.w) (s.bg.map pc) s.d),(33,cT 1 cX TL),(34,iv (r - s.bg.length:Nat)),(35,iv i)]∧hp=[(4,L2)]) r ?_ ?_ ?_
  ·kernel_rfl
  ·exact⟨0,rfl,aa,by rw[←hTl];rfl,rfl⟩
  rintro m _ _ ⟨i,rfl,hi,rfl,rfl⟩
  conv=>whnf
  by_cases aA:i<r - s.bg.length
  ·have t1:=dX aA
   have t2:=bA (i:=i) aa
   have g1:=hTg i aa
   have g2:(bZ (c+1) s.w (s.bg.length+i)).length=c+1:=dm _ _
   have g3:(bZ (c+1) s.w (s.bg.length+i)).getD c 0=s.w (s.bg.length+i) c:=fS (Nat.lt_succ_self c)
   have k2:=qQ (s.w (s.bg.length+i) c)
   have t3:((s.w (s.bg.length+i) c).num.sign != 0)=false:=by rw[hz _ aa aa];rfl
   (repeat((first|refine aS (by assumption) ?_|refine aE t1 ?_|refine aM t3 ?_|refine ak Ai ?_|refine ak Q6 ?_|refine ak Ia ?_|refine ak Q9 ?_|rw[t1]|rw[t2]|rw[g1]|rw[g3]|rw[t3]);conv=>whnf))
   exact⟨r - (i+1),fun k=>k,[2,4,7,33,34,35],[4],aa,aB,i+1,rfl,aa,rfl,rfl⟩
  ·have t1:=ez aA
   (repeat((first|refine ay Q3 ?_|refine aM t1 ?_|refine ak cO ?_|refine ak Q6 ?_|refine ak Q9 ?_|refine ak Ff ?_|rw[t1]|rw[nt]|rw[Int.toNat_natCast]);conv=>whnf))
   generalize hM:bZ (c+1) s.w=M at*
   refine ai hE (fun k=>k) [2,4,7,10,54,55,56] [4,50] (fun m fr hp=>∃i:Nat,m=s.bg.length - i∧i≤s.bg.length∧fr=[(2,bG (mC r c a)),(4,.ptr 4 0 0 0),(7,xZ r c (c+1) M (s.bg.map pc) s.d),(10,.aN 50 5 0 c),(54,cF .i64 (s.bg.map pc)),(55,iv s.bg.length),(56,iv i)]∧hp=[(4,L2),(50,hZ (xS M s.bg c c i))]) s.bg.length ?_ ?_ ?_
   ·kernel_rfl
   ·exact⟨0,rfl,Nat.zero_le _,rfl,rfl⟩
   rintro m _ _ ⟨j,rfl,hj,rfl,rfl⟩
   conv=>whnf
   by_cases hjt:j<s.bg.length
   ·have t4:=dX hjt
    have t5:=bA (i:=j) aa
    have g1:(s.bg.map pc).getD j 0=((s.bg.getD j 0:Nat):Int):=by simp[List.getD_eq_getElem?_getD,hjt]
    have g2:=ER (M:=M) (show j<r by omega)
    have g3:(M j).length=c+1:=by rw[←hM];exact dm _ _
    have g4:=iM j hjt
    have g5:=sO M s.bg c c j
    clear k4 k1
    (repeat((first|refine aw aB ?_|refine aX Q3 ?_|refine ay Q3 ?_|refine aE t4 ?_|refine ak Ai ?_|refine ak Q6 ?_|refine ak nA ?_|refine ak Ia ?_|refine ak Q9 ?_|refine ak Ff ?_|rw[t4]|rw[t5]|rw[g1]|rw[g2]|rw[Int.toNat_natCast]|rw[Nat.zero_add]);conv=>whnf))
    exact⟨s.bg.length - (j+1),fun k=>k,[2,4,7,10,54,55,56],[4,50],aa,aB,j+1,rfl,hjt,rfl,rfl⟩
   ·have t4:=ez hjt
    obtain rfl:j=s.bg.length:=aa
    (repeat(first|(refine aM t4 ?_;conv=>whnf)|(rw[t4];conv=>whnf)))
    refine ue 10 50 (fun _ h=>h) rfl rfl (sO M s.bg c c _).symm ?_
    refine dC hE ?_
    conv=>whnf
    (repeat(first|(refine aS (by assumption) ?_;conv=>whnf)));exact Q5
 rcases(show r=0∨1≤r by omega)with e0|e0
 ·subst e0
  obtain⟨rR,x7⟩:=sN hs
  have kz:=y9 (c:=c) 1 a 233 (eS [cX b]) ha
  have k3:=pe c aa
  rw[rR,x7]at hK
  refine pb hE 100 ?_
  conv=>whnf
  (repeat((first|refine mK (by assumption) rfl ?_|refine ak Q6 ?_|refine ak uf ?_|refine xo k3 Mt an ?_);conv=>whnf))
  exact⟨_,_,Bf 7 [2,3,4,5] [4] (fun _ h=>h) rfl rfl aB aB aB rfl hE,hK⟩
 ·have k2:=CW (r:=r) 1 a (fun i _=>b.getD i 0) 233 (eS [cX b]) hr e0 ha hc aa (fun i k hi _=>C9 i k (by rw[hb];exact hi))
  have k3:=pd (r:=r) c (c+1) A (rH c a b) s hr e0 (Nat.le_add_right _ _) aa Mr h2 hA hs
  have nt:(s.bg.map pc).length=s.bg.length:=List.length_map _
  rcases(show r=1∨r=2∨r=3∨r=4∨r=5∨r=6 by omega)with e1|e1|e1|e1|e1|e1
  all_goals
   rw[e1]at k2 k3 hK
   rw[e1]
   refine pb hE 100 ?_
   conv=>whnf
   (repeat((first|refine ak Q6 ?_|refine ak uf ?_|refine⟨[],_,_,[],k2,aJ,Qy,an, ?_⟩|refine⟨Rf _ _ _ _,_,_,_,k3,Q34,Qy,fQ rfl rfl, ?_⟩|rw[Nat.zero_add]);conv=>whnf))
   exact⟨_,_,vh (M:=bZ _ s.w) 7 [2,3,4,5] [4] (fun _ h=>h) rfl rfl rfl rfl (by intro j hj;rcases(show j=0∨j=1∨j=2∨j=3∨j=4∨j=5 by omega)with e|e|e|e|e|e<;>first|omega|(subst e;exact⟨rfl,(dm _ _).symm⟩)) nt.symm aB aB aB rfl aF hE,hK⟩
theorem Inv.agree {r c:Nat} {W:Mx} {s t:St} (h:Inv r W c t) (ha:Gh r s t):Inv r W c s:=by
 obtain⟨sw,sp,sd⟩:=s
 obtain⟨tw,tp,td⟩:=t
 obtain⟨rfl,rfl,hw,hl⟩:=ha
 simp only at hw hl
 obtain⟨P,hP,hP2⟩:=h.Rb
 exact⟨h.len,h.lt,h.inc,fun j hj i hi=>by show sw i _=_;rw[hw i hi];exact h.unit j hj i hi,fun i hi q hq=>by show sw i q=0;rw[hw i (Nat.lt_of_lt_of_le hi h.len)];exact h.left i hi q hq,
  fun i h1 h2 q hq=>by show sw i q=0;rw[hw i h2];exact h.low i h1 h2 q hq,P,hP,fun i hi q=>by show sw i q=_;rw[hw i hi];exact hP2 i hi q⟩
theorem xA (r c:Nat) (W:Mx):Inv r W c (qc r c W):=(Inv.red (r:=r) (W:=W) c).agree (gM r W c)
theorem L3 {r c A k:Nat} {s:St} (h:Rd r c A s) (hl:s.bg.length≤r) (hk:k<c):Rd r c A (gi r s k):=by
 obtain⟨sw,sp,sd⟩:=s
 replace hl:sp.length≤r:=hl
 unfold gi
 simp only
 cases hq:iq sw k (r - sp.length) sp.length with
 |none=>exact h
 |some i=>have hs:=oY hq;exact h.step hk aa aa
theorem Gr {r c A:Nat} {W:Mx} (hA:∀i q,i<r→q<c→fs (W i q)≤A) (h2:2≤A):∀m,m≤c→Rd r c A (qc r m W)
 |0,_=>⟨fun i q hi hq=>by show fs (W i q)≤4^0*A;rw[Nat.pow_zero,Nat.one_mul];exact hA i q hi hq,by show fs 1≤4^0*A;rw[Nat.pow_zero,Nat.one_mul,Ao];exact h2⟩
 |m+1,hm=>by
  show Rd r c A (kP r (m+1) ⟨W,[],1⟩)
  rw[nm]
  exact L3 (Gr hA h2 m aa) (gM r W m).le hm
theorem Pf {p r:Nat} (A:Nat) (h:p≤r) (hr:r≤6):4^p*A≤4096*A:=Nat.mul_le_mul_right A (Nat.pow_le_pow_right (n:=4) aF (show p≤6 by omega))
theorem xB {r m c A:Nat} {W:Mx} (hA:∀i q,i<r→q<c→fs (W i q)≤A) (h2:2≤A) (hr:r≤6) (hm:m≤c):(∀i q,i<r→q<c→fs ((qc r m W).w i q)≤4096*A)∧fs (qc r m W).d≤4096*A:=by
 have h:=Gr hA h2 m hm
 have hl:=Pf A (gM r W m).le hr
 exact⟨fun i q hi hq=>Nat.le_trans (h.w i q hi hq) hl,Nat.le_trans h.d hl⟩
theorem sP {r c:Nat} {a:List Rat} {b:Mx}:∀i q,i<r→q<c→ic a c b i q=el a c i q:=fun i q _ hq=>by unfold ic;rw[if_pos hq]
theorem L4 {c i k:Nat} {a:List Rat} {b:Mx}:ic a c b i (c+k)=b i k:=by unfold ic;rw[if_neg aa,Nat.add_sub_cancel_left]
theorem L5 {c i:Nat} {a b:List Rat}:rH c a b i c=b.getD i 0:=L4 (k:=0)
section
variable {r c A:Nat} {a:List Rat} (ha:jq r c a) (hr:r≤6) (hc:c≤40) (sa:Sm A a) (h2:2≤A) (hA:4096*A≤4398046511104)
include ha hr sa h2
omit sa h2
include hc sa h2 hA
section
variable {b:List Rat} (hb:b.length=r) (sb:Sm A b)
include hb sb
theorem Dc (hx:∃x,vj r c a b x):∃X:List Rat,X.length=c∧Sm (4096*A) X∧vj r c a b (fun q=>X.getD q 0)∧(∀q,q<c→q∉sM r c a→X.getD q 0=0)∧
  ab Tryz.prog 126 [mA r c a,cX b] [] (.ct [.agg [cX X,cT 1 cX (KL r c a)],iv 0]) [] []:=by
 have hi:=xA r c (rH c a b)
 have QV:∀i,i<r→rH c a b i c=b.getD i 0:=fun i _=>L5
 have hz:=(Gk hi sP QV).2 hx
 have k:=HQ ha hb hr hc sa sb h2 hA rfl hz
 have hg:=fun q hq=>L1 (M:=bZ (c+1) (qc r c (rH c a b)).w) hi.re (fun j _=>fS (Nat.lt_succ_self c)) _ (Nat.le_refl _) q hq
 obtain⟨h3,h4⟩:=ac2 hi sP QV hz (x:=fun q=>(xS (bZ (c+1) (qc r c (rH c a b)).w) (qc r c (rH c a b)).bg c c (qc r c (rH c a b)).bg.length).getD q 0) hg
 have ir:=(xB (r:=r) (m:=c) (Bg ha sa hb sb) h2 hr (Nat.le_succ c)).1
 refine⟨_,sO _ _ _ _ _, ?_,h3,h4, ?_⟩
 ·intro q hq
  rw[sO]at hq
  have e:=hg q hq
  rw[e]
  rcases LU hi.re q with h|⟨j,hj,h⟩
  ·rw[show aH _ _=(0:Rat)from h,mU];omega
  ·rw[show aH _ _=(qc r c (rH c a b)).w j c from h];exact ir j c hj (Nat.lt_succ_self c)
 ·rwa [ac1 hi sP fun j _ k hk=>fS aa]at k
theorem L6 (hx:¬∃x,vj r c a b x):ab Tryz.prog 126 [mA r c a,cX b] [] (.ct [.agg [cX [],cT 1 cX []],iv 6]) [] []:=by
 obtain⟨j,h1,h3,h4,h5⟩:=HK (xA r c (rH c a b)) sP (fun i _=>L5) hx
 exact HP ha hb hr hc sa sb h2 hA rfl h1 h3 h4 h5
end
end
theorem EV {r:Nat} {a one:List Rat} (h1:jq r r one) (i k:Nat) (hi:i<r) (hk:k<r):ab Tryz.prog 235 ([]++([iv (i:Nat),iv (k:Nat)]++[bG (mC r r one),bG (mC r r a)])) [] (.frac (el one r i k)) [] []:=by
 obtain⟨t1,t2⟩:=kJ (i:=i) (k:=k) (c:=r) (by have:=h1.r;omega) h1.c (by have:=h1.c;omega)
 have aA:=dN hi hk
 rw[←h1.n]at aA
 refine bP [] Tryz.func235 ?_
 intro W0 w0 ρ0 hE
 conv=>whnf
 (repeat((first|refine ak Q6 ?_|refine ak Q29 ?_|refine ak Q9 ?_|rw[t1]|rw[t2]|rw[Int.toNat_natCast]);conv=>whnf));exact Q5
abbrev L7 (r:Nat) (a:List Rat):Mx:=ic a r (el (ig r) r)
theorem Gs {r A:Nat} {a:List Rat} (ha:jq r r a) (sa:Sm A a) (h2:2≤A):∀i q,i<r→q<r+r→fs (L7 r a i q)≤A:=A8 ha sa fun i k hi hk=>by
 rw[vi hi hk,delta]
 split
 ·rw[Ao];exact h2
 ·rw[mU];exact h2
theorem Dd {r A:Nat} {a:List Rat} (ha:jq r r a) (hr:r≤6) (sa:Sm A a) (h2:2≤A) (hA:4096*A≤4398046511104) {s:St} (hs:qc r r (L7 r a)=s) (hp:s.bg.length=r):
  ab Tryz.prog 129 [mA r r a] [] (.ct [mA r r (O8 r s),iv 0]) [] []:=by
 have k1:=CZ ha
 have o1:=QQ r ha.r
 have ho:jq r r (ig r):=KA ha.r ha.r
 have Mr:=Gs ha sa h2
 have hc:r≤40:=aa
 have An:=sL r (bZ (r+r) s.w)
 have nt:(s.bg.map pc).length=s.bg.length:=List.length_map _
 refine gX [1,100005,100006] Tryz.func129 ?_
 intro w0 ρ0 hE
 conv=>whnf
 (repeat((first|refine af rfl rfl ?_|refine aS (by assumption) ?_|rw[bne_self_eq_false]|refine ak Q6 ?_|refine ak Q9 ?_);conv=>whnf))
 refine uu 5 5 (fun _ h=>h) rfl rfl rfl ?_
 refine eM (fr1:=[(7,xZ r r (r+r) (bZ (r+r) s.w) (s.bg.map pc) s.d),(1,bG (mC r r a)),(2,.ptr 2 0 0 0),(3,iv 0),(5,bG (mC r r (ig r)))]) (hp1:=[(2,zM)]) (fun K hK=> ?_) ?_
 case refine_2=>
  have t1:decide ((s.bg.length:Int)<(r:Int))=false:=decide_eq_false aa
  have t2:IntKind.i64.wrap (2*(r:Int))=((r+r:Nat):Int):=by rw[wrap_i64 aa aa];omega
  have k4:=Zr (r:=r) (m:=r) (c:=r+r) (n:=r) (M:=bZ (r+r) s.w) (pv:=s.bg.map pc) (d:=s.d) (fun i _=>dm _ _) r (Nat.le_refl _) aa aa
  rw[Pd r (Nat.le_refl _)]at k4
  replace k4:ab Tryz.prog 224 [xZ r r (r+r) (bZ (r+r) s.w) (s.bg.map pc) s.d,iv r,iv ((r+r:Nat):Int)] [] (mA r r (O8 r s)) [] []:=k4
  clear Mr hs
  conv=>whnf
  skip
  refine dC hE ?_
  conv=>whnf
  (repeat((first|refine aw aB ?_|refine aS (by assumption) ?_|refine aM t1 ?_|refine ak cO ?_|refine ak Q6 ?_|refine ak Q9 ?_|refine ak Ff ?_|rw[nt]|rw[t1]|rw[t2]);conv=>whnf));exact Q5
 rcases(show r=0∨1≤r by omega)with e0|e0
 ·subst e0
  obtain⟨rR,x7⟩:=sN hs
  have kz:=HF (c:=0) 0 a 235 (eS (mC (0:Nat) (0:Nat) (ig 0))) (eS (mC (0:Nat) (0:Nat) a)) ha
  have k3:=pe 0 aa
  rw[rR,x7]at hK
  refine pb hE 100 ?_
  conv=>whnf
  (repeat((first|refine mK (by assumption) rfl ?_|refine ak Q6 ?_|refine ak Q9 ?_|refine ak uf ?_|refine xo k3 Mt an ?_);conv=>whnf))
  exact⟨_,_,Bf 7 [1,2,3,5] [2] (fun _ h=>h) rfl rfl aB aB aB rfl hE,hK⟩
 ·have k2:=LF (r:=r) r a (el (ig r) r) 235 (eS (mC r r (ig r))) (eS (mC r r a)) hr e0 ha aa aa (fun i k hi hk=>EV ho i k hi hk)
  have k3:=pd (r:=r) r (r+r) A (L7 r a) s hr e0 (Nat.le_add_right _ _) aa Mr h2 hA hs
  have nt:(s.bg.map pc).length=s.bg.length:=List.length_map _
  rcases(show r=1∨r=2∨r=3∨r=4∨r=5∨r=6 by omega)with e1|e1|e1|e1|e1|e1
  all_goals
   rw[e1]at k2 k3 hK
   rw[e1]
   refine pb hE 100 ?_
   conv=>whnf
   (repeat((first|refine ak Q6 ?_|refine ak Q9 ?_|refine ak uf ?_|refine⟨[],_,_,[],k2,aJ,Qy,an, ?_⟩|refine⟨Rf _ _ _ _,_,_,_,k3,Q34,Qy,fQ rfl rfl, ?_⟩|rw[Nat.zero_add]);conv=>whnf))
   exact⟨_,_,vh (M:=bZ _ s.w) 7 [1,2,3,5] [2] (fun _ h=>h) rfl rfl rfl rfl (by intro j hj;rcases(show j=0∨j=1∨j=2∨j=3∨j=4∨j=5 by omega)with e|e|e|e|e|e<;>first|omega|(subst e;exact⟨rfl,(dm _ _).symm⟩)) nt.symm aB aB aB rfl aF hE,hK⟩
section
variable {r A:Nat} {a:List Rat} (ha:jq r r a) (hr:r≤6) (sa:Sm A a) (h2:2≤A) (hA:4096*A≤4398046511104)
include ha hr sa h2 hA
theorem EW (hd:bH r (el a r)≠0):∃B:List Rat,B.length=r*r∧Sm (4096*A) B∧qY r r r B a=ig r∧ab Tryz.prog 129 [mA r r a] [] (.ct [mA r r B,iv 0]) [] []:=by
 have hi:=xA r r (L7 r a)
 have hp:(qc r r (L7 r a)).bg.length=r:=hi.full.2 fun g=>hd ((aO fun i k _ hk=>sP (r:=r) i k aa hk).symm.trans g)
 refine⟨_,dx ..,wL fun i k h1 h3=>(xB (c:=r+r) (Gs ha sa h2) h2 hr (Nat.le_add_right _ _)).1 i (r+k) h1 aa,HJ hi hp (fun i k h1 h3=> ?_) sP,Dd ha hr sa h2 hA rfl hp⟩
 show ic a r (el (ig r) r) i (r+k)=_
 rw[L4,vi h1 h3]
end
theorem Zx {n A:Nat} {a:List Rat} (ha:jq n n a) (hn:n≤6) (sa:Sm A a) (h2:2≤A):fs (bH n (el a n))≤4096*A:=by
 have hd:=C0 (ic a n fun _ _=>0) (s:=kP n n ⟨ic a n fun _ _=>0,[],1⟩) rfl
 rw[Gi _ _ (Nat.le_refl _)]at hd
 rw[←hd]
 split
 ·rw[mU];omega
 ·exact(xB (c:=n) (Pe ha sa) h2 hn (Nat.le_refl n)).2
end Go.Proofs.YtfpagioknjjacaaGreatDoor
