/- The texts Qk, Qn, Md. -/
import Derived.Test.YtfpagioknjjacaaGreatDoorQMModesCount17
import Derived.Test.YtfpagioknjjacaaGreatDoorQMModesCount13
import Derived.Test.YtfpagioknjjacaaGreatDoorQMModesCount6
namespace Go.Sx
set_option linter.unusedSimpArgs false
set_option linter.unusedVariables false
section
variable {E:Env} {fr:List (Nat×SV)} {a:Act} {W:World}
theorem Oh {jj pp k n:Nat} {tj ty:TypeId} {wj:Bool} {cs:List SV} {hp:List (Nat×aA)} {qs:List Rat} (hW:∀b,¬E.W0 b) (hjf:find hp jj=some ⟨tj,wj,.one cs⟩) (C8:jj≠k) (hpc:cs[pp]? =some (.aK k 5 0 n)) (hk:find hp k=some ⟨ty,true,.cd qs⟩) (hn:n=qs.length)
  (hR:RR E (fn fr hp) a W):RR E (fn fr ((jj,⟨tj,wj,.one (cs.set pp (cD qs))⟩)::eD hp k ⟨ty,true,.dead⟩)) a W:=by
 have:=qR jj pp k (xs:=qs.map .frac) hW hjf C8 hpc hk rfl rfl (bT (fun _=>rfl) qs) (by simp;omega) hR
 rwa [gU (by simp;omega)]at this
theorem Oi {jj pp k n:Nat} {tj ty:TypeId} {wj:Bool} {cs:List SV} {hp:List (Nat×aA)} {kd:IntKind} {xs:List Int} (hW:∀b,¬E.W0 b) (hjf:find hp jj=some ⟨tj,wj,.one cs⟩) (C8:jj≠k) (hpc:cs[pp]? =some (.aK k 1 0 n)) (hk:find hp k=some ⟨ty,true,.ints kd xs⟩) (hn:n=xs.length)
  (hR:RR E (fn fr hp) a W):RR E (fn fr ((jj,⟨tj,wj,.one (cs.set pp (mc kd xs))⟩)::eD hp k ⟨ty,true,.dead⟩)) a W:=by
 have:=qR jj pp k (xs:=xs.map (iF kd)) hW hjf C8 hpc hk rfl rfl (bT (fun _=>rfl) xs) (by simp;omega) hR
 rwa [gU (by simp;omega)]at this
theorem Fa {jj pp k n:Nat} {tj ty:TypeId} {wj:Bool} {cs xs:List SV} {hp:List (Nat×aA)} (hW:∀b,¬E.W0 b) (hjf:find hp jj=some ⟨tj,wj,.one cs⟩) (C8:jj≠k) (hpc:cs[pp]? =some (.aK k 1 0 n)) (hk:find hp k=some ⟨ty,true,.seq 1 xs⟩) (od:aV xs=true) (hn:n=xs.length)
  (hR:RR E (fn fr hp) a W):RR E (fn fr ((jj,⟨tj,wj,.one (cs.set pp (ed 1 xs))⟩)::eD hp k ⟨ty,true,.dead⟩)) a W:=by
 have:=qR jj pp k (xs:=xs) hW hjf C8 hpc hk rfl rfl od aa hR
 rwa [gU aa]at this
theorem jV {j k:Nat} {b:aA} {hp:List (Nat×aA)} (h:k≠j):find ((j,b)::hp) k=find hp k:=by
 rw[find]
 cases hb:Nat.beq j k with
 |true=>exact absurd (Nat.eq_of_beq_eq_true hb).symm h
 |false=>rfl
theorem Fb {hp l:List (Nat×aA)} {k:Nat} {b:aA} (h:find hp k=none) (r:∀j c,(j,c)∈l→find hp j=none):∀j c,(j,c)∈(k,b)::l→find hp j=none:=by
 intro j c hm
 rcases List.mem_cons.1 hm with e|e
 ·cases e;exact h
 ·exact r j c e
theorem pj {tj ty:TypeId} {c:Nat} {M:Nat→List Rat} (hW:∀b,¬E.W0 b):∀(n j0:Nat) (cs:List SV) (hp:List (Nat×aA)),find hp 1002=some ⟨tj,true,.one cs⟩→(∀j,j0≤j→j<j0+n→cs[j]? =some (.aK (1010+j) 5 0 c))→
  (∀j,j0≤j→j<j0+n→find hp (1010+j)=some ⟨ty,true,.cd (M j)⟩∧c=(M j).length)→RR E (fn fr hp) a W→
  ∃bW cs',RR E (fn fr bW) a W∧find bW 1002=some ⟨tj,true,.one cs'⟩∧cs'.length=cs.length∧(∀j,cs'[j]? =if j0≤j∧j<j0+n then some (cD (M j))else cs[j]?)∧∀k,k≠1002→(∀j,j0≤j→j<j0+n→k≠1010+j)→find bW k=find hp k
 |0,j0,cs,hp,h1,_,_,hR=>⟨hp,cs,hR,h1,rfl,fun j=>by rw[if_neg aa],fun _ _ _=>rfl⟩
 |n+1,j0,cs,hp,h1,h2,h3,hR=>by
  obtain⟨h4,h5⟩:=h3 j0 (Nat.le_refl _) aa
  have h6:=Oh (pp:=j0) hW h1 aa (h2 j0 (Nat.le_refl _) aa) h4 h5 hR
  have f1:find ((1002,(⟨tj,true,.one (cs.set j0 (cD (M j0)))⟩:aA))::eD hp (1010+j0) ⟨ty,true,.dead⟩) 1002=some ⟨tj,true,.one (cs.set j0 (cD (M j0)))⟩:=rfl
  have f2:∀k,k≠1002→find ((1002,(⟨tj,true,.one (cs.set j0 (cD (M j0)))⟩:aA))::eD hp (1010+j0) ⟨ty,true,.dead⟩) k=if k=1010+j0 then some ⟨ty,true,.dead⟩else find hp k:=fun k hk=>by
   rw[jV hk,bN]
  have aI:j0<cs.length:=(List.getElem?_eq_some_iff.1 (h2 j0 (Nat.le_refl _) aa)).1
  obtain⟨bW,cs',g1,g2,g3,g4,g5⟩:=pj hW n (j0+1) _ _ f1 (fun j hj1 UT=>by rw[List.getElem?_set_ne aa];exact h2 j aa aa) (fun j hj1 UT=>by rw[f2 _ aa,if_neg aa];exact h3 j aa aa) h6
  refine⟨bW,cs',g1,g2,by rw[g3,List.length_set],fun j=> ?_,fun k hk hj=> ?_⟩
  ·rw[g4 j]
   by_cases e1:j0+1≤j∧j<j0+1+n
   ·rw[if_pos e1,if_pos aa]
   ·rw[if_neg e1]
    by_cases e2:j=j0
    ·subst e2
     rw[if_pos aa,List.getElem?_set_self aI]
    ·rw[if_neg aa,List.getElem?_set_ne (Ne.symm e2)]
  ·rw[g5 k hk (fun j h1 h2=>hj j aa aa),f2 k hk,if_neg (hj j0 (Nat.le_refl _) aa)]
end
theorem jy {ks:List Nat} {fr:List (Nat×SV)} {t:Nat} {p:Pred}:∀{ts:List Nat},dP ks fr ts=true→dP ks ((t,.atom p)::fr) ts=true
 |[],_=>rfl
 |u::r,h=>by
  rw[dP]at h ⊢
  rw[lk]
  cases hb:Nat.beq t u with
  |true=>
   simp only
   have:dP ks fr r=true:=by
    cases hl:lk fr u with
    |none=>rw[hl]at h;exact h
    |some c=>rw[hl]at h;simp only[Bool.and_eq_true]at h;exact h.2
   rw[jy this];rfl
  |false=>
   simp only
   cases hl:lk fr u with
   |none=>rw[hl]at h;exact jy h
   |some c=>rw[hl]at h;simp only[Bool.and_eq_true]at h ⊢;exact⟨h.1,jy h.2⟩
theorem qT {hp bW:List (Nat×aA)}:∀{ks:List Nat},(∀k∈ks,find bW k=find hp k)→mV bW ks=mV hp ks
 |[],_=>rfl
 |k::r,h=>by rw[mV,mV,h k (List.mem_cons_self ..),qT fun j hj=>h j (List.mem_cons_of_mem _ hj)]
theorem n7 {hp bW:List (Nat×aA)} {ks:List Nat}:∀{l:List Nat},(∀k∈l,find bW k=find hp k)→dm ks bW l=dm ks hp l
 |[],_=>rfl
 |k::r,h=>by rw[dm,dm,h k (List.mem_cons_self ..),n7 fun j hj=>h j (List.mem_cons_of_mem _ hj)]
end Go.Sx
namespace Go.Proofs.YtfpagioknjjacaaGreatDoor
open Go.Sx
set_option linter.unusedSimpArgs false
set_option linter.unusedVariables false
set_option maxRecDepth 100000
set_option maxHeartbeats 40000000
abbrev wCs (r m c:Nat) (M:Nat→List Rat) (pv:List Int) (d:Rat):List SV:=[bX 1 cD ((List.range r).map M),iv m,mc .i64 pv,.frac d]
abbrev wkA (r m c:Nat) (M:Nat→List Rat) (pv:List Int) (d:Rat):SV:=cx (wCs r m c M pv d)
def acg (l:List Nat):Bool:=l.all fun k=>Nat.blt k 1000
theorem RO {E:Env} (t:Nat) (ts ks:List Nat) {fr:List (Nat×SV)} {hp:List (Nat×aA)} {r m c p:Nat} {M:Nat→List Rat} {pv:List Int} {d:Rat} (hW:∀b,¬E.W0 b) (ht:lk fr t=some (.ptr 1001 0 0 0)) (h1:find hp 1001=some (wkB true r m p d)) (h2:find hp 1002=some (E3 true (ib r c))) (h3:find hp 1003=some (pvB true pv))
  (h4:∀j,j<r→find hp (1010+j)=some (uN true (M j))∧c=(M j).length) (h5:p=pv.length) (Lf:dP ks fr ts=true) (hn2:dm ks hp ks=true) (hn3:(rI (fun k=>k) ks&&vf (fun k=>k) ks E.fx)=true) (hb:acg ks=true) (hr:r≤1000) (hE:E.OK):
  ∀a w,RR E (fn fr hp) a w→RR E (fn ((t,wkA r m c M pv d)::eW (fun k=>k) ((t,wkA r m c M pv d)::fr) ts) (mV hp ks)) a w:=by
 intro a w hR
 have qx:∀k∈ks,k<1000:=fun k hk=>by simpa [Nat.blt_eq]using List.all_eq_true.1 hb k hk
 obtain⟨Fz,cs1,g1,g2,g3,g4,g5⟩:=pj (M:=M) hW r 0 (ib r c) hp h2 (fun j _ hj=>by simp[List.getElem?_map,List.getElem?_range (show j<r by omega)]) (fun j _ hj=>h4 j aa) hR
 have zr:cs1=((List.range r).map M).map cD:=by
  refine List.ext_getElem? fun j=> ?_
  rw[g4 j]
  by_cases hj:j<r
  ·rw[if_pos ⟨Nat.zero_le _,aa⟩];simp[List.getElem?_map,List.getElem?_range hj]
  ·rw[if_neg aa];simp[List.getElem?_map,List.getElem?_eq_none (show(List.range r).length≤j by simp;omega)]
 have od:aV cs1=true:=by rw[zr];exact bT (fun _=>rfl) _
 have haw:oH 1 cs1=true:=by
  rw[zr]
  generalize (List.range r).map M=L
  induction L with
  |nil=>rfl
  |cons x L ih=>rw[List.map_cons,oH,ih];rfl
 have r1:=E7 g2 od haw g1
 have q1:∀k,k≠1002→find ((1002,(⟨36,true,.seq 1 cs1⟩:aA))::Fz) k=find Fz k:=fun k hk=>by
  exact jV hk
 have gJ:r=cs1.length:=by rw[g3];simp
 have r2:=Fa (jj:=1001) (pp:=0) (k:=1002) (n:=r) hW (by rw[q1 _ aH,g5 _ aH (fun j _ _=>aa)];exact h1) aH rfl (show find _ 1002=some ⟨36,true,.seq 1 cs1⟩from rfl) od gJ r1
 have r3:=Oi (jj:=1001) (pp:=2) (k:=1003) (n:=p) (kd:=.i64) (xs:=pv) hW (show find _ 1001=some _ from rfl) aH rfl (show find _ 1003=some (pvB true pv) by
  show find (eD _ 1002 _) 1003=_
  rw[bN,if_neg aH,q1 _ aH,g5 _ aH (fun j _ _=>aa)];exact h3) h5 r2
 have r4:=nY t 1001 hW ht (show find _ 1001=some _ from rfl) (by simp[aV,bA,List.set]) r3
 rw[zr]at r4
 have e4:List.set (List.set [.aK 1002 1 0 r,iv m,.aK 1003 1 0 p,.frac d] 0 (ed 1 (((List.range r).map M).map cD))) 2 (mc .i64 pv)=wCs r m c M pv d:=rfl
 rw[e4]at r4
 generalize hq:eD _ 1001 _=HH at r4
 have wT:∀k∈ks,find HH k=find hp k:=fun k hk=>by
  have:=qx k hk
  rw[←hq,bN,if_neg aa,jV aa,bN,if_neg aa,jV aa,bN,if_neg aa,←zr,q1 _ aa,g5 _ aa (fun j _ _=>aa)]
 have GC:gP E.fx (fun k=>k) (t::ts) ks ((t,wkA r m c M pv d)::fr) HH=true:=by
  refine kq ?_ (by rw[n7 wT];exact hn2) hn3
  rw[dP]
  simp only[lk,Nat.beq_refl]
  rw[jy Lf];rfl
 have r5:=py hE GC r4
 rw[pg,qT wT]at r5
 rw[eW]at r5
 simp only[lk,Nat.beq_refl]at r5
 exact r5
theorem Fc {E:Env} (t:Nat) (ts ks:List Nat) {K:bK} {co:Code} {fr:List (Nat×SV)} {hp:List (Nat×aA)} {r m c p:Nat} {M:Nat→List Rat} {pv:List Int} {d:Rat} (hW:∀b,¬E.W0 b) (ht:lk fr t=some (.ptr 1001 0 0 0)) (h1:find hp 1001=some (wkB true r m p d)) (h2:find hp 1002=some (E3 true (ib r c))) (h3:find hp 1003=some (pvB true pv))
  (h4:∀j,j<r→find hp (1010+j)=some (uN true (M j))∧c=(M j).length) (h5:p=pv.length) (Lf:dP ks fr ts=true) (hn2:dm ks hp ks=true) (hn3:(rI (fun k=>k) ks&&vf (fun k=>k) ks E.fx)=true) (hb:acg ks=true) (hr:r≤1000) (hE:E.OK)
  (hs:dG E co K ((t,wkA r m c M pv d)::eW (fun k=>k) ((t,wkA r m c M pv d)::fr) ts) (mV hp ks)):dG E co K fr hp:=
 ⟨fun a w hR=>hs.run a w (RO t ts ks hW ht h1 h2 h3 h4 h5 Lf hn2 hn3 hb hr hE a w hR)⟩
abbrev wzB (m:Nat):aA:=⟨269,true,.one [.val (.slice none 0 0),iv m,.val (.slice none 0 0),.frac 1]⟩
theorem ach {ρ:bI} {m:Nat} (z:List (List Value)) (h:au ρ [.val (.slice none 0 0),iv m,.val (.slice none 0 0),.frac 1] z):au ρ (wCs 0 m 0 (fun _=>[]) [] 1) z:=by
 simp only[au]at h ⊢
 obtain⟨x,r,rfl,h1,y,r2,rfl,h2,z,r3,rfl,h3,h4⟩:=h
 exact⟨x,_,rfl,nF h1,y,_,rfl,h2,z,_,rfl,nF h3,h4⟩
theorem Fe {E:Env} (t:Nat) {K:bK} {co:Code} {fr:List (Nat×SV)} {hp:List (Nat×aA)} {m:Nat} (hW:∀b,¬E.W0 b) (ht:lk fr t=some (.ptr 1001 0 0 0)) (h1:find hp 1001=some (wzB m))
  (hs:dG E co K ((t,wkA 0 m 0 (fun _=>[]) [] 1)::fr) (eD ((1001,⟨269,true,.one (wCs 0 m 0 (fun _=>[]) [] 1)⟩)::hp) 1001 ⟨269,true,.dead⟩)):dG E co K fr hp:=
 ⟨fun a w hR=>hs.run a w (nY t 1001 hW ht rfl rfl (uL h1 (fun _ z hz=>ach z hz) hR))⟩
theorem J0 {c:Nat} (more:Nat) (a:List Rat) (g:FuncId) (ha:ot 0 c a):
  af Tryz.prog 221 [mA (0:Nat) c a,iv more,.clo g [] []] [] (.ptr 1001 0 0 0) [(1001,wzB c)] []:=by
 have k0:af Tryz.prog 18 [iv 1] [] (.frac 1) [] []:=eG 1 aH aH
 refine yV (Z:=[3]) aM bB Tryz.func221 rfl aF (ic.of rfl rfl rfl rfl rfl rfl rfl rfl rfl rfl rfl) rfl (bh.id rfl) ?_
 intro W0 w0 ρ0 hE
 conv=>whnf
 (repeat((first|refine aB aF ?_|refine a8 (by assumption) ?_|refine aC Q6 ?_|refine aC Q9 ?_);conv=>whnf))
 refine az hE (fun k=>cond (Nat.beq k 15) 1001 k) [7,17,18] [15] (fun m' fr hp=>fr=[(7,.ptr 1001 0 0 0),(17,iv (0:Nat)),(18,iv (0:Nat))]∧hp=[(1001,wzB c)]) 0 ?_ ?_ ?_
 ·kernel_rfl
 ·exact⟨rfl,rfl⟩
 rintro m' _ _ ⟨rfl,rfl⟩
 conv=>whnf
 (repeat(first|(refine ag rfl rfl ?_;conv=>whnf)))
 exact⟨aq.refl _,cL rfl get_nil,get_nil⟩
abbrev wzR (m:Nat):aA:=⟨269,false,.one [.val (.slice none 0 0),iv m,.val (.slice none 0 0),.frac 1]⟩
theorem J1 (m:Nat) (hm:m≤4096):af Tryz.prog 223 [.ptr 1001 0 0 0] [(1001,wzR m)] (.ptr 1001 0 0 0) [] []:=by
 refine pf (Z:=[]) aM bB Tryz.func223 rfl aF (bV.of rfl rfl rfl rfl rfl rfl rfl rfl rfl rfl rfl) rfl ?_
 intro W0 w0 ρ0 hE
 conv=>whnf
 (repeat(first|(rw[Nat.zero_add];conv=>whnf)))
 refine s6 hE [0,9,10] (fun m' fr hp=>∃k:Nat,m'=m - k∧k≤m∧fr=[(0,.ptr 1001 0 0 0),(9,iv m),(10,iv k)]∧hp=[(1001,wzR m)]) m ?_ ?_ ?_
 ·kernel_rfl
 ·exact⟨0,rfl,Nat.zero_le _,rfl,rfl⟩
 rintro m' _ _ ⟨k,rfl,hk,rfl,rfl⟩
 conv=>whnf
 by_cases aI:k<m
 ·have t1:=jD aI
  have t2:=cp (i:=k) aa
  (repeat(first|(refine aN t1 ?_;conv=>whnf)|(rw[t1];conv=>whnf)|(rw[Nat.zero_add];conv=>whnf)))
  refine s6 hE [0,9,10,5] (fun m' fr hp=>m'=0∧fr=[(0,.ptr 1001 0 0 0),(9,iv m),(10,iv k),(5,iv (0:Nat))]∧hp=[(1001,wzR m)]) 0 ?_ ?_ ?_
  ·kernel_rfl
  ·exact⟨rfl,rfl,rfl⟩
  rintro m' _ _ ⟨rfl,rfl,rfl⟩
  conv=>whnf
  (repeat(first|(refine ag rfl rfl ?_;conv=>whnf)|(rw[t2];conv=>whnf)|(rw[Nat.zero_add];conv=>whnf)))
  exact⟨m - (k+1),aa,aF,k+1,rfl,aI,rfl,rfl⟩
 ·have t1:=jP aI
  (repeat(first|(refine aW t1 ?_;conv=>whnf)))
  exact⟨aq.refl _,get_nil,get_nil⟩
theorem Oj {n:Nat} {a:List Rat} (ha:ot n n a):af Tryz.prog 227 [mA n n a] [] (iv 0) [] []:=by
 have k1:=fT ha
 refine cj [1] Tryz.func227 ?_
 intro W0 w0 ρ0 hE
 conv=>whnf
 (repeat((first|refine ag rfl rfl ?_|refine a8 (by assumption) ?_|rw[bne_self_eq_false]|refine aC Q6 ?_|refine aC Q9 ?_);conv=>whnf));exact Q4
end Go.Proofs.YtfpagioknjjacaaGreatDoor
namespace Go.Sx
set_option linter.unusedSimpArgs false
set_option linter.unusedVariables false
theorem mb.sub {fk fk' new:List (Nat×aA)} {ρ:bI} {w:World} (hp:mb fk' new ρ w) (hs:∀x,x∈fk→x∈fk'):mb fk new ρ w:=
 ⟨fun k b h=>hp.mj k b (hs _ h),fun k k' x x' b b' h h'=>hp.sep k k' x x' b b' (hs _ h) (hs _ h'),hp.aT,fun k b x h=>hp.ep k b x (hs _ h),hp.fresh⟩
theorem af.more {P:Program} {f:FuncId} {args:List SV} {fk fk':List (Nat×aA)} {c:SV} {upd upd':List (Nat×aA)} (h:af P f args fk c [] upd) (hu:kO fk upd) (Nr:∀x,x∈fk→x∈fk')
  (h1:∀x,x∈upd→x∈upd') (hl:∀k b,(k,b)∈upd→b.data.live=true)
  (h2:∀k b,(k,b)∈upd'→(k,b)∈upd∨((k,b)∈fk'∧b.data.live=true∧∀b',(k,b')∉upd)):af P f args fk' c [] upd':=by
 have key:∀ρ w v ρ' w',mb fk' [] ρ w→jb ρ w c [] upd v ρ' w'→jb ρ w c [] upd' v ρ' w':=by
  intro ρ w v ρ' w' hp g
  refine {le:=g.le,has:=g.has,key:=g.key,bw:=g.bw.mono (fun b _ ⟨k,blk,t,hm,hk⟩=>⟨k,blk,t,h1 _ hm,hk⟩),blk:= ?_,once:= ?_,zi:=(fun _ _ _ h=>by cases h),Kt:=(fun _ _ _ _ _ _ h=>by cases h),aT:=g.aT}
  ·intro k b hm
   rcases hm with hm|hm
   ·rcases h2 k b hm with e|⟨e1,e3,e4⟩
    ·exact g.blk k b (.inl e)
    ·rcases hp.mj k b e1 with d|⟨b0,t,vs,ex,k1,k2,k3,k4,k5⟩|⟨k1,k2⟩
     ·rw[e3]at d;cases d
     ·refine .inr (.inl ⟨b0,t,vs,ex,g.le.key _ _ k1, ?_,cQ.mono g.le k3,k4,k5⟩)
      have aI:b0<w.heap.size:=(Array.getElem?_eq_some_iff.1 k2).1
      rw[g.bw.block b0 aI ?_]
      ·exact k2
      ·rintro⟨k',blk,t',C5,kE⟩
       obtain⟨c0,c1,c2,c3,_⟩:=hu k' blk C5
       have a7:k'≠k:=fun e=>e4 blk (e▸C5)
       have:=hp.sep k' k _ _ c0 b (Nr _ c1) e1 kE k1 a7 rfl c3 e3
       rw[c2]at this;cases this
     ·exact .inr (.inr ⟨by rw[g.key k (fun _ h=>by cases h)];exact k1,k2⟩)
   ·cases hm
  ·intro k b b' hm _ hd _
   rcases h2 k b hm with e|⟨_,e3,_⟩
   ·have:=hl k b e;rw[hd]at this;cases this
   ·rw[hd]at e3;cases e3
 rcases h with⟨f1,f2⟩|f2
 ·exact .inl ⟨f1,fun ρ w z hz hp=>(f2 ρ w z hz (hp.sub Nr)).mono (fun e w' ⟨v,ρ',he,hq⟩=>⟨v,ρ',he,key ρ w v ρ' w' hp hq⟩)⟩
 ·exact .inr fun ρ w z hz hp=>by
   obtain⟨v,ρ',w',g1,g2⟩:=f2 ρ w z hz (hp.sub Nr)
   exact⟨v,ρ',w',g1,key ρ w v ρ' w' hp g2⟩
theorem eA {k j:Nat} {b:aA} {l:List (Nat×aA)} (h:k≠j):find ((k,b)::l) j=find l j:=by
 rw[find,show Nat.beq k j=false from by
  cases e:Nat.beq k j with
  |false=>rfl
  |true=>exact absurd (Nat.eq_of_beq_eq_true e) h]
theorem uQ {k:Nat} {b:aA} {l:List (Nat×aA)}:find ((k,b)::l) k=some b:=by rw[find,Nat.beq_refl]
section
variable {P:Program} {o:Oper} {fr:List (Nat×SV)} {hp:List (Nat×aA)}
theorem iZ {K:SV→List (Nat×aA)→List (Nat×aA)→List (Nat×aA)→Prop} {t ty:TypeId} {x:Operand} {ti:TI} {k i:Nat} {wr:Bool} {xs:List Rat} {c:SV} {q:Rat} (ho:o.op= .load t x) (hx:aZ fr x (.ptr k 5 i 0))
  (hf:find hp k=some ⟨ty,wr,.cd xs⟩) (ht:aE P t ti) (hi:i<xs.length) (hq:xs.getD i 0=q) (hs:sub 64 [.frac q] 0 ti.size=some [.frac q]) (fG:ti.size≠0) (hsh:dN ti [.frac q]=some c) (hK:K c [(k,⟨ty,wr,.cd xs⟩)] [] []):
  Good P fr hp o K:=
 ⟨c,_,[],[],vR (ob:=some (i<xs.length)) (cs:=[.frac q]) ho hx ht (List.mem_singleton.2 rfl) (by subst hq;rfl) hi hs fG hsh,dD hf,an,ar,hK⟩
end
end Go.Sx
namespace Go.Proofs.YtfpagioknjjacaaGreatDoor
open Go.Sx
set_option linter.unusedSimpArgs false
set_option linter.unusedVariables false
set_option maxRecDepth 100000
set_option maxHeartbeats 40000000
theorem yZ {w:Nat→Bool} {M:Nat→List Rat} {j:Nat}:∀{n i:Nat},i≤j→j<i+n→find (l9 w M n i) (1010+j)=some (uN (w j) (M j))
 |0,i,h1,h2=>aa
 |n+1,i,h1,h2=>by
  rw[l9]
  by_cases e:i=j
  ·subst e;exact uQ
  ·rw[eA aa];exact yZ aa aa
theorem eB {w:Nat→Bool} {M:Nat→List Rat} {k:Nat} {b:aA}:∀{n i:Nat},(k,b)∈l9 w M n i↔∃j,i≤j∧j<i+n∧k=1010+j∧b=uN (w j) (M j)
 |0,i=>⟨(fun h=>by cases h),(fun⟨j,h1,h2,_⟩=>aa)⟩
 |n+1,i=>by
  rw[l9,List.mem_cons,eB]
  constructor
  ·rintro(h|⟨j,h1,h2,h3,h4⟩)
   ·cases h;exact⟨i,Nat.le_refl _,aa,rfl,rfl⟩
   ·exact⟨j,aa,aa,h3,h4⟩
  ·rintro⟨j,h1,h2,h3,h4⟩
   by_cases e:i=j
   ·subst e;exact .inl (by rw[h3,h4])
   ·exact .inr ⟨j,aa,aa,h3,h4⟩
def zF (X:Mx) (i q:Nat) (v:Rat):Mx:=fun a l=>if a=i∧l=q then v else X a l
theorem Ok {n i q:Nat} {X:Mx} {v:Rat} (hq:q<n):(bz n X i).set q v=bz n (zF X i q v) i:=by
 refine kB (by rw[List.length_set,dp]) fun l hl=> ?_
 by_cases e:l=q
 ·subst e;rw[qQ (by rw[dp];exact hq)];unfold zF;rw[if_pos ⟨rfl,rfl⟩]
 ·rw[fZ e,da hl];unfold zF;rw[if_neg (fun g=>e g.2)]
theorem Ol {n i j q:Nat} {X:Mx} {v:Rat} (h:j≠i):bz n (zF X i q v) j=bz n X j:=by
 unfold bz;congr 1;funext l;unfold zF;rw[if_neg (fun g=>h g.1)]
abbrev sqB (r n:Nat):aA:=⟨190,true,.one [iv n,.aK 1002 1 0 r]⟩
abbrev vE (r n:Nat) (X:Mx):List (Nat×aA):=l9 (fun _=>true) (bz n X) r 0
abbrev pU (r n:Nat) (X:Mx):List (Nat×aA):=(1001,sqB r n)::(1002,E3 true (ib r n))::vE r n X
theorem RP (n q:Nat) (l:List Rat) (c y v:Rat) (hl:l.length=n) (hq:q<n) (hv:l.getD q 0=v) (h:fs v+(fs c+fs y)≤4398046511104) (σ:Nat→Nat) (hσ:bh [(1010,uN true l)] [] σ):
  af Tryz.prog 340 (kJ σ ([]++([.ptr 1010 5 q 0,.frac y]++[cx [.frac c]]))) (jC σ [(1010,uN true l)]) (eE σ (.cC [])) (jC σ []) (jC σ [(1010,uN true (l.set q (v+c*y)))]):=by
 have k1:=s7 c y aa
 have k2:=yT v (c*y) (by have:=cT c y;omega)
 refine gw (Z:=[4]) aM bB Tryz.func340 rfl aF (bV.of rfl rfl rfl rfl rfl rfl rfl rfl rfl rfl rfl) rfl σ hσ ?_
 intro W0 w0 ρ0 hE
 conv=>whnf
 (repeat((first|refine aB aF ?_|refine bg Q3 ?_|refine a8 (by assumption) ?_|refine aC Q6 ?_|rw[hv]);conv=>whnf))
 exact⟨aq.refl _,get_nil,cL rfl get_nil⟩
theorem Om {r n i q:Nat} (X:Mx) (c y:Rat) (hi:i<r) (hq:q<n) (h:fs (X i q)+(fs c+fs y)≤4398046511104):
  af Tryz.prog 340 ([]++([.ptr (1010+i) 5 q 0,.frac y]++[cx [.frac c]])) (vE r n X) (.cC []) [] (vE r n (zF X i q (X i q+c*y))):=by
 have h0:=RP n q (bz n X i) c y (X i q) (dp _ _) hq (da hq) h (fun k=>k+i) ⟨fun a b _ _ _ _ a7 _ e=>a7 aa,(fun _ _ h=>by cases h),fun _ _ h=>by cases h⟩
 rw[Ok hq]at h0
 refine af.more h0 ?_ ?_ ?_ ?_ ?_
 ·exact dQ (List.mem_singleton.2 rfl) rfl rfl rfl
 ·intro x hx
  rw[List.mem_singleton.1 hx]
  exact eB.2 ⟨i,Nat.zero_le _,aa,rfl,rfl⟩
 ·intro x hx
  rw[List.mem_singleton.1 hx]
  exact eB.2 ⟨i,Nat.zero_le _,aa,rfl,rfl⟩
 ·intro k b hx
  cases List.mem_singleton.1 hx;rfl
 ·intro k b hx
  obtain⟨j,_,h2,rfl,rfl⟩:=eB.1 hx
  by_cases e:j=i
  ·subst e;exact .inl (List.mem_singleton.2 rfl)
  ·refine .inr ⟨eB.2 ⟨j,Nat.zero_le _,h2,rfl,by rw[Ol e]⟩,rfl,fun b' hb=> ?_⟩
   have:=congrArg Prod.fst (List.mem_singleton.1 hb)
   simp only at this
   omega
theorem CS {r n:Nat} {X:Mx} {hp:List (Nat×aA)} (h:∀j,j<r→find hp (1010+j)=some (uN true (bz n X j))):vJ hp (vE r n X):=by
 intro k b hm
 obtain⟨j,_,h2,rfl,rfl⟩:=eB.1 hm
 exact h j aa
theorem y3 {r n:Nat} {X Y:Mx}:kO (vE r n X) (vE r n Y):=by
 intro k b hm
 obtain⟨j,h1,h2,rfl,rfl⟩:=eB.1 hm
 exact⟨_,eB.2 ⟨j,h1,h2,rfl,rfl⟩,rfl,rfl,rfl⟩
theorem y4 {r n j:Nat} {X:Mx} (h:j<r):find (pU r n X) (1010+j)=some (uN true (bz n X j)):=by
 rw[eA aa,eA aa]
 exact yZ (Nat.zero_le _) aa
theorem gG {r n j:Nat} (hr:r≤40) (h:j<r):sub 64 (ib r n) j 1=some [rk j n]:=by
 have e:ib r n=((List.range j).map fun i=>rk i n)++rk j n::((List.range (r - j - 1)).map fun i=>rk (j+1+i) n):=by
  refine List.ext_getElem (by simp;omega) fun k h1 h2=> ?_
  simp only[List.getElem_map,List.getElem_range,List.getElem_append,List.length_map,List.length_range,List.getElem_cons]
  split
  ·rfl
  ·split
   ·have:k=j:=aa
    rw[this]
   ·congr 2;omega
 have:=wI (A:=(List.range j).map fun i=>rk i n) (B:=(List.range (r - j - 1)).map fun i=>rk (j+1+i) n) (x:=rk j n) rfl 64 (by
  intro a ha
  obtain⟨_,_,rfl⟩:=List.mem_map.1 ha
  rfl) (by simp;omega)
 rw[e]
 simpa using this
end Go.Proofs.YtfpagioknjjacaaGreatDoor
