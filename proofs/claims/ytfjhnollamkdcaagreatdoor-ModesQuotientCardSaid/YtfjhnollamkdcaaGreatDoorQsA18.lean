/- The texts Qk, Qn, Af. -/
import Derived.Test.YtfjhnollamkdcaaGreatDoorQsA17
namespace Go.Sx
set_option linter.unusedSimpArgs false
set_option linter.unusedVariables false
section
variable {E:Env} {fr:List (Nat×SV)} {a:Act} {W:World}
theorem freezeCF {jj pp k n:Nat} {tj ty:TypeId} {wj:Bool} {cs:List SV} {hp:List (Nat×Blk)} {qs:List Rat} (hW:∀b,¬E.W0 b) (hjf:find hp jj=some ⟨tj,wj,.one cs⟩) (hjk:jj≠k) (hpc:cs[pp]? =some (.slc k 5 0 n)) (hk:find hp k=some ⟨ty,true,.fracs qs⟩) (hn:n=qs.length)
  (hR:RR E (fn fr hp) a W):RR E (fn fr ((jj,⟨tj,wj,.one (cs.set pp (fvec qs))⟩)::setB hp k ⟨ty,true,.dead⟩)) a W:=by
 have:=freezeC_RR jj pp k (xs:=qs.map .frac) hW hjf hjk hpc hk rfl rfl (keylessL_map (fun _=>rfl) qs) (by simp;omega) hR
 rwa [cutL_all (by simp;omega)]at this
theorem freezeCI {jj pp k n:Nat} {tj ty:TypeId} {wj:Bool} {cs:List SV} {hp:List (Nat×Blk)} {kd:IntKind} {xs:List Int} (hW:∀b,¬E.W0 b) (hjf:find hp jj=some ⟨tj,wj,.one cs⟩) (hjk:jj≠k) (hpc:cs[pp]? =some (.slc k 1 0 n)) (hk:find hp k=some ⟨ty,true,.ints kd xs⟩) (hn:n=xs.length)
  (hR:RR E (fn fr hp) a W):RR E (fn fr ((jj,⟨tj,wj,.one (cs.set pp (ivec kd xs))⟩)::setB hp k ⟨ty,true,.dead⟩)) a W:=by
 have:=freezeC_RR jj pp k (xs:=xs.map (iel kd)) hW hjf hjk hpc hk rfl rfl (keylessL_map (fun _=>rfl) xs) (by simp;omega) hR
 rwa [cutL_all (by simp;omega)]at this
theorem freezeCS {jj pp k n:Nat} {tj ty:TypeId} {wj:Bool} {cs xs:List SV} {hp:List (Nat×Blk)} (hW:∀b,¬E.W0 b) (hjf:find hp jj=some ⟨tj,wj,.one cs⟩) (hjk:jj≠k) (hpc:cs[pp]? =some (.slc k 1 0 n)) (hk:find hp k=some ⟨ty,true,.seq 1 xs⟩) (hkl:keylessL xs=true) (hn:n=xs.length)
  (hR:RR E (fn fr hp) a W):RR E (fn fr ((jj,⟨tj,wj,.one (cs.set pp (vecA 1 xs))⟩)::setB hp k ⟨ty,true,.dead⟩)) a W:=by
 have:=freezeC_RR jj pp k (xs:=xs) hW hjf hjk hpc hk rfl rfl hkl (by omega) hR
 rwa [cutL_all (by omega)]at this
theorem find_ne {j k:Nat} {b:Blk} {hp:List (Nat×Blk)} (h:k≠j):find ((j,b)::hp) k=find hp k:=by
 rw[find]
 cases hb:Nat.beq j k with
 |true=>exact absurd (Nat.eq_of_beq_eq_true hb).symm h
 |false=>rfl
theorem new_cons {hp l:List (Nat×Blk)} {k:Nat} {b:Blk} (h:find hp k=none) (r:∀j c,(j,c)∈l→find hp j=none):∀j c,(j,c)∈(k,b)::l→find hp j=none:=by
 intro j c hm
 rcases List.mem_cons.1 hm with e|e
 ·cases e;exact h
 ·exact r j c e
theorem freeze_rows {tj ty:TypeId} {c:Nat} {M:Nat→List Rat} (hW:∀b,¬E.W0 b):∀(n j0:Nat) (cs:List SV) (hp:List (Nat×Blk)),find hp 1002=some ⟨tj,true,.one cs⟩→(∀j,j0≤j→j<j0+n→cs[j]? =some (.slc (1010+j) 5 0 c))→
  (∀j,j0≤j→j<j0+n→find hp (1010+j)=some ⟨ty,true,.fracs (M j)⟩∧c=(M j).length)→RR E (fn fr hp) a W→
  ∃hp' cs',RR E (fn fr hp') a W∧find hp' 1002=some ⟨tj,true,.one cs'⟩∧cs'.length=cs.length∧(∀j,cs'[j]? =if j0≤j∧j<j0+n then some (fvec (M j))else cs[j]?)∧∀k,k≠1002→(∀j,j0≤j→j<j0+n→k≠1010+j)→find hp' k=find hp k
 |0,j0,cs,hp,h1,_,_,hR=>⟨hp,cs,hR,h1,rfl,fun j=>by rw[if_neg (by omega)],fun _ _ _=>rfl⟩
 |n+1,j0,cs,hp,h1,h2,h3,hR=>by
  obtain⟨h4,h5⟩:=h3 j0 (Nat.le_refl _) (by omega)
  have h6:=freezeCF (pp:=j0) hW h1 (by omega) (h2 j0 (Nat.le_refl _) (by omega)) h4 h5 hR
  have f1:find ((1002,(⟨tj,true,.one (cs.set j0 (fvec (M j0)))⟩:Blk))::setB hp (1010+j0) ⟨ty,true,.dead⟩) 1002=some ⟨tj,true,.one (cs.set j0 (fvec (M j0)))⟩:=rfl
  have f2:∀k,k≠1002→find ((1002,(⟨tj,true,.one (cs.set j0 (fvec (M j0)))⟩:Blk))::setB hp (1010+j0) ⟨ty,true,.dead⟩) k=if k=1010+j0 then some ⟨ty,true,.dead⟩else find hp k:=fun k hk=>by
   rw[find_ne hk,find_setB]
  have hlt:j0<cs.length:=(List.getElem?_eq_some_iff.1 (h2 j0 (Nat.le_refl _) (by omega))).1
  obtain⟨hp',cs',g1,g2,g3,g4,g5⟩:=freeze_rows hW n (j0+1) _ _ f1 (fun j hj1 hj2=>by rw[List.getElem?_set_ne (by omega)];exact h2 j (by omega) (by omega)) (fun j hj1 hj2=>by rw[f2 _ (by omega),if_neg (by omega)];exact h3 j (by omega) (by omega)) h6
  refine⟨hp',cs',g1,g2,by rw[g3,List.length_set],fun j=> ?_,fun k hk hj=> ?_⟩
  ·rw[g4 j]
   by_cases e1:j0+1≤j∧j<j0+1+n
   ·rw[if_pos e1,if_pos (by omega)]
   ·rw[if_neg e1]
    by_cases e2:j=j0
    ·subst e2
     rw[if_pos (by omega),List.getElem?_set_self hlt]
    ·rw[if_neg (by omega),List.getElem?_set_ne (Ne.symm e2)]
  ·rw[g5 k hk (fun j h1 h2=>hj j (by omega) (by omega)),f2 k hk,if_neg (hj j0 (Nat.le_refl _) (by omega))]
end
theorem normOKf_put {ks:List Nat} {fr:List (Nat×SV)} {t:Nat} {p:Pred}:∀{ts:List Nat},normOKf ks fr ts=true→normOKf ks ((t,.atom p)::fr) ts=true
 |[],_=>rfl
 |u::r,h=>by
  rw[normOKf]at h ⊢
  rw[lk]
  cases hb:Nat.beq t u with
  |true=>
   simp only
   have:normOKf ks fr r=true:=by
    cases hl:lk fr u with
    |none=>rw[hl]at h;exact h
    |some c=>rw[hl]at h;simp only[Bool.and_eq_true]at h;exact h.2
   rw[normOKf_put this];rfl
  |false=>
   simp only
   cases hl:lk fr u with
   |none=>rw[hl]at h;exact normOKf_put h
   |some c=>rw[hl]at h;simp only[Bool.and_eq_true]at h ⊢;exact⟨h.1,normOKf_put h.2⟩
theorem pickH_find {hp hp':List (Nat×Blk)}:∀{ks:List Nat},(∀k∈ks,find hp' k=find hp k)→pickH hp' ks=pickH hp ks
 |[],_=>rfl
 |k::r,h=>by rw[pickH,pickH,h k (List.mem_cons_self ..),pickH_find fun j hj=>h j (List.mem_cons_of_mem _ hj)]
theorem normOKh_find {hp hp':List (Nat×Blk)} {ks:List Nat}:∀{l:List Nat},(∀k∈l,find hp' k=find hp k)→normOKh ks hp' l=normOKh ks hp l
 |[],_=>rfl
 |k::r,h=>by rw[normOKh,normOKh,h k (List.mem_cons_self ..),normOKh_find fun j hj=>h j (List.mem_cons_of_mem _ hj)]
end Go.Sx
namespace Go.Proofs.YtfjhnollamkdcaaGreatDoor
open Go.Sx
set_option linter.unusedSimpArgs false
set_option linter.unusedVariables false
set_option maxRecDepth 100000
set_option maxHeartbeats 40000000
abbrev wCs (r m c:Nat) (M:Nat→List Rat) (pv:List Int) (d:Rat):List SV:=[mvec 1 fvec ((List.range r).map M),iv m,ivec .i64 pv,.frac d]
abbrev wkA (r m c:Nat) (M:Nat→List Rat) (pv:List Int) (d:Rat):SV:=ptrA (wCs r m c M pv d)
def bigN (l:List Nat):Bool:=l.all fun k=>Nat.blt k 1000
theorem freezeW {E:Env} (t:Nat) (ts ks:List Nat) {fr:List (Nat×SV)} {hp:List (Nat×Blk)} {r m c p:Nat} {M:Nat→List Rat} {pv:List Int} {d:Rat} (hW:∀b,¬E.W0 b) (ht:lk fr t=some (.ptr 1001 0 0 0)) (h1:find hp 1001=some (wkB true r m p d)) (h2:find hp 1002=some (rkB true (cellsE r c))) (h3:find hp 1003=some (pvB true pv))
  (h4:∀j,j<r→find hp (1010+j)=some (rwB true (M j))∧c=(M j).length) (h5:p=pv.length) (hn1:normOKf ks fr ts=true) (hn2:normOKh ks hp ks=true) (hn3:(injOK (fun k=>k) ks&&fixOK (fun k=>k) ks E.fx)=true) (hb:bigN ks=true) (hr:r≤1000) (hE:E.OK):
  ∀a w,RR E (fn fr hp) a w→RR E (fn ((t,wkA r m c M pv d)::normF (fun k=>k) ((t,wkA r m c M pv d)::fr) ts) (pickH hp ks)) a w:=by
 intro a w hR
 have hbig:∀k∈ks,k<1000:=fun k hk=>by simpa [Nat.blt_eq]using List.all_eq_true.1 hb k hk
 obtain⟨hp1,cs1,g1,g2,g3,g4,g5⟩:=freeze_rows (M:=M) hW r 0 (cellsE r c) hp h2 (fun j _ hj=>by simp[List.getElem?_map,List.getElem?_range (show j<r by omega)]) (fun j _ hj=>h4 j (by omega)) hR
 have hcs:cs1=((List.range r).map M).map fvec:=by
  refine List.ext_getElem? fun j=> ?_
  rw[g4 j]
  by_cases hj:j<r
  ·rw[if_pos ⟨Nat.zero_le _,by omega⟩];simp[List.getElem?_map,List.getElem?_range hj]
  ·rw[if_neg (by omega)];simp[List.getElem?_map,List.getElem?_eq_none (show(List.range r).length≤j by simp;omega)]
 have hkl:keylessL cs1=true:=by rw[hcs];exact keylessL_map (fun _=>rfl) _
 have haw:allW 1 cs1=true:=by
  rw[hcs]
  generalize (List.range r).map M=L
  induction L with
  |nil=>rfl
  |cons x L ih=>rw[List.map_cons,allW,ih];rfl
 have r1:=reseq_RR g2 hkl haw g1
 have q1:∀k,k≠1002→find ((1002,(⟨28,true,.seq 1 cs1⟩:Blk))::hp1) k=find hp1 k:=fun k hk=>by
  exact find_ne hk
 have hl1:r=cs1.length:=by rw[g3];simp
 have r2:=freezeCS (jj:=1001) (pp:=0) (k:=1002) (n:=r) hW (by rw[q1 _ (by decide),g5 _ (by decide) (fun j _ _=>by omega)];exact h1) (by decide) rfl (show find _ 1002=some ⟨28,true,.seq 1 cs1⟩from rfl) hkl hl1 r1
 have r3:=freezeCI (jj:=1001) (pp:=2) (k:=1003) (n:=p) (kd:=.i64) (xs:=pv) hW (show find _ 1001=some _ from rfl) (by decide) rfl (show find _ 1003=some (pvB true pv) by
  show find (setB _ 1002 _) 1003=_
  rw[find_setB,if_neg (by decide),q1 _ (by decide),g5 _ (by decide) (fun j _ _=>by omega)];exact h3) h5 r2
 have r4:=freezeP_RR t 1001 hW ht (show find _ 1001=some _ from rfl) (by simp[keylessL,keyless,List.set]) r3
 rw[hcs]at r4
 have e4:List.set (List.set [.slc 1002 1 0 r,iv m,.slc 1003 1 0 p,.frac d] 0 (vecA 1 (((List.range r).map M).map fvec))) 2 (ivec .i64 pv)=wCs r m c M pv d:=rfl
 rw[e4]at r4
 generalize hq:setB _ 1001 _=HH at r4
 have hfind:∀k∈ks,find HH k=find hp k:=fun k hk=>by
  have:=hbig k hk
  rw[←hq,find_setB,if_neg (by omega),find_ne (by omega),find_setB,if_neg (by omega),find_ne (by omega),find_setB,if_neg (by omega),←hcs,q1 _ (by omega),g5 _ (by omega) (fun j _ _=>by omega)]
 have hno:normOK E.fx (fun k=>k) (t::ts) ks ((t,wkA r m c M pv d)::fr) HH=true:=by
  refine normOK_of ?_ (by rw[normOKh_find hfind];exact hn2) hn3
  rw[normOKf]
  simp only[lk,Nat.beq_refl]
  rw[normOKf_put hn1];rfl
 have r5:=norm_RR hE hno r4
 rw[normH_id,pickH_find hfind]at r5
 rw[normF]at r5
 simp only[lk,Nat.beq_refl]at r5
 exact r5
end Go.Proofs.YtfjhnollamkdcaaGreatDoor
namespace Go.Proofs.YtfjhnollamkdcaaGreatDoor
open Go.Sx
set_option linter.unusedSimpArgs false
set_option linter.unusedVariables false
set_option maxRecDepth 100000
set_option maxHeartbeats 40000000
theorem SWx_freezeW {E:Env} (t:Nat) (ts ks:List Nat) {K:Post'} {co:Code} {fr:List (Nat×SV)} {hp:List (Nat×Blk)} {r m c p:Nat} {M:Nat→List Rat} {pv:List Int} {d:Rat} (hW:∀b,¬E.W0 b) (ht:lk fr t=some (.ptr 1001 0 0 0)) (h1:find hp 1001=some (wkB true r m p d)) (h2:find hp 1002=some (rkB true (cellsE r c))) (h3:find hp 1003=some (pvB true pv))
  (h4:∀j,j<r→find hp (1010+j)=some (rwB true (M j))∧c=(M j).length) (h5:p=pv.length) (hn1:normOKf ks fr ts=true) (hn2:normOKh ks hp ks=true) (hn3:(injOK (fun k=>k) ks&&fixOK (fun k=>k) ks E.fx)=true) (hb:bigN ks=true) (hr:r≤1000) (hE:E.OK)
  (hs:SWx E co K ((t,wkA r m c M pv d)::normF (fun k=>k) ((t,wkA r m c M pv d)::fr) ts) (pickH hp ks)):SWx E co K fr hp:=
 ⟨fun a w hR=>hs.run a w (freezeW t ts ks hW ht h1 h2 h3 h4 h5 hn1 hn2 hn3 hb hr hE a w hR)⟩
abbrev wzB (m:Nat):Blk:=⟨176,true,.one [.val (.slice none 0 0),iv m,.val (.slice none 0 0),.frac 1]⟩
theorem has_wz {ρ:Rho} {m:Nat} (z:List (List Value)) (h:HasZ ρ [.val (.slice none 0 0),iv m,.val (.slice none 0 0),.frac 1] z):HasZ ρ (wCs 0 m 0 (fun _=>[]) [] 1) z:=by
 simp only[HasZ]at h ⊢
 obtain⟨x,r,rfl,h1,y,r2,rfl,h2,z,r3,rfl,h3,h4⟩:=h
 exact⟨x,_,rfl,nil_vec h1,y,_,rfl,h2,z,_,rfl,nil_vec h3,h4⟩
theorem SWx_freezeZ {E:Env} (t:Nat) {K:Post'} {co:Code} {fr:List (Nat×SV)} {hp:List (Nat×Blk)} {m:Nat} (hW:∀b,¬E.W0 b) (ht:lk fr t=some (.ptr 1001 0 0 0)) (h1:find hp 1001=some (wzB m))
  (hs:SWx E co K ((t,wkA 0 m 0 (fun _=>[]) [] 1)::fr) (setB ((1001,⟨176,true,.one (wCs 0 m 0 (fun _=>[]) [] 1)⟩)::hp) 1001 ⟨176,true,.dead⟩)):SWx E co K fr hp:=
 ⟨fun a w hR=>hs.run a w (freezeP_RR t 1001 hW ht rfl rfl (retell_RR h1 (fun _ z hz=>has_wz z hz) hR))⟩
theorem e_begunZ0 {c:Nat} (more:Nat) (a:List Rat) (g:FuncId) (ha:OKM 0 c a):
  CallOK Tryz.prog 114 [mA (0:Nat) c a,iv more,.clo g [] []] [] (.ptr 1001 0 0 0) [(1001,wzB c)] []:=by
 have k0:CallOK Tryz.prog 26 [iv 1] [] (.frac 1) [] []:=c_fInt 1 (by decide) (by decide)
 refine callID (Z:=[3]) tabOK mixedOK Tryz.func114 rfl (by kernel_rfl) (ShapeOKD.of rfl rfl rfl rfl rfl rfl rfl rfl rfl rfl rfl) rfl (NamesOK.id rfl) ?_
 intro W0 w0 ρ0 hE
 conv=>whnf
 (repeat((first|refine step_i (by kernel_rfl) ?_|refine g_c (by assumption) ?_|refine g_o (op_loadA rfl (ev_ok rfl) (tgt rfl) rfl (Nat.succ_ne_zero _) rfl) ?_|refine g_o (op_fieldA rfl (ev_ok rfl) (tgt rfl) rfl rfl (Nat.succ_ne_zero _) rfl) ?_);conv=>whnf))
 refine SW_loopN hE (fun k=>cond (Nat.beq k 15) 1001 k) [7,17,18] [15] (fun m' fr hp=>fr=[(7,.ptr 1001 0 0 0),(17,iv (0:Nat)),(18,iv (0:Nat))]∧hp=[(1001,wzB c)]) 0 ?_ ?_ ?_
 ·kernel_rfl
 ·exact⟨rfl,rfl⟩
 rintro m' _ _ ⟨rfl,rfl⟩
 conv=>whnf
 (repeat(first|(refine step_w2 rfl rfl ?_;conv=>whnf)))
 exact⟨Recast.refl _,get_cons rfl get_nil,get_nil⟩
abbrev wzR (m:Nat):Blk:=⟨176,false,.one [.val (.slice none 0 0),iv m,.val (.slice none 0 0),.frac 1]⟩
theorem e_reduceZ (m:Nat) (hm:m≤4096):CallOK Tryz.prog 116 [.ptr 1001 0 0 0] [(1001,wzR m)] (.ptr 1001 0 0 0) [] []:=by
 refine callI (Z:=[]) tabOK mixedOK Tryz.func116 rfl (by kernel_rfl) (ShapeOK.of rfl rfl rfl rfl rfl rfl rfl rfl rfl rfl rfl) rfl ?_
 intro W0 w0 ρ0 hE
 conv=>whnf
 (repeat(first|(rw[Nat.zero_add];conv=>whnf)))
 refine SW_loopE hE [0,9,10] (fun m' fr hp=>∃k:Nat,m'=m - k∧k≤m∧fr=[(0,.ptr 1001 0 0 0),(9,iv m),(10,iv k)]∧hp=[(1001,wzR m)]) m ?_ ?_ ?_
 ·kernel_rfl
 ·exact⟨0,rfl,Nat.zero_le _,rfl,rfl⟩
 rintro m' _ _ ⟨k,rfl,hk,rfl,rfl⟩
 conv=>whnf
 by_cases hlt:k<m
 ·have t1:=dlt hlt
  have t2:=winc (i:=k) (by omega)
  (repeat(first|(refine tst_tt t1 ?_;conv=>whnf)|(rw[t1];conv=>whnf)|(rw[Nat.zero_add];conv=>whnf)))
  refine SW_loopE hE [0,9,10,5] (fun m' fr hp=>m'=0∧fr=[(0,.ptr 1001 0 0 0),(9,iv m),(10,iv k),(5,iv (0:Nat))]∧hp=[(1001,wzR m)]) 0 ?_ ?_ ?_
  ·kernel_rfl
  ·exact⟨rfl,rfl,rfl⟩
  rintro m' _ _ ⟨rfl,rfl,rfl⟩
  conv=>whnf
  (repeat(first|(refine step_w2 rfl rfl ?_;conv=>whnf)|(rw[t2];conv=>whnf)|(rw[Nat.zero_add];conv=>whnf)))
  exact⟨m - (k+1),by omega,by kernel_rfl,k+1,rfl,hlt,rfl,rfl⟩
 ·have t1:=dge hlt
  (repeat(first|(refine tst_ff t1 ?_;conv=>whnf)))
  exact⟨Recast.refl _,get_nil,get_nil⟩
theorem e_square {n:Nat} {a:List Rat} (ha:OKM n n a):CallOK Tryz.prog 124 [mA n n a] [] (iv 0) [] []:=by
 have k1:=m_Check0 ha
 refine callV (Z:=[1]) tabOK mixedOK Tryz.func124 rfl (by kernel_rfl) rfl rfl (by kernel_rfl) rfl ?_
 intro W0 w0 ρ0 hE
 conv=>whnf
 (repeat((first|refine step_w2 rfl rfl ?_|refine g_c (by assumption) ?_|rw[bne_self_eq_false]|refine g_o (op_loadA rfl (ev_ok rfl) (tgt rfl) rfl (Nat.succ_ne_zero _) rfl) ?_|refine g_o (op_fieldA rfl (ev_ok rfl) (tgt rfl) rfl rfl (Nat.succ_ne_zero _) rfl) ?_);conv=>whnf));(first|exact Recast.refl _|exact Frz.recast (Recast.refl _) rfl|(refine Frz.one rfl rfl ?_;skip)|(refine Frz.tup ?_;skip))
end Go.Proofs.YtfjhnollamkdcaaGreatDoor
namespace Go.Sx
set_option linter.unusedSimpArgs false
set_option linter.unusedVariables false
theorem freezePC_RR {E:Env} (jj pp k:Nat) {tj:TypeId} {wj:Bool} {cs:List SV} {fr:List (Nat×SV)} {hp:List (Nat×Blk)} {ty:TypeId} {ds:List SV} (hW:∀b,¬E.W0 b) (hjf:find hp jj=some ⟨tj,wj,.one cs⟩) (hjk:jj≠k) (hpc:cs[pp]? =some (.ptr k 0 0 0)) (hk:find hp k=some ⟨ty,true,.one ds⟩)
  (hkl:keylessL ds=true) {a:Act} {W:World} (hR:RR E (fn fr hp) a W):RR E (fn fr ((jj,⟨tj,wj,.one (cs.set pp (ptrA ds))⟩)::setB hp k ⟨ty,true,.dead⟩)) a W:=by
 have hl:(Data.one ds).live=true:=rfl
 obtain⟨ρ,hext,hfx,hR⟩:=hR
 have hkb:(fn fr hp (.k k)).blk=some ⟨ty,true,.one ds⟩:=by simp only[fn,LV.blk];exact hk
 have hjb:(fn fr hp (.k jj)).blk=some ⟨tj,wj,.one cs⟩:=by simp only[fn,LV.blk];exact hjf
 obtain⟨bj,nj,exj,zj,hj1,hj2,hj3,hj4,hj5⟩:∃bj nj exj zj,ρ.key jj=some (bj,nj)∧W.heap[bj]? =some ((Data.one cs).obj (zj.flatten++exj) tj)∧HasZ ρ cs zj∧(zj.flatten++exj).length=nj∧∀v∈exj,v.oneCell'=true:=by
  rcases hR.hp.blk jj _ hjb with g0|⟨b',t',vs,ex,g1,g2,⟨z,g3,rfl⟩,g4,g5⟩|⟨_,g2⟩
  ·cases g0
  ·exact⟨b',t',ex,z,g1,g2,g3,g4,g5⟩
  ·exact g2.elim
 obtain⟨x,hzx,hx⟩:=HasZ_at hj3 hpc
 have hlayk:∀q b,(fn fr ((jj,⟨tj,wj,.one (cs.set pp (ptrA ds))⟩)::setB hp k ⟨ty,true,.dead⟩) (.k q)).blk=some b→(q=jj∧b=⟨tj,wj,.one (cs.set pp (ptrA ds))⟩)∨(q=k∧b=⟨ty,true,.dead⟩)∨(q≠jj∧q≠k∧(fn fr hp (.k q)).blk=some b):=by
  intro q b hb
  simp only[fn,LV.blk,find]at hb ⊢
  cases hq:Nat.beq jj q with
  |true=>
   rw[hq]at hb
   exact .inl ⟨(Nat.eq_of_beq_eq_true hq).symm,(Option.some.inj hb).symm⟩
  |false=>
   rw[hq]at hb
   simp only[find_setB]at hb
   have hne:q≠jj:=by rintro rfl;simp[Nat.beq_refl]at hq
   by_cases hj:q=k
   ·rw[if_pos hj]at hb;exact .inr (.inl ⟨hj,(Option.some.inj hb).symm⟩)
   ·rw[if_neg hj]at hb;exact .inr (.inr ⟨hne,hj,hb⟩)
 have fin:∀ρ':Rho,ρ'.key=ρ.key→(∀b o,ρ.imm b=some o→ρ'.imm b=some o)→(∀b o,ρ'.imm b=some o→ρ.imm b=some o∨E.w0.heap.size≤b)→(∀b o,ρ'.imm b=some o→W.heap[b]? =some o)→
   (∀j b x,j≠k→(fn fr hp (.k j)).blk=some b→b.wr=true→b.data.live=true→ρ.key j=some x→ρ'.imm x.1=none)→(∀D,W.heap[D]? =some (.deferred (some []))→ρ.imm D=none→ρ'.imm D=none)→HasC ρ' (ptrA ds) x→
   RR E (fn fr ((jj,⟨tj,wj,.one (cs.set pp (ptrA ds))⟩)::setB hp k ⟨ty,true,.dead⟩)) a W:=by
  intro ρ' hkey himm hnew hheap hnone hmark hhas
  have hle:ρ.Le ρ':=⟨fun j y hy=>by rw[hkey];exact hy,himm⟩
  refine⟨ρ',⟨hext.le.trans hle,fun b o hb=>(hnew b o hb).elim (fun h=>hext.imm b o h) .inr,fun j hj=>by rw[hkey];exact hext.fix j hj⟩,fun j hj=> ?_,{defers:= ?_,size:=hR.size,fr:= ?_,pres:=hR.pres,hp:= ?_}⟩
  ·have:=hfx j hj
   simp only[fn,LV.blk,find]at this ⊢
   cases hq:Nat.beq jj j with
   |true=>simp
   |false=>
    simp only[find_setB]
    split
    ·simp
    ·exact this
  ·obtain⟨Ds,d1,d2,d3⟩:=hR.defers
   refine⟨Ds,d1,d2,fun D hD=> ?_⟩
   obtain⟨e1,e2,e3⟩:=d3 D hD
   refine⟨e1,e2, ?_⟩
   exact hmark D e2 e3
  ·intro u sv hu
   exact Has.mono hle _ _ (hR.fr u sv hu)
  ·have hmap:∀q b,(fn fr ((jj,⟨tj,wj,.one (cs.set pp (ptrA ds))⟩)::setB hp k ⟨ty,true,.dead⟩) (.k q)).blk=some b→b.data.live=true→∃b0,(fn fr hp (.k q)).blk=some b0∧b0.wr=b.wr∧b0.data.live=true∧q≠k:=by
    intro q b hb hlv
    rcases hlayk q b hb with⟨rfl,rfl⟩|⟨_,rfl⟩|⟨_,h2,h3⟩
    ·exact⟨_,hjb,rfl,rfl,hjk⟩
    ·cases hlv
    ·exact⟨b,h3,rfl,hlv,h2⟩
   constructor
   ·intro q b hb
    rcases hlayk q b hb with⟨rfl,rfl⟩|⟨rfl,rfl⟩|⟨_,_,hb⟩
    ·refine .inr (.inl ⟨bj,nj,zj.flatten,exj,by rw[hkey];exact hj1,hj2,⟨zj, ?_,rfl⟩,hj4,hj5⟩)
     exact HasZ_put (HasZ.mono hle cs zj hj3) hzx hhas
    ·exact .inl rfl
    ·rcases hR.hp.blk q b hb with g0|⟨b',t',vs,ex,g1,g2,g3,g4⟩|⟨g1,g2⟩
     ·exact .inl g0
     ·exact .inr (.inl ⟨b',t',vs,ex,by rw[hkey];exact g1,g2,g3.mono hle,g4⟩)
     ·exact .inr (.inr ⟨by rw[hkey];exact g1,g2⟩)
   ·intro j j' y y' b b' hy hy' hne hyy hb hb' hl1 hl2
    rw[hkey]at hy hy'
    obtain⟨c0,h1,h2,h3,_⟩:=hmap j b hb hl1
    obtain⟨c0',h1',h2',h3',_⟩:=hmap j' b' hb' hl2
    rw[←h2]
    exact hR.hp.sep j j' y y' c0 c0' hy hy' hne hyy h1 h1' h3 h3'
   ·intro j b y hb hwr hl1 hy
    rw[hkey]at hy
    obtain⟨c0,h1,h2,h3,_⟩:=hmap j b hb hl1
    exact hR.hp.own j c0 y h1 (h2.trans hwr) h3 hy
   ·intro j y hy
    rw[hkey]at hy
    obtain⟨b,hb⟩:=hR.hp.dom j y hy
    simp only[fn,LV.blk,find]at hb ⊢
    cases hq:Nat.beq jj j with
    |true=>exact⟨_,rfl⟩
    |false=>
     simp only[find_setB]
     split
     ·exact⟨_,rfl⟩
     ·exact⟨b,hb⟩
   ·exact hheap
   ·intro j b y hb hwr hl1 hy
    rw[hkey]at hy
    obtain⟨c0,h1,h2,h3,h4⟩:=hmap j b hb hl1
    exact hnone j c0 y h4 h1 (h2.trans hwr) h3 hy
 simp only[HasC]at hx
 obtain⟨b,t',h1,rfl⟩:=hx
 rcases hR.hp.blk k _ hkb with g0|⟨b',t'',vs,ex,g1,g2,g3,g4,g5⟩|⟨g1,_⟩
 ·cases g0
 ·rw[h1]at g1
  cases g1
  rw[Data.obj_cells rfl]at g2
  have h2:W.heap[b]? =some (.cells (vs++ex).toArray ty (0,0)):=g2
  simp only[DataC]at g3
  obtain⟨z,z1,rfl⟩:=g3
  have hB:E.w0.heap.size≤b:=(hR.hp.own k _ _ hkb rfl hl h1).resolve_right (hW _)
  obtain⟨u,hup⟩:=(Up.refl ρ W E.w0.heap.size).add hR.hp.imm hB h2
  refine fin ⟨ρ.key,_,u.glob⟩ rfl u.le (fun b o hb=>(u.new b o hb).imp id (fun h=>h.1)) (fun c p hc=> ?_) (fun j blk y hj hb hwr hl1 hy=> ?_) (fun D hD1 hD2=> ?_) ?_
  ·rcases u.new c p hc with h|h
   ·exact hR.hp.imm c p h
   ·exact h.2
  ·show(if y.1=b then some _ else ρ.imm y.1)=none
   rw[if_neg]
   ·exact hR.hp.immw j blk y hb hwr hl1 hy
   ·intro he2
    have:=hR.hp.sep k j (b,t') y _ _ h1 hy (fun h=>hj h.symm) he2.symm hkb hb hl hl1
    cases this
  ·show(if D=b then some _ else ρ.imm D)=none
   rw[if_neg,hD2]
   rintro rfl
   rw[hD1]at h2;cases h2
  ·have hz:HasZ (bareR (fun x=>if x=b then some (.cells (z.flatten++ex).toArray ty (0,0))else ρ.imm x) u.glob) ds z:=keylessL_has (ρ:=ρ) u.le ds z hkl z1
   simp only[HasC]
   exact⟨u.glob,b,z,[],ex,ty,(0,0),if_pos rfl,hz,by simp⟩
 ·rw[h1]at g1;cases g1
end Go.Sx
namespace Go.Proofs.YtfjhnollamkdcaaGreatDoor
open Go.Sx
set_option linter.unusedSimpArgs false
set_option linter.unusedVariables false
set_option maxRecDepth 100000
set_option maxHeartbeats 40000000
abbrev sqA (n:Nat) (L:List (List Rat)):SV:=ptrA [iv n,mvec 1 fvec L]
abbrev bxS (k:Nat):Blk:=⟨112,true,.one [.ptr k 0 0 0]⟩
theorem SWx_freezeS {E:Env} (t:Nat) (ts ks:List Nat) {K:Post'} {co:Code} {fr:List (Nat×SV)} {hp:List (Nat×Blk)} {r n:Nat} {X:Mx} (hW:∀b,¬E.W0 b) (ht:lk fr t=some (.ptr t 0 0 0)) (h0:find hp t=some (bxS 1001)) (h1:find hp 1001=some (sqB r n)) (h2:find hp 1002=some (rkB true (cellsE r n)))
  (h4:∀j,j<r→find hp (1010+j)=some (rwB true (rowsM n X j))) (htb:t<1000) (htk:t∉ks) (hn1:normOKf ks fr ts=true) (hn2:normOKh ks hp ks=true) (hn3:(injOK (fun k=>k) ks&&fixOK (fun k=>k) ks E.fx)=true) (hb:bigN ks=true) (hr:r≤1000) (hE:E.OK)
  (hs:SWx E co K ((t,ptrA [sqA n ((List.range r).map (rowsM n X))])::normF (fun k=>k) ((t,ptrA [sqA n ((List.range r).map (rowsM n X))])::fr) ts) (pickH hp ks)):SWx E co K fr hp:=by
 refine⟨fun a w hR=>hs.run a w ?_⟩
 have hbig:∀k∈ks,k<1000:=fun k hk=>by simpa [Nat.blt_eq]using List.all_eq_true.1 hb k hk
 obtain⟨hp1,cs1,g1,g2,g3,g4,g5⟩:=freeze_rows (c:=n) (M:=rowsM n X) hW r 0 (cellsE r n) hp h2 (fun j _ hj=>by simp[List.getElem?_map,List.getElem?_range (show j<r by omega)]) (fun j _ hj=>⟨h4 j (by omega),(rwL_len _ _).symm⟩) hR
 have hcs:cs1=((List.range r).map (rowsM n X)).map fvec:=by
  refine List.ext_getElem? fun j=> ?_
  rw[g4 j]
  by_cases hj:j<r
  ·rw[if_pos ⟨Nat.zero_le _,by omega⟩];simp[List.getElem?_map,List.getElem?_range hj]
  ·rw[if_neg (by omega)];simp[List.getElem?_map,List.getElem?_eq_none (show(List.range r).length≤j by simp;omega)]
 have hkl:keylessL cs1=true:=by rw[hcs];exact keylessL_map (fun _=>rfl) _
 have haw:allW 1 cs1=true:=by
  rw[hcs]
  generalize (List.range r).map (rowsM n X)=L
  induction L with
  |nil=>rfl
  |cons x L ih=>rw[List.map_cons,allW,ih];rfl
 have r1:=reseq_RR g2 hkl haw g1
 have q1:∀k,k≠1002→find ((1002,(⟨28,true,.seq 1 cs1⟩:Blk))::hp1) k=find hp1 k:=fun k hk=>find_ne hk
 have hl1:r=cs1.length:=by rw[g3];simp
 have r2:=freezeCS (jj:=1001) (pp:=1) (k:=1002) (n:=r) hW (by rw[q1 _ (by decide),g5 _ (by decide) (fun j _ _=>by omega)];exact h1) (by decide) rfl (show find _ 1002=some ⟨28,true,.seq 1 cs1⟩from rfl) hkl hl1 r1
 have r3:=freezePC_RR t 0 1001 hW (show find _ t=some (bxS 1001) by
  rw[find_ne (by omega),find_setB,if_neg (by omega),q1 _ (by omega),g5 _ (by omega) (fun j _ _=>by omega)];exact h0) (by omega) rfl (show find _ 1001=some _ from rfl) (by simp[keylessL,keyless,List.set]) r2
 have r4:=freezeP_RR t t hW ht (show find _ t=some _ from find_head) (by simp[keylessL,keyless,List.set]) r3
 rw[hcs]at r4
 have e4:(List.set [SV.ptr 1001 0 0 0] 0 (ptrA (List.set [iv n,.slc 1002 1 0 r] 1 (vecA 1 (((List.range r).map (rowsM n X)).map fvec)))))=[sqA n ((List.range r).map (rowsM n X))]:=rfl
 rw[e4]at r4
 generalize hq:setB _ t _=HH at r4
 have hfind:∀k∈ks,find HH k=find hp k:=fun k hk=>by
  have:=hbig k hk
  have hkt:k≠t:=fun e=>htk (e▸hk)
  rw[←hq,find_setB,if_neg hkt,find_ne hkt,find_setB,if_neg (by omega),find_ne (by omega),find_setB,if_neg (by omega),←hcs,q1 _ (by omega),g5 _ (by omega) (fun j _ _=>by omega)]
 have hno:normOK E.fx (fun k=>k) (t::ts) ks ((t,ptrA [sqA n ((List.range r).map (rowsM n X))])::fr) HH=true:=by
  refine normOK_of ?_ (by rw[normOKh_find hfind];exact hn2) hn3
  rw[normOKf]
  simp only[lk,Nat.beq_refl]
  rw[normOKf_put hn1];rfl
 have r5:=norm_RR hE hno r4
 rw[normH_id,pickH_find hfind]at r5
 rw[normF]at r5
 simp only[lk,Nat.beq_refl]at r5
 exact r5
theorem has_sq {ρ:Rho} (z:List (List Value)) (h:HasZ ρ [iv (0:Nat),.val (.slice none 0 0)] z):HasZ ρ [iv (0:Nat),mvec 1 fvec []] z:=by
 simp only[HasZ]at h ⊢
 obtain⟨x,r,rfl,h1,y,r2,rfl,h2,h3⟩:=h
 exact⟨x,_,rfl,h1,y,_,rfl,nil_vec h2,h3⟩
theorem SWx_freezeS0 {E:Env} (t:Nat) {K:Post'} {co:Code} {fr:List (Nat×SV)} {hp:List (Nat×Blk)} (hW:∀b,¬E.W0 b) (ht:lk fr t=some (.ptr t 0 0 0)) (h0:find hp t=some (bxS 1001)) (htb:t<1000) (h1:find hp 1001=some ⟨117,true,.one [iv (0:Nat),.val (.slice none 0 0)]⟩)
  (hs:SWx E co K ((t,ptrA [sqA 0 []])::fr) (setB ((t,⟨112,true,.one [sqA 0 []]⟩)::setB ((1001,⟨117,true,.one [iv (0:Nat),mvec 1 fvec []]⟩)::hp) 1001 ⟨117,true,.dead⟩) t ⟨112,true,.dead⟩)):SWx E co K fr hp:=
 ⟨fun a w hR=>hs.run a w (freezeP_RR t t hW ht find_head (by simp[keylessL,keyless]) (freezePC_RR t 0 1001 hW (by rw[find_ne (by omega)];exact h0) (by omega) rfl (show find ((1001,(⟨117,true,.one [iv (0:Nat),mvec 1 fvec []]⟩:Blk))::hp) 1001=some _ from rfl) (by simp[keylessL,keyless]) (retell_RR h1 (fun _ z hz=>has_sq z hz) hR)))⟩
end Go.Proofs.YtfjhnollamkdcaaGreatDoor
