/- The texts Qk, Qm, Qn, Nh. -/
import Derived.Test.YtbopchpncgdaaaaGreatDoorQsA10
namespace Go.Sx
set_option linter.unusedSimpArgs false
set_option linter.unusedVariables false
section
variable {E:Env} {fr:List (Nat×SV)} {a:Act} {W:World}
theorem freezeCF {jj pp k n:Nat} {tj ty:TypeId} {wj:Bool} {cs:List SV} {hp:List (Nat×Blk)} {qs:List Rat} (hW:∀b,¬E.W0 b) (hjf:find hp jj=some ⟨tj,wj,.one cs⟩) (hjk:jj≠k) (hpc:cs[pp]? =some (.slc k 5 0 n)) (hk:find hp k=some ⟨ty,true,.fracs qs⟩) (hn:n=qs.length)
  (hR:RR E (fn fr hp) a W):RR E (fn fr ((jj,⟨tj,wj,.one (cs.set pp (fvec qs))⟩)::setB hp k ⟨ty,true,.dead⟩)) a W:=by
 have:=freezeC_RR jj pp k (xs:=qs.map .frac) hW hjf hjk hpc hk rfl rfl (keylessL_map (fun _=>rfl) qs) (by simp;omega) hR
 rwa [cutL_all (by simp;omega)]at this
theorem freezeCI {jj pp k n:Nat} {tj ty:TypeId} {wj:Bool} {cs:List SV} {hp:List (Nat×Blk)} {kd:IntKind} {xs:List Int} (hW:∀b,¬E.W0 b) (hjf:find hp jj=some ⟨tj,wj,.one cs⟩) (hjk:jj≠k) (hpc:cs[pp]? =some (.slc k 1 0 n)) (hk:find hp k=some ⟨ty,true,.ints kd xs⟩) (hn:n=xs.length)
  (hR:RR E (fn fr hp) a W):RR E (fn fr ((jj,⟨tj,wj,.one (cs.set pp (ivec kd xs))⟩)::setB hp k ⟨ty,true,.dead⟩)) a W:=by
 have:=freezeC_RR jj pp k (xs:=xs.map (iel kd)) hW hjf hjk hpc hk rfl rfl (keylessL_map (fun _=>rfl) xs) (by simp;omega) hR
 rwa [cutL_all (by simp;omega)]at this
theorem freezeCS {jj pp k n:Nat} {tj ty:TypeId} {wj:Bool} {cs xs:List SV} {hp:List (Nat×Blk)} (hW:∀b,¬E.W0 b) (hjf:find hp jj=some ⟨tj,wj,.one cs⟩) (hjk:jj≠k) (hpc:cs[pp]? =some (.slc k 1 0 n)) (hk:find hp k=some ⟨ty,true,.seq 1 xs⟩) (hkl:keylessL xs=true) (hn:n=xs.length)
  (hR:RR E (fn fr hp) a W):RR E (fn fr ((jj,⟨tj,wj,.one (cs.set pp (vecA 1 xs))⟩)::setB hp k ⟨ty,true,.dead⟩)) a W:=by
 have:=freezeC_RR jj pp k (xs:=xs) hW hjf hjk hpc hk rfl rfl hkl (by omega) hR
 rwa [cutL_all (by omega)]at this
theorem find_ne {j k:Nat} {b:Blk} {hp:List (Nat×Blk)} (h:k≠j):find ((j,b)::hp) k=find hp k:=by
 rw[find]
 cases hb:Nat.beq j k with
 |true=>exact absurd (Nat.eq_of_beq_eq_true hb).symm h
 |false=>rfl
theorem new_cons {hp l:List (Nat×Blk)} {k:Nat} {b:Blk} (h:find hp k=none) (r:∀j c,(j,c)∈l→find hp j=none):∀j c,(j,c)∈(k,b)::l→find hp j=none:=by
 intro j c hm
 rcases List.mem_cons.1 hm with e|e
 ·cases e;exact h
 ·exact r j c e
theorem freeze_rows {tj ty:TypeId} {c:Nat} {M:Nat→List Rat} (hW:∀b,¬E.W0 b):∀(n j0:Nat) (cs:List SV) (hp:List (Nat×Blk)),find hp 1002=some ⟨tj,true,.one cs⟩→(∀j,j0≤j→j<j0+n→cs[j]? =some (.slc (1010+j) 5 0 c))→
  (∀j,j0≤j→j<j0+n→find hp (1010+j)=some ⟨ty,true,.fracs (M j)⟩∧c=(M j).length)→RR E (fn fr hp) a W→
  ∃hp' cs',RR E (fn fr hp') a W∧find hp' 1002=some ⟨tj,true,.one cs'⟩∧cs'.length=cs.length∧(∀j,cs'[j]? =if j0≤j∧j<j0+n then some (fvec (M j))else cs[j]?)∧∀k,k≠1002→(∀j,j0≤j→j<j0+n→k≠1010+j)→find hp' k=find hp k
 |0,j0,cs,hp,h1,_,_,hR=>⟨hp,cs,hR,h1,rfl,fun j=>by rw[if_neg (by omega)],fun _ _ _=>rfl⟩
 |n+1,j0,cs,hp,h1,h2,h3,hR=>by
  obtain⟨h4,h5⟩:=h3 j0 (Nat.le_refl _) (by omega)
  have h6:=freezeCF (pp:=j0) hW h1 (by omega) (h2 j0 (Nat.le_refl _) (by omega)) h4 h5 hR
  have f1:find ((1002,(⟨tj,true,.one (cs.set j0 (fvec (M j0)))⟩:Blk))::setB hp (1010+j0) ⟨ty,true,.dead⟩) 1002=some ⟨tj,true,.one (cs.set j0 (fvec (M j0)))⟩:=rfl
  have f2:∀k,k≠1002→find ((1002,(⟨tj,true,.one (cs.set j0 (fvec (M j0)))⟩:Blk))::setB hp (1010+j0) ⟨ty,true,.dead⟩) k=if k=1010+j0 then some ⟨ty,true,.dead⟩else find hp k:=fun k hk=>by
   rw[find_ne hk,find_setB]
  have hlt:j0<cs.length:=(List.getElem?_eq_some_iff.1 (h2 j0 (Nat.le_refl _) (by omega))).1
  obtain⟨hp',cs',g1,g2,g3,g4,g5⟩:=freeze_rows hW n (j0+1) _ _ f1 (fun j hj1 hj2=>by rw[List.getElem?_set_ne (by omega)];exact h2 j (by omega) (by omega)) (fun j hj1 hj2=>by rw[f2 _ (by omega),if_neg (by omega)];exact h3 j (by omega) (by omega)) h6
  refine⟨hp',cs',g1,g2,by rw[g3,List.length_set],fun j=> ?_,fun k hk hj=> ?_⟩
  ·rw[g4 j]
   by_cases e1:j0+1≤j∧j<j0+1+n
   ·rw[if_pos e1,if_pos (by omega)]
   ·rw[if_neg e1]
    by_cases e2:j=j0
    ·subst e2
     rw[if_pos (by omega),List.getElem?_set_self hlt]
    ·rw[if_neg (by omega),List.getElem?_set_ne (Ne.symm e2)]
  ·rw[g5 k hk (fun j h1 h2=>hj j (by omega) (by omega)),f2 k hk,if_neg (hj j0 (Nat.le_refl _) (by omega))]
end
theorem normOKf_put {ks:List Nat} {fr:List (Nat×SV)} {t:Nat} {p:Pred}:∀{ts:List Nat},normOKf ks fr ts=true→normOKf ks ((t,.atom p)::fr) ts=true
 |[],_=>rfl
 |u::r,h=>by
  rw[normOKf]at h ⊢
  rw[lk]
  cases hb:Nat.beq t u with
  |true=>
   simp only
   have:normOKf ks fr r=true:=by
    cases hl:lk fr u with
    |none=>rw[hl]at h;exact h
    |some c=>rw[hl]at h;simp only[Bool.and_eq_true]at h;exact h.2
   rw[normOKf_put this];rfl
  |false=>
   simp only
   cases hl:lk fr u with
   |none=>rw[hl]at h;exact normOKf_put h
   |some c=>rw[hl]at h;simp only[Bool.and_eq_true]at h ⊢;exact⟨h.1,normOKf_put h.2⟩
theorem pickH_find {hp hp':List (Nat×Blk)}:∀{ks:List Nat},(∀k∈ks,find hp' k=find hp k)→pickH hp' ks=pickH hp ks
 |[],_=>rfl
 |k::r,h=>by rw[pickH,pickH,h k (List.mem_cons_self ..),pickH_find fun j hj=>h j (List.mem_cons_of_mem _ hj)]
theorem normOKh_find {hp hp':List (Nat×Blk)} {ks:List Nat}:∀{l:List Nat},(∀k∈l,find hp' k=find hp k)→normOKh ks hp' l=normOKh ks hp l
 |[],_=>rfl
 |k::r,h=>by rw[normOKh,normOKh,h k (List.mem_cons_self ..),normOKh_find fun j hj=>h j (List.mem_cons_of_mem _ hj)]
end Go.Sx
namespace Go.Proofs.YtbopchpncgdaaaaGreatDoor
open Go.Sx
set_option linter.unusedSimpArgs false
set_option linter.unusedVariables false
set_option maxRecDepth 100000
set_option maxHeartbeats 40000000
abbrev wCs (r m c:Nat) (M:Nat→List Rat) (pv:List Int) (d:Rat):List SV:=[mvec 1 fvec ((List.range r).map M),iv m,ivec .i64 pv,.frac d]
abbrev wkA (r m c:Nat) (M:Nat→List Rat) (pv:List Int) (d:Rat):SV:=ptrA (wCs r m c M pv d)
def bigN (l:List Nat):Bool:=l.all fun k=>Nat.blt k 1000
theorem freezeW {E:Env} (t:Nat) (ts ks:List Nat) {fr:List (Nat×SV)} {hp:List (Nat×Blk)} {r m c p:Nat} {M:Nat→List Rat} {pv:List Int} {d:Rat} (hW:∀b,¬E.W0 b) (ht:lk fr t=some (.ptr 1001 0 0 0)) (h1:find hp 1001=some (wkB true r m p d)) (h2:find hp 1002=some (rkB true (cellsE r c))) (h3:find hp 1003=some (pvB true pv))
  (h4:∀j,j<r→find hp (1010+j)=some (rwB true (M j))∧c=(M j).length) (h5:p=pv.length) (hn1:normOKf ks fr ts=true) (hn2:normOKh ks hp ks=true) (hn3:(injOK (fun k=>k) ks&&fixOK (fun k=>k) ks E.fx)=true) (hb:bigN ks=true) (hr:r≤1000) (hE:E.OK):
  ∀a w,RR E (fn fr hp) a w→RR E (fn ((t,wkA r m c M pv d)::normF (fun k=>k) ((t,wkA r m c M pv d)::fr) ts) (pickH hp ks)) a w:=by
 intro a w hR
 have hbig:∀k∈ks,k<1000:=fun k hk=>by simpa [Nat.blt_eq]using List.all_eq_true.1 hb k hk
 obtain⟨hp1,cs1,g1,g2,g3,g4,g5⟩:=freeze_rows (M:=M) hW r 0 (cellsE r c) hp h2 (fun j _ hj=>by simp[List.getElem?_map,List.getElem?_range (show j<r by omega)]) (fun j _ hj=>h4 j (by omega)) hR
 have hcs:cs1=((List.range r).map M).map fvec:=by
  refine List.ext_getElem? fun j=> ?_
  rw[g4 j]
  by_cases hj:j<r
  ·rw[if_pos ⟨Nat.zero_le _,by omega⟩];simp[List.getElem?_map,List.getElem?_range hj]
  ·rw[if_neg (by omega)];simp[List.getElem?_map,List.getElem?_eq_none (show(List.range r).length≤j by simp;omega)]
 have hkl:keylessL cs1=true:=by rw[hcs];exact keylessL_map (fun _=>rfl) _
 have haw:allW 1 cs1=true:=by
  rw[hcs]
  generalize (List.range r).map M=L
  induction L with
  |nil=>rfl
  |cons x L ih=>rw[List.map_cons,allW,ih];rfl
 have r1:=reseq_RR g2 hkl haw g1
 have q1:∀k,k≠1002→find ((1002,(⟨22,true,.seq 1 cs1⟩:Blk))::hp1) k=find hp1 k:=fun k hk=>by
  exact find_ne hk
 have hl1:r=cs1.length:=by rw[g3];simp
 have r2:=freezeCS (jj:=1001) (pp:=0) (k:=1002) (n:=r) hW (by rw[q1 _ (by decide),g5 _ (by decide) (fun j _ _=>by omega)];exact h1) (by decide) rfl (show find _ 1002=some ⟨22,true,.seq 1 cs1⟩from rfl) hkl hl1 r1
 have r3:=freezeCI (jj:=1001) (pp:=2) (k:=1003) (n:=p) (kd:=.i64) (xs:=pv) hW (show find _ 1001=some _ from rfl) (by decide) rfl (show find _ 1003=some (pvB true pv) by
  show find (setB _ 1002 _) 1003=_
  rw[find_setB,if_neg (by decide),q1 _ (by decide),g5 _ (by decide) (fun j _ _=>by omega)];exact h3) h5 r2
 have r4:=freezeP_RR t 1001 hW ht (show find _ 1001=some _ from rfl) (by simp[keylessL,keyless,List.set]) r3
 rw[hcs]at r4
 have e4:List.set (List.set [.slc 1002 1 0 r,iv m,.slc 1003 1 0 p,.frac d] 0 (vecA 1 (((List.range r).map M).map fvec))) 2 (ivec .i64 pv)=wCs r m c M pv d:=rfl
 rw[e4]at r4
 generalize hq:setB _ 1001 _=HH at r4
 have hfind:∀k∈ks,find HH k=find hp k:=fun k hk=>by
  have:=hbig k hk
  rw[←hq,find_setB,if_neg (by omega),find_ne (by omega),find_setB,if_neg (by omega),find_ne (by omega),find_setB,if_neg (by omega),←hcs,q1 _ (by omega),g5 _ (by omega) (fun j _ _=>by omega)]
 have hno:normOK E.fx (fun k=>k) (t::ts) ks ((t,wkA r m c M pv d)::fr) HH=true:=by
  refine normOK_of ?_ (by rw[normOKh_find hfind];exact hn2) hn3
  rw[normOKf]
  simp only[lk,Nat.beq_refl]
  rw[normOKf_put hn1];rfl
 have r5:=norm_RR hE hno r4
 rw[normH_id,pickH_find hfind]at r5
 rw[normF]at r5
 simp only[lk,Nat.beq_refl]at r5
 exact r5
end Go.Proofs.YtbopchpncgdaaaaGreatDoor
namespace Go.Proofs.YtbopchpncgdaaaaGreatDoor
open Go.Sx
set_option linter.unusedSimpArgs false
set_option linter.unusedVariables false
set_option maxRecDepth 100000
set_option maxHeartbeats 40000000
theorem rM_len (r:Nat) (M:Nat→List Rat):((List.range r).map M).length=r:=by simp
theorem rM_get {r i:Nat} {M:Nat→List Rat} (h:i<r):((List.range r).map M).getD i []=M i:=by simp[List.getD_eq_getElem?_getD,h]
theorem e_part1 {r m c n:Nat} {M:Nat→List Rat} {pv:List Int} {d:Rat} (hM:∀i,i<r→(M i).length=c) (f:Nat) (hn:f+n≤c) (hc:c≤4096) (i k:Nat) (hi:i<r) (hk:k<n) (hr:r≤2048):
  CallOK Tryz.prog 142 ([]++([iv (i:Nat),iv (k:Nat)]++[ptrA [wkA r m c M pv d],ptrA [iv f]])) [] (.frac ((M i).getD (f+k) 0)) [] []:=by
 have h1:=rM_len r M
 have h2:=rM_get (M:=M) hi
 have h3:=hM i hi
 have t1:IntKind.i64.wrap ((f:Int)+(k:Int))=((f+k:Nat):Int):=by rw[wrap_i64 (by omega) (by omega)];omega
 refine callV (Z:=[]) tabOK mixedOK Tryz.func142 rfl (by kernel_rfl) rfl rfl (by kernel_rfl) rfl ?_
 intro W0 w0 ρ0 hE
 conv=>whnf
 (repeat((first|refine step_i (by kernel_rfl) ?_|refine g_o (op_indexN (α:=Rat) (d:=0) rfl (ev_ok rfl) (ev_ok rfl) (tgt rfl) rfl (tgt rfl) rfl (by omega)) ?_|refine g_o (op_loadA rfl (ev_ok rfl) (tgt rfl) rfl (Nat.succ_ne_zero _) rfl) ?_|refine g_o (op_indexN (α:=List Rat) (d:=[]) rfl (ev_ok rfl) (ev_ok rfl) (tgt rfl) rfl (tgt rfl) rfl (by omega)) ?_|refine g_o (op_fieldA rfl (ev_ok rfl) (tgt rfl) rfl rfl (Nat.succ_ne_zero _) rfl) ?_|refine g_o (op_nilCheckA rfl (ev_ok rfl)) ?_|rw[t1]|rw[h2]);conv=>whnf));(first|exact Recast.refl _|exact Frz.recast (Recast.refl _) rfl|(refine Frz.one rfl rfl ?_;skip)|(refine Frz.tup ?_;skip))
theorem e_part {r m c n:Nat} {M:Nat→List Rat} {pv:List Int} {d:Rat} (hM:∀i,i<r→(M i).length=c) (f:Nat) (hn:f+n≤c) (hc:c≤2048) (hr:r≤2048):
  CallOK Tryz.prog 76 [wkA r m c M pv d,iv f,iv ((f+n:Nat):Int)] [] (mA r n (mk r n fun i k=>(M i).getD (f+k) 0)) [] []:=by
 have h1:=rM_len r M
 have k1:=m_Make2 (r:=r) (c:=n) hr (by omega) (fun i k=>(M i).getD (f+k) 0) 142 _ _ fun i k hi hk=>e_part1 (m:=m) (pv:=pv) (d:=d) hM f hn (by omega) i k hi hk hr
 have t1:IntKind.i64.wrap (((f+n:Nat):Int) - (f:Int))=(n:Int):=by rw[wrap_i64 (by omega) (by omega)];omega
 refine callV (Z:=[3,4]) tabOK mixedOK Tryz.func76 rfl (by kernel_rfl) rfl rfl (by kernel_rfl) rfl ?_
 intro W0 w0 ρ0 hE
 conv=>whnf
 (repeat((first|refine step_i (by kernel_rfl) ?_|refine g_c (by assumption) ?_|refine g_o (op_lenM rfl rfl rfl (ev_ok rfl) (tgt rfl) rfl) ?_|refine g_o (op_loadA rfl (ev_ok rfl) (tgt rfl) rfl (Nat.succ_ne_zero _) rfl) ?_|refine g_o (op_fieldA rfl (ev_ok rfl) (tgt rfl) rfl rfl (Nat.succ_ne_zero _) rfl) ?_|refine g_o (op_nilCheckA rfl (ev_ok rfl)) ?_|refine g_o (op_makeFunc rfl rfl rfl) ?_|rw[t1]|rw[h1]);conv=>whnf));(first|exact Recast.refl _|exact Frz.recast (Recast.refl _) rfl|(refine Frz.one rfl rfl ?_;skip)|(refine Frz.tup ?_;skip))
end Go.Proofs.YtbopchpncgdaaaaGreatDoor
namespace Go.Proofs.YtbopchpncgdaaaaGreatDoor
open Go.Sx
set_option linter.unusedSimpArgs false
set_option linter.unusedVariables false
set_option maxRecDepth 100000
set_option maxHeartbeats 40000000
theorem SWx_freezeW {E:Env} (t:Nat) (ts ks:List Nat) {K:Post'} {co:Code} {fr:List (Nat×SV)} {hp:List (Nat×Blk)} {r m c p:Nat} {M:Nat→List Rat} {pv:List Int} {d:Rat} (hW:∀b,¬E.W0 b) (ht:lk fr t=some (.ptr 1001 0 0 0)) (h1:find hp 1001=some (wkB true r m p d)) (h2:find hp 1002=some (rkB true (cellsE r c))) (h3:find hp 1003=some (pvB true pv))
  (h4:∀j,j<r→find hp (1010+j)=some (rwB true (M j))∧c=(M j).length) (h5:p=pv.length) (hn1:normOKf ks fr ts=true) (hn2:normOKh ks hp ks=true) (hn3:(injOK (fun k=>k) ks&&fixOK (fun k=>k) ks E.fx)=true) (hb:bigN ks=true) (hr:r≤1000) (hE:E.OK)
  (hs:SWx E co K ((t,wkA r m c M pv d)::normF (fun k=>k) ((t,wkA r m c M pv d)::fr) ts) (pickH hp ks)):SWx E co K fr hp:=
 ⟨fun a w hR=>hs.run a w (freezeW t ts ks hW ht h1 h2 h3 h4 h5 hn1 hn2 hn3 hb hr hE a w hR)⟩
abbrev wzB (m:Nat):Blk:=⟨147,true,.one [.val (.slice none 0 0),iv m,.val (.slice none 0 0),.frac 1]⟩
theorem has_wz {ρ:Rho} {m:Nat} (z:List (List Value)) (h:HasZ ρ [.val (.slice none 0 0),iv m,.val (.slice none 0 0),.frac 1] z):HasZ ρ (wCs 0 m 0 (fun _=>[]) [] 1) z:=by
 simp only[HasZ]at h ⊢
 obtain⟨x,r,rfl,h1,y,r2,rfl,h2,z,r3,rfl,h3,h4⟩:=h
 exact⟨x,_,rfl,nil_vec h1,y,_,rfl,h2,z,_,rfl,nil_vec h3,h4⟩
theorem SWx_freezeZ {E:Env} (t:Nat) {K:Post'} {co:Code} {fr:List (Nat×SV)} {hp:List (Nat×Blk)} {m:Nat} (hW:∀b,¬E.W0 b) (ht:lk fr t=some (.ptr 1001 0 0 0)) (h1:find hp 1001=some (wzB m))
  (hs:SWx E co K ((t,wkA 0 m 0 (fun _=>[]) [] 1)::fr) (setB ((1001,⟨147,true,.one (wCs 0 m 0 (fun _=>[]) [] 1)⟩)::hp) 1001 ⟨147,true,.dead⟩)):SWx E co K fr hp:=
 ⟨fun a w hR=>hs.run a w (freezeP_RR t 1001 hW ht rfl rfl (retell_RR h1 (fun _ z hz=>has_wz z hz) hR))⟩
theorem e_begunZ0 {c:Nat} (more:Nat) (a:List Rat) (g:FuncId) (ha:OKM 0 c a):
  CallOK Tryz.prog 73 [mA (0:Nat) c a,iv more,.clo g [] []] [] (.ptr 1001 0 0 0) [(1001,wzB c)] []:=by
 have k0:CallOK Tryz.prog 41 [iv 1] [] (.frac 1) [] []:=c_fInt 1 (by decide) (by decide)
 refine callID (Z:=[3]) tabOK mixedOK Tryz.func73 rfl (by kernel_rfl) (ShapeOKD.of rfl rfl rfl rfl rfl rfl rfl rfl rfl rfl rfl) rfl (NamesOK.id rfl) ?_
 intro W0 w0 ρ0 hE
 conv=>whnf
 (repeat((first|refine step_i (by kernel_rfl) ?_|refine g_c (by assumption) ?_|refine g_o (op_loadA rfl (ev_ok rfl) (tgt rfl) rfl (Nat.succ_ne_zero _) rfl) ?_|refine g_o (op_fieldA rfl (ev_ok rfl) (tgt rfl) rfl rfl (Nat.succ_ne_zero _) rfl) ?_);conv=>whnf))
 refine SW_loopN hE (fun k=>cond (Nat.beq k 15) 1001 k) [7,17,18] [15] (fun m' fr hp=>fr=[(7,.ptr 1001 0 0 0),(17,iv (0:Nat)),(18,iv (0:Nat))]∧hp=[(1001,wzB c)]) 0 ?_ ?_ ?_
 ·kernel_rfl
 ·exact⟨rfl,rfl⟩
 rintro m' _ _ ⟨rfl,rfl⟩
 conv=>whnf
 (repeat(first|(refine step_w2 rfl rfl ?_;conv=>whnf)))
 exact⟨Recast.refl _,get_cons rfl get_nil,get_nil⟩
theorem e_begunZ2 {c:Nat} (more:Nat) (a:List Rat) (g:FuncId) (p q:Pred) (ha:OKM 0 c a):
  CallOK Tryz.prog 73 [mA (0:Nat) c a,iv more,.clo g [] [.atom p,.atom q]] [] (.ptr 1001 0 0 0) [(1001,wzB c)] []:=by
 have k0:CallOK Tryz.prog 41 [iv 1] [] (.frac 1) [] []:=c_fInt 1 (by decide) (by decide)
 refine callID (Z:=[3]) tabOK mixedOK Tryz.func73 rfl (by kernel_rfl) (ShapeOKD.of rfl rfl rfl rfl rfl rfl rfl rfl rfl rfl rfl) rfl (NamesOK.id rfl) ?_
 intro W0 w0 ρ0 hE
 conv=>whnf
 (repeat((first|refine step_i (by kernel_rfl) ?_|refine g_c (by assumption) ?_|refine g_o (op_loadA rfl (ev_ok rfl) (tgt rfl) rfl (Nat.succ_ne_zero _) rfl) ?_|refine g_o (op_fieldA rfl (ev_ok rfl) (tgt rfl) rfl rfl (Nat.succ_ne_zero _) rfl) ?_);conv=>whnf))
 refine SW_loopN hE (fun k=>cond (Nat.beq k 15) 1001 k) [7,17,18] [15] (fun m' fr hp=>fr=[(7,.ptr 1001 0 0 0),(17,iv (0:Nat)),(18,iv (0:Nat))]∧hp=[(1001,wzB c)]) 0 ?_ ?_ ?_
 ·kernel_rfl
 ·exact⟨rfl,rfl⟩
 rintro m' _ _ ⟨rfl,rfl⟩
 conv=>whnf
 (repeat(first|(refine step_w2 rfl rfl ?_;conv=>whnf)))
 exact⟨Recast.refl _,get_cons rfl get_nil,get_nil⟩
abbrev wzR (m:Nat):Blk:=⟨147,false,.one [.val (.slice none 0 0),iv m,.val (.slice none 0 0),.frac 1]⟩
theorem e_reduceZ (m:Nat) (hm:m≤4096):CallOK Tryz.prog 75 [.ptr 1001 0 0 0] [(1001,wzR m)] (.ptr 1001 0 0 0) [] []:=by
 refine callI (Z:=[]) tabOK mixedOK Tryz.func75 rfl (by kernel_rfl) (ShapeOK.of rfl rfl rfl rfl rfl rfl rfl rfl rfl rfl rfl) rfl ?_
 intro W0 w0 ρ0 hE
 conv=>whnf
 (repeat(first|(rw[Nat.zero_add];conv=>whnf)))
 refine SW_loopE hE [0,9,10] (fun m' fr hp=>∃k:Nat,m'=m - k∧k≤m∧fr=[(0,.ptr 1001 0 0 0),(9,iv m),(10,iv k)]∧hp=[(1001,wzR m)]) m ?_ ?_ ?_
 ·kernel_rfl
 ·exact⟨0,rfl,Nat.zero_le _,rfl,rfl⟩
 rintro m' _ _ ⟨k,rfl,hk,rfl,rfl⟩
 conv=>whnf
 by_cases hlt:k<m
 ·have t1:=dlt hlt
  have t2:=winc (i:=k) (by omega)
  (repeat(first|(refine tst_tt t1 ?_;conv=>whnf)|(rw[t1];conv=>whnf)|(rw[Nat.zero_add];conv=>whnf)))
  refine SW_loopE hE [0,9,10,5] (fun m' fr hp=>m'=0∧fr=[(0,.ptr 1001 0 0 0),(9,iv m),(10,iv k),(5,iv (0:Nat))]∧hp=[(1001,wzR m)]) 0 ?_ ?_ ?_
  ·kernel_rfl
  ·exact⟨rfl,rfl,rfl⟩
  rintro m' _ _ ⟨rfl,rfl,rfl⟩
  conv=>whnf
  (repeat(first|(refine step_w2 rfl rfl ?_;conv=>whnf)|(rw[t2];conv=>whnf)|(rw[Nat.zero_add];conv=>whnf)))
  exact⟨m - (k+1),by omega,by kernel_rfl,k+1,rfl,hlt,rfl,rfl⟩
 ·have t1:=dge hlt
  (repeat(first|(refine tst_ff t1 ?_;conv=>whnf)))
  exact⟨Recast.refl _,get_nil,get_nil⟩
theorem e_square {n:Nat} {a:List Rat} (ha:OKM n n a):CallOK Tryz.prog 81 [mA n n a] [] (iv 0) [] []:=by
 have k1:=m_Check0 ha
 refine callV (Z:=[1]) tabOK mixedOK Tryz.func81 rfl (by kernel_rfl) rfl rfl (by kernel_rfl) rfl ?_
 intro W0 w0 ρ0 hE
 conv=>whnf
 (repeat((first|refine step_w2 rfl rfl ?_|refine g_c (by assumption) ?_|rw[bne_self_eq_false]|refine g_o (op_loadA rfl (ev_ok rfl) (tgt rfl) rfl (Nat.succ_ne_zero _) rfl) ?_|refine g_o (op_fieldA rfl (ev_ok rfl) (tgt rfl) rfl rfl (Nat.succ_ne_zero _) rfl) ?_);conv=>whnf));(first|exact Recast.refl _|exact Frz.recast (Recast.refl _) rfl|(refine Frz.one rfl rfl ?_;skip)|(refine Frz.tup ?_;skip))
end Go.Proofs.YtbopchpncgdaaaaGreatDoor
namespace Go.Proofs.YtbopchpncgdaaaaGreatDoor
open Go.Sx
set_option linter.unusedSimpArgs false
set_option linter.unusedVariables false
set_option maxRecDepth 100000
set_option maxHeartbeats 4000000
def freeF (sp:List Nat) (k:Nat):List Nat:=(List.range k).filter fun q=>decide (q∉sp)
theorem freeF_succ (sp:List Nat) (k:Nat):freeF sp (k+1)=freeF sp k++if k∈sp then[]else[k]:=by
 unfold freeF
 rw[List.range_succ,List.filter_append]
 by_cases h:k∈sp
 ·rw[if_pos h];simp[h]
 ·rw[if_neg h];simp[h]
theorem inc_nodup:∀{l:List Nat},(∀i j,i<j→j<l.length→l.getD i 0<l.getD j 0)→l.Nodup
 |[],_=>List.nodup_nil
 |a::l,h=>by
  refine List.nodup_cons.2 ⟨fun hm=> ?_,inc_nodup fun i j hij hj=>by simpa using h (i+1) (j+1) (by omega) (by simpa using hj)⟩
  obtain⟨j,hj,e⟩:=mem_getDN.1 hm
  have:=h 0 (j+1) (by omega) (by simpa using hj)
  simp only[List.getD_cons_zero,List.getD_cons_succ]at this
  omega
theorem count_one {k:Nat}:∀{l:List Nat},l.Nodup→k∈l→l.count k=1
 |a::l,hn,h=>by
  rw[List.count_cons]
  have hn:=List.nodup_cons.1 hn
  rcases List.mem_cons.1 h with e|e
  ·subst e;rw[List.count_eq_zero.2 hn.1];simp
  ·have g:a≠k:=fun g=>hn.1 (g▸e)
   rw[count_one hn.2 e];simp[g]
theorem free_len {sp:List Nat} (hn:sp.Nodup):∀k,(freeF sp k).length+sp.countP (fun q=>decide (q<k))=k
 |0=>by simp[freeF]
 |k+1=>by
  have ih:=free_len hn k
  rw[freeF_succ,List.length_append]
  have e:sp.countP (fun q=>decide (q<k+1))=sp.countP (fun q=>decide (q<k))+sp.count k:=by
   clear ih hn
   induction sp with
   |nil=>rfl
   |cons a l ih=>
    simp only[List.countP_cons,List.count_cons,ih,decide_eq_true_eq,beq_iff_eq]
    by_cases g:a=k
    ·subst g;simp;omega
    ·by_cases g2:a<k
     ·rw[if_pos (by omega),if_pos g2,if_neg g];omega
     ·rw[if_neg (by omega),if_neg g2,if_neg g];omega
  by_cases h:k∈sp
  ·rw[if_pos h,e,count_one hn h];simp;omega
  ·rw[if_neg h,e,List.count_eq_zero.2 h];simp;omega
theorem RE.nodup {r c:Nat} {w:Mx} {sp:List Nat} (h:RE r c w sp):sp.Nodup:=inc_nodup h.inc
theorem RE.free {r c:Nat} {w:Mx} {sp:List Nat} (h:RE r c w sp):(freeF sp c).length+sp.length=c:=by
 have:=free_len h.nodup c
 rwa [List.countP_eq_length.2 fun q hq=>by
  obtain⟨j,hj,rfl⟩:=mem_getDN.1 hq
  exact decide_eq_true (h.lt j hj)]at this
theorem ker_congr {r c:Nat} {W V:Mx} (h:∀i q,i<r→q<c→W i q=V i q) (x:Nat→Rat):Ker r c W x↔Ker r c V x:=by
 have e:∀i,i<r→sumR c (fun q=>W i q*x q)=sumR c (fun q=>V i q*x q):=fun i hi=>sum_congr c fun q hq=>by rw[h i q hi hq]
 exact⟨fun g i hi=>by rw[←e i hi];exact g i hi,fun g i hi=>by rw[e i hi];exact g i hi⟩
theorem ker_free {r c:Nat} {w:Mx} {sp:List Nat} (h:RE r c w sp) {z:Nat→Rat} (hz:Ker r c w z) (hf:∀q,q<c→q∉sp→z q=0):∀q,q<c→z q=0:=by
 intro q hq
 by_cases g:q∈sp
 ·obtain⟨j,hj,rfl⟩:=mem_getDN.1 g
  have hjr:j<r:=Nat.lt_of_lt_of_le hj h.len
  have:=hz j hjr
  rw[sum_one (j:=sp.getD j 0) c hq fun q' hq' hne=>by
   by_cases g':q'∈sp
   ·obtain⟨i,hi,rfl⟩:=mem_getDN.1 g'
    rw[h.unit i hi j hjr,if_neg fun e=>hne (by rw[e])];grind
   ·rw[hf q' hq' g'];grind,h.unit j hj j hjr,if_pos rfl]at this
  grind
 ·exact hf q hq g
theorem aug_P {r m:Nat} {W:Mx} {s:St} {P:Mx} (hP:∀i,i<r→∀q,s.w i q=pr r P W i q) (hI:∀a k,a<r→k<r→W a (m+k)=delta a k) {i k:Nat} (hi:i<r) (hk:k<r):s.w i (m+k)=P i k:=by
 rw[hP i hi,pr,sum_congr r (g:=fun a=>P i a*delta a k) fun a ha=>by rw[hI a k ha hk],sum_deltaR,if_pos hk]
theorem inv_left {n:Nat} {W:Mx} {s:St} (hi:Inv n W n s) (hp:s.piv.length=n) (hI:∀a k,a<n→k<n→W a (n+k)=delta a k):∀i q,i<n→q<n→sumR n (fun a=>s.w i (n+a)*W a q)=delta i q:=by
 obtain⟨P,_,hP⟩:=hi.by_
 intro i q h1 h2
 rw[sum_congr n (g:=fun a=>P i a*W a q) fun a ha=>by rw[aug_P (m:=n) hP hI h1 ha]]
 have e1:=hP i h1 q
 unfold pr at e1
 rw[←e1]
 have e2:=hi.re.full hp q h2
 have:=hi.unit q (by omega) i h1
 rw[e2]at this
 rw[this,delta]
theorem full_det (n:Nat) (W:Mx):(redF n n ⟨W,[],1⟩).piv.length=n↔det n W≠0:=by
 have h:=red_det n W
 have hi:=Inv.red (r:=n) (W:=W) n
 obtain⟨P,h1,_⟩:=hi.by_
 have hd:(redF n n ⟨W,[],1⟩).d≠0:=det_ne (show(redF n n ⟨W,[],1⟩).d*det n P=1 by rw[Rat.mul_comm];exact h1)
 have hl:=hi.len
 by_cases g:(redF n n ⟨W,[],1⟩).piv.length<n
 ·rw[if_pos g]at h
  exact⟨fun e=>by omega,fun e=>absurd h.symm e⟩
 ·rw[if_neg g]at h
  exact⟨fun _=>by rw[←h];exact hd,fun _=>by omega⟩
end Go.Proofs.YtbopchpncgdaaaaGreatDoor
