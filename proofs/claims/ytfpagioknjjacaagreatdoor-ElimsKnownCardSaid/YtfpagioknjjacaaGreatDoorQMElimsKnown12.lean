/- The texts Qk, Qm, Qn, Nh, Qp. -/
import Derived.Test.YtfpagioknjjacaaGreatDoorQMElimsKnown11
import Derived.Test.YtfpagioknjjacaaGreatDoorQMElimsKnown8
import Derived.Test.YtfpagioknjjacaaGreatDoorQMElimsKnown5
import Derived.Test.YtfpagioknjjacaaGreatDoorQMElimsKnown6
namespace Go.Sx
set_option linter.unusedSimpArgs false
set_option linter.unusedVariables false
section
variable {E:Env} {fr:List (Nat×SV)} {a:Act} {W:World}
theorem DD {jj pp k n:Nat} {tj ty:TypeId} {wj:Bool} {cs:List SV} {hp:List (Nat×aF)} {qs:List Rat} (hW:∀b,¬E.W0 b) (hjf:find hp jj=some ⟨tj,wj,.one cs⟩) (hjk:jj≠k) (IK:cs[pp]? =some (.aO k 5 0 n)) (hk:find hp k=some ⟨ty,true,.cb qs⟩) (hn:n=qs.length)
  (hR:RR E (fn fr hp) a W):RR E (fn fr ((jj,⟨tj,wj,.one (cs.set pp (aN qs))⟩)::ff hp k ⟨ty,true,.dead⟩)) a W:=by
 have:=qN jj pp k (xs:=qs.map .frac) hW hjf hjk IK hk rfl rfl (bN (fun _=>rfl) qs) (by simp;omega) hR
 rwa [gi (by simp;omega)]at this
theorem LG {jj pp k n:Nat} {tj ty:TypeId} {wj:Bool} {cs:List SV} {hp:List (Nat×aF)} {kd:IntKind} {xs:List Int} (hW:∀b,¬E.W0 b) (hjf:find hp jj=some ⟨tj,wj,.one cs⟩) (hjk:jj≠k) (IK:cs[pp]? =some (.aO k 1 0 n)) (hk:find hp k=some ⟨ty,true,.ints kd xs⟩) (hn:n=xs.length)
  (hR:RR E (fn fr hp) a W):RR E (fn fr ((jj,⟨tj,wj,.one (cs.set pp (cO kd xs))⟩)::ff hp k ⟨ty,true,.dead⟩)) a W:=by
 have:=qN jj pp k (xs:=xs.map (jv kd)) hW hjf hjk IK hk rfl rfl (bN (fun _=>rfl) xs) (by simp;omega) hR
 rwa [gi (by simp;omega)]at this
theorem ym {jj pp k n:Nat} {tj ty:TypeId} {wj:Bool} {cs xs:List SV} {hp:List (Nat×aF)} (hW:∀b,¬E.W0 b) (hjf:find hp jj=some ⟨tj,wj,.one cs⟩) (hjk:jj≠k) (IK:cs[pp]? =some (.aO k 1 0 n)) (hk:find hp k=some ⟨ty,true,.seq 1 xs⟩) (od:bn xs=true) (hn:n=xs.length)
  (hR:RR E (fn fr hp) a W):RR E (fn fr ((jj,⟨tj,wj,.one (cs.set pp (eI 1 xs))⟩)::ff hp k ⟨ty,true,.dead⟩)) a W:=by
 have:=qN jj pp k (xs:=xs) hW hjf hjk IK hk rfl rfl od aa hR
 rwa [gi aa]at this
theorem sN {j k:Nat} {b:aF} {hp:List (Nat×aF)} (h:k≠j):find ((j,b)::hp) k=find hp k:=by
 rw[find]
 cases hb:Nat.beq j k with
 |true=>exact absurd (Nat.eq_of_beq_eq_true hb).symm h
 |false=>rfl
theorem JM {hp l:List (Nat×aF)} {k:Nat} {b:aF} (h:find hp k=none) (r:∀j c,(j,c)∈l→find hp j=none):∀j c,(j,c)∈(k,b)::l→find hp j=none:=by
 intro j c hm
 rcases List.mem_cons.1 hm with e|e
 ·cases e;exact h
 ·exact r j c e
theorem vu {tj ty:TypeId} {c:Nat} {M:Nat→List Rat} (hW:∀b,¬E.W0 b):∀(n j0:Nat) (cs:List SV) (hp:List (Nat×aF)),find hp 1002=some ⟨tj,true,.one cs⟩→(∀j,j0≤j→j<j0+n→cs[j]? =some (.aO (1010+j) 5 0 c))→
  (∀j,j0≤j→j<j0+n→find hp (1010+j)=some ⟨ty,true,.cb (M j)⟩∧c=(M j).length)→RR E (fn fr hp) a W→
  ∃cc cs',RR E (fn fr cc) a W∧find cc 1002=some ⟨tj,true,.one cs'⟩∧cs'.length=cs.length∧(∀j,cs'[j]? =if j0≤j∧j<j0+n then some (aN (M j))else cs[j]?)∧∀k,k≠1002→(∀j,j0≤j→j<j0+n→k≠1010+j)→find cc k=find hp k
 |0,j0,cs,hp,h1,_,_,hR=>⟨hp,cs,hR,h1,rfl,fun j=>by rw[if_neg aa],fun _ _ _=>rfl⟩
 |n+1,j0,cs,hp,h1,h2,h3,hR=>by
  obtain⟨h4,h5⟩:=h3 j0 (Nat.le_refl _) aa
  have h6:=DD (pp:=j0) hW h1 aa (h2 j0 (Nat.le_refl _) aa) h4 h5 hR
  have f1:find ((1002,(⟨tj,true,.one (cs.set j0 (aN (M j0)))⟩:aF))::ff hp (1010+j0) ⟨ty,true,.dead⟩) 1002=some ⟨tj,true,.one (cs.set j0 (aN (M j0)))⟩:=rfl
  have f2:∀k,k≠1002→find ((1002,(⟨tj,true,.one (cs.set j0 (aN (M j0)))⟩:aF))::ff hp (1010+j0) ⟨ty,true,.dead⟩) k=if k=1010+j0 then some ⟨ty,true,.dead⟩else find hp k:=fun k hk=>by
   rw[sN hk,cq]
  have aE:j0<cs.length:=(List.getElem?_eq_some_iff.1 (h2 j0 (Nat.le_refl _) aa)).1
  obtain⟨cc,cs',g1,g2,g3,g4,g5⟩:=vu hW n (j0+1) _ _ f1 (fun j hj1 hj2=>by rw[List.getElem?_set_ne aa];exact h2 j aa aa) (fun j hj1 hj2=>by rw[f2 _ aa,if_neg aa];exact h3 j aa aa) h6
  refine⟨cc,cs',g1,g2,by rw[g3,List.length_set],fun j=> ?_,fun k hk hj=> ?_⟩
  ·rw[g4 j]
   by_cases e1:j0+1≤j∧j<j0+1+n
   ·rw[if_pos e1,if_pos aa]
   ·rw[if_neg e1]
    by_cases e2:j=j0
    ·subst e2
     rw[if_pos aa,List.getElem?_set_self aE]
    ·rw[if_neg aa,List.getElem?_set_ne (Ne.symm e2)]
  ·rw[g5 k hk (fun j h1 h2=>hj j aa aa),f2 k hk,if_neg (hj j0 (Nat.le_refl _) aa)]
end
theorem js {ks:List Nat} {fr:List (Nat×SV)} {t:Nat} {p:Pred}:∀{ts:List Nat},eg ks fr ts=true→eg ks ((t,.atom p)::fr) ts=true
 |[],_=>rfl
 |u::r,h=>by
  rw[eg]at h ⊢
  rw[lk]
  cases hb:Nat.beq t u with
  |true=>
   simp only
   have:eg ks fr r=true:=by
    cases hl:lk fr u with
    |none=>rw[hl]at h;exact h
    |some c=>rw[hl]at h;simp only[Bool.and_eq_true]at h;exact h.2
   rw[js this];rfl
  |false=>
   simp only
   cases hl:lk fr u with
   |none=>rw[hl]at h;exact js h
   |some c=>rw[hl]at h;simp only[Bool.and_eq_true]at h ⊢;exact⟨h.1,js h.2⟩
theorem qT {hp cc:List (Nat×aF)}:∀{ks:List Nat},(∀k∈ks,find cc k=find hp k)→nb cc ks=nb hp ks
 |[],_=>rfl
 |k::r,h=>by rw[nb,nb,h k (List.mem_cons_self ..),qT fun j hj=>h j (List.mem_cons_of_mem _ hj)]
theorem nT {hp cc:List (Nat×aF)} {ks:List Nat}:∀{l:List Nat},(∀k∈l,find cc k=find hp k)→dz ks cc l=dz ks hp l
 |[],_=>rfl
 |k::r,h=>by rw[dz,dz,h k (List.mem_cons_self ..),nT fun j hj=>h j (List.mem_cons_of_mem _ hj)]
end Go.Sx
namespace Go.Proofs.YtfpagioknjjacaaGreatDoor
open Go.Sx
set_option linter.unusedSimpArgs false
set_option linter.unusedVariables false
set_option maxRecDepth 100000
set_option maxHeartbeats 40000000
abbrev wCs (r m c:Nat) (M:Nat→List Rat) (pv:List Int) (d:Rat):List SV:=[bF 1 aN ((List.range r).map M),iv m,cO .i64 pv,.frac d]
abbrev nU (r m c:Nat) (M:Nat→List Rat) (pv:List Int) (d:Rat):SV:=bE (wCs r m c M pv d)
def Y5 (l:List Nat):Bool:=l.all fun k=>Nat.blt k 1000
theorem jU {E:Env} (t:Nat) (ts ks:List Nat) {fr:List (Nat×SV)} {hp:List (Nat×aF)} {r m c p:Nat} {M:Nat→List Rat} {pv:List Int} {d:Rat} (hW:∀b,¬E.W0 b) (ht:lk fr t=some (.ptr 1001 0 0 0)) (h1:find hp 1001=some (Zz true r m p d)) (h2:find hp 1002=some (II true (uH r c))) (h3:find hp 1003=some (ZA true pv))
  (h4:∀j,j<r→find hp (1010+j)=some (HU true (M j))∧c=(M j).length) (h5:p=pv.length) (MK:eg ks fr ts=true) (Kc:dz ks hp ks=true) (hn3:(rJ (fun k=>k) ks&&ve (fun k=>k) ks E.fx)=true) (hb:Y5 ks=true) (hr:r≤1000) (hE:E.OK):
  ∀a w,RR E (fn fr hp) a w→RR E (fn ((t,nU r m c M pv d)::fg (fun k=>k) ((t,nU r m c M pv d)::fr) ts) (nb hp ks)) a w:=by
 intro a w hR
 have uv:∀k∈ks,k<1000:=fun k hk=>by simpa [Nat.blt_eq]using List.all_eq_true.1 hb k hk
 obtain⟨hp1,cs1,g1,g2,g3,g4,g5⟩:=vu (M:=M) hW r 0 (uH r c) hp h2 (fun j _ hj=>by simp[List.getElem?_map,List.getElem?_range (show j<r by omega)]) (fun j _ hj=>h4 j aa) hR
 have D9:cs1=((List.range r).map M).map aN:=by
  refine List.ext_getElem? fun j=> ?_
  rw[g4 j]
  by_cases hj:j<r
  ·rw[if_pos ⟨Nat.zero_le _,aa⟩];simp[List.getElem?_map,List.getElem?_range hj]
  ·rw[if_neg aa];simp[List.getElem?_map,List.getElem?_eq_none (show(List.range r).length≤j by simp;omega)]
 have od:bn cs1=true:=by rw[D9];exact bN (fun _=>rfl) _
 have haw:qw 1 cs1=true:=by
  rw[D9]
  generalize (List.range r).map M=L
  induction L with
  |nil=>rfl
  |cons x L ih=>rw[List.map_cons,qw,ih];rfl
 have r1:=Lv g2 od haw g1
 have q1:∀k,k≠1002→find ((1002,(⟨36,true,.seq 1 cs1⟩:aF))::hp1) k=find hp1 k:=fun k hk=>by
  exact sN hk
 have eR:r=cs1.length:=by rw[g3];simp
 have r2:=ym (jj:=1001) (pp:=0) (k:=1002) (n:=r) hW (by rw[q1 _ aI,g5 _ aI (fun j _ _=>aa)];exact h1) aI rfl (show find _ 1002=some ⟨36,true,.seq 1 cs1⟩from rfl) od eR r1
 have r3:=LG (jj:=1001) (pp:=2) (k:=1003) (n:=p) (kd:=.i64) (xs:=pv) hW (show find _ 1001=some _ from rfl) aI rfl (show find _ 1003=some (ZA true pv) by
  show find (ff _ 1002 _) 1003=_
  rw[cq,if_neg aI,q1 _ aI,g5 _ aI (fun j _ _=>aa)];exact h3) h5 r2
 have r4:=lf t 1001 hW ht (show find _ 1001=some _ from rfl) (by simp[bn,bP,List.set]) r3
 rw[D9]at r4
 have e4:List.set (List.set [.aO 1002 1 0 r,iv m,.aO 1003 1 0 p,.frac d] 0 (eI 1 (((List.range r).map M).map aN))) 2 (cO .i64 pv)=wCs r m c M pv d:=rfl
 rw[e4]at r4
 generalize hq:ff _ 1001 _=HH at r4
 have wE:∀k∈ks,find HH k=find hp k:=fun k hk=>by
  have:=uv k hk
  rw[←hq,cq,if_neg aa,sN aa,cq,if_neg aa,sN aa,cq,if_neg aa,←D9,q1 _ aa,g5 _ aa (fun j _ _=>aa)]
 have DE:ig E.fx (fun k=>k) (t::ts) ks ((t,nU r m c M pv d)::fr) HH=true:=by
  refine kg ?_ (by rw[nT wE];exact Kc) hn3
  rw[eg]
  simp only[lk,Nat.beq_refl]
  rw[js MK];rfl
 have r5:=py hE DE r4
 rw[oX,qT wE]at r5
 rw[fg]at r5
 simp only[lk,Nat.beq_refl]at r5
 exact r5
theorem jC (r:Nat) (M:Nat→List Rat):((List.range r).map M).length=r:=by simp
theorem yn {r i:Nat} {M:Nat→List Rat} (h:i<r):((List.range r).map M).getD i []=M i:=by simp[List.getD_eq_getElem?_getD,h]
theorem O1 {r m c n:Nat} {M:Nat→List Rat} {pv:List Int} {d:Rat} (hM:∀i,i<r→(M i).length=c) (f:Nat) (hn:f+n≤c) (hc:c≤4096) (i k:Nat) (hi:i<r) (hk:k<n) (hr:r≤2048):
  ab Tryz.prog 309 ([]++([iv (i:Nat),iv (k:Nat)]++[bE [nU r m c M pv d],bE [iv f]])) [] (.frac ((M i).getD (f+k) 0)) [] []:=by
 have h1:=jC r M
 have h2:=yn (M:=M) hi
 have h3:=hM i hi
 have t1:IntKind.i64.wrap ((f:Int)+(k:Int))=((f+k:Nat):Int):=by rw[wrap_i64 aa aa];omega
 refine bT [] Tryz.func309 ?_
 intro W0 w0 ρ0 hE
 conv=>whnf
 (repeat((first|refine aq av ?_|refine ah og ?_|refine ah Q5 ?_|refine ah mP ?_|refine ah Q7 ?_|refine ah uq ?_|rw[t1]|rw[h2]);conv=>whnf));exact Q4
theorem Fx {r m c n:Nat} {M:Nat→List Rat} {pv:List Int} {d:Rat} (hM:∀i,i<r→(M i).length=c) (f:Nat) (hn:f+n≤c) (hc:c≤2048) (hr:r≤2048):
  ab Tryz.prog 224 [nU r m c M pv d,iv f,iv ((f+n:Nat):Int)] [] (mA r n (mk r n fun i k=>(M i).getD (f+k) 0)) [] []:=by
 have h1:=jC r M
 have k1:=Gy (r:=r) (c:=n) hr aa (fun i k=>(M i).getD (f+k) 0) 309 _ _ fun i k hi hk=>O1 (m:=m) (pv:=pv) (d:=d) hM f hn aa i k hi hk hr
 have t1:IntKind.i64.wrap (((f+n:Nat):Int) - (f:Int))=(n:Int):=by rw[wrap_i64 aa aa];omega
 refine bT [3,4] Tryz.func224 ?_
 intro W0 w0 ρ0 hE
 conv=>whnf
 (repeat((first|refine aq av ?_|refine aS (by assumption) ?_|refine ah Q8 ?_|refine ah Q5 ?_|refine ah Q7 ?_|refine ah uq ?_|refine ah yN ?_|rw[t1]|rw[h1]);conv=>whnf));exact Q4
theorem DF {E:Env} (t:Nat) (ts ks:List Nat) {K:bI} {co:Code} {fr:List (Nat×SV)} {hp:List (Nat×aF)} {r m c p:Nat} {M:Nat→List Rat} {pv:List Int} {d:Rat} (hW:∀b,¬E.W0 b) (ht:lk fr t=some (.ptr 1001 0 0 0)) (h1:find hp 1001=some (Zz true r m p d)) (h2:find hp 1002=some (II true (uH r c))) (h3:find hp 1003=some (ZA true pv))
  (h4:∀j,j<r→find hp (1010+j)=some (HU true (M j))∧c=(M j).length) (h5:p=pv.length) (MK:eg ks fr ts=true) (Kc:dz ks hp ks=true) (hn3:(rJ (fun k=>k) ks&&ve (fun k=>k) ks E.fx)=true) (hb:Y5 ks=true) (hr:r≤1000) (hE:E.OK)
  (hs:ey E co K ((t,nU r m c M pv d)::fg (fun k=>k) ((t,nU r m c M pv d)::fr) ts) (nb hp ks)):ey E co K fr hp:=
 ⟨fun a w hR=>hs.run a w (jU t ts ks hW ht h1 h2 h3 h4 h5 MK Kc hn3 hb hr hE a w hR)⟩
abbrev QX (m:Nat):aF:=⟨269,true,.one [.val (.slice none 0 0),iv m,.val (.slice none 0 0),.frac 1]⟩
theorem LH {ρ:bU} {m:Nat} (z:List (List Value)) (h:aw ρ [.val (.slice none 0 0),iv m,.val (.slice none 0 0),.frac 1] z):aw ρ (wCs 0 m 0 (fun _=>[]) [] 1) z:=by
 simp only[aw]at h ⊢
 obtain⟨x,r,rfl,h1,y,r2,rfl,h2,z,r3,rfl,h3,h4⟩:=h
 exact⟨x,_,rfl,rW h1,y,_,rfl,h2,z,_,rfl,rW h3,h4⟩
theorem DG {E:Env} (t:Nat) {K:bI} {co:Code} {fr:List (Nat×SV)} {hp:List (Nat×aF)} {m:Nat} (hW:∀b,¬E.W0 b) (ht:lk fr t=some (.ptr 1001 0 0 0)) (h1:find hp 1001=some (QX m))
  (hs:ey E co K ((t,nU 0 m 0 (fun _=>[]) [] 1)::fr) (ff ((1001,⟨269,true,.one (wCs 0 m 0 (fun _=>[]) [] 1)⟩)::hp) 1001 ⟨269,true,.dead⟩)):ey E co K fr hp:=
 ⟨fun a w hR=>hs.run a w (lf t 1001 hW ht rfl rfl (na h1 (fun _ z hz=>LH z hz) hR))⟩
theorem uL {c:Nat} (more:Nat) (a:List Rat) (g:FuncId) (ha:dV 0 c a):
  ab Tryz.prog 221 [mA (0:Nat) c a,iv more,.clo g [] []] [] (.ptr 1001 0 0 0) [(1001,QX c)] []:=by
 have k0:ab Tryz.prog 18 [iv 1] [] (.frac 1) [] []:=dI 1 aI aI
 refine qP (Z:=[3]) aJ bO Tryz.func221 rfl av (fE.of rfl rfl rfl rfl rfl rfl rfl rfl rfl rfl rfl) rfl (bo.id rfl) ?_
 intro W0 w0 ρ0 hE
 conv=>whnf
 (repeat((first|refine aq av ?_|refine aS (by assumption) ?_|refine ah Q5 ?_|refine ah Q7 ?_);conv=>whnf))
 refine aj hE (fun k=>cond (Nat.beq k 15) 1001 k) [7,17,18] [15] (fun m' fr hp=>fr=[(7,.ptr 1001 0 0 0),(17,iv (0:Nat)),(18,iv (0:Nat))]∧hp=[(1001,QX c)]) 0 ?_ ?_ ?_
 ·kernel_rfl
 ·exact⟨rfl,rfl⟩
 rintro m' _ _ ⟨rfl,rfl⟩
 conv=>whnf
 (repeat(first|(refine ae rfl rfl ?_;conv=>whnf)))
 exact⟨au.refl _,dH rfl get_nil,get_nil⟩
theorem pU {c:Nat} (more:Nat) (a:List Rat) (g:FuncId) (p:Pred) (ha:dV 0 c a):
  ab Tryz.prog 221 [mA (0:Nat) c a,iv more,.clo g [] [.atom p]] [] (.ptr 1001 0 0 0) [(1001,QX c)] []:=by
 have k0:ab Tryz.prog 18 [iv 1] [] (.frac 1) [] []:=dI 1 aI aI
 refine qP (Z:=[3]) aJ bO Tryz.func221 rfl av (fE.of rfl rfl rfl rfl rfl rfl rfl rfl rfl rfl rfl) rfl (bo.id rfl) ?_
 intro W0 w0 ρ0 hE
 conv=>whnf
 (repeat((first|refine aq av ?_|refine aS (by assumption) ?_|refine ah Q5 ?_|refine ah Q7 ?_);conv=>whnf))
 refine aj hE (fun k=>cond (Nat.beq k 15) 1001 k) [7,17,18] [15] (fun m' fr hp=>fr=[(7,.ptr 1001 0 0 0),(17,iv (0:Nat)),(18,iv (0:Nat))]∧hp=[(1001,QX c)]) 0 ?_ ?_ ?_
 ·kernel_rfl
 ·exact⟨rfl,rfl⟩
 rintro m' _ _ ⟨rfl,rfl⟩
 conv=>whnf
 (repeat(first|(refine ae rfl rfl ?_;conv=>whnf)))
 exact⟨au.refl _,dH rfl get_nil,get_nil⟩
theorem Ap {c:Nat} (more:Nat) (a:List Rat) (g:FuncId) (p q:Pred) (ha:dV 0 c a):
  ab Tryz.prog 221 [mA (0:Nat) c a,iv more,.clo g [] [.atom p,.atom q]] [] (.ptr 1001 0 0 0) [(1001,QX c)] []:=by
 have k0:ab Tryz.prog 18 [iv 1] [] (.frac 1) [] []:=dI 1 aI aI
 refine qP (Z:=[3]) aJ bO Tryz.func221 rfl av (fE.of rfl rfl rfl rfl rfl rfl rfl rfl rfl rfl rfl) rfl (bo.id rfl) ?_
 intro W0 w0 ρ0 hE
 conv=>whnf
 (repeat((first|refine aq av ?_|refine aS (by assumption) ?_|refine ah Q5 ?_|refine ah Q7 ?_);conv=>whnf))
 refine aj hE (fun k=>cond (Nat.beq k 15) 1001 k) [7,17,18] [15] (fun m' fr hp=>fr=[(7,.ptr 1001 0 0 0),(17,iv (0:Nat)),(18,iv (0:Nat))]∧hp=[(1001,QX c)]) 0 ?_ ?_ ?_
 ·kernel_rfl
 ·exact⟨rfl,rfl⟩
 rintro m' _ _ ⟨rfl,rfl⟩
 conv=>whnf
 (repeat(first|(refine ae rfl rfl ?_;conv=>whnf)))
 exact⟨au.refl _,dH rfl get_nil,get_nil⟩
abbrev wzR (m:Nat):aF:=⟨269,false,.one [.val (.slice none 0 0),iv m,.val (.slice none 0 0),.frac 1]⟩
theorem fT (m:Nat) (hm:m≤4096):ab Tryz.prog 223 [.ptr 1001 0 0 0] [(1001,wzR m)] (.ptr 1001 0 0 0) [] []:=by
 refine Af (Z:=[]) aJ bO Tryz.func223 rfl av (cI.of rfl rfl rfl rfl rfl rfl rfl rfl rfl rfl rfl) rfl ?_
 intro W0 w0 ρ0 hE
 conv=>whnf
 (repeat(first|(rw[Nat.zero_add];conv=>whnf)))
 refine sq hE [0,9,10] (fun m' fr hp=>∃k:Nat,m'=m - k∧k≤m∧fr=[(0,.ptr 1001 0 0 0),(9,iv m),(10,iv k)]∧hp=[(1001,wzR m)]) m ?_ ?_ ?_
 ·kernel_rfl
 ·exact⟨0,rfl,Nat.zero_le _,rfl,rfl⟩
 rintro m' _ _ ⟨k,rfl,hk,rfl,rfl⟩
 conv=>whnf
 by_cases aE:k<m
 ·have t1:=dx aE
  have t2:=br (i:=k) aa
  (repeat(first|(refine ao t1 ?_;conv=>whnf)|(rw[t1];conv=>whnf)|(rw[Nat.zero_add];conv=>whnf)))
  refine sq hE [0,9,10,5] (fun m' fr hp=>m'=0∧fr=[(0,.ptr 1001 0 0 0),(9,iv m),(10,iv k),(5,iv (0:Nat))]∧hp=[(1001,wzR m)]) 0 ?_ ?_ ?_
  ·kernel_rfl
  ·exact⟨rfl,rfl,rfl⟩
  rintro m' _ _ ⟨rfl,rfl,rfl⟩
  conv=>whnf
  (repeat(first|(refine ae rfl rfl ?_;conv=>whnf)|(rw[t2];conv=>whnf)|(rw[Nat.zero_add];conv=>whnf)))
  exact⟨m - (k+1),aa,av,k+1,rfl,aE,rfl,rfl⟩
 ·have t1:=dA aE
  (repeat(first|(refine ay t1 ?_;conv=>whnf)))
  exact⟨au.refl _,get_nil,get_nil⟩
theorem yo {n:Nat} {a:List Rat} (ha:dV n n a):ab Tryz.prog 227 [mA n n a] [] (iv 0) [] []:=by
 have k1:=er ha
 refine bT [1] Tryz.func227 ?_
 intro W0 w0 ρ0 hE
 conv=>whnf
 (repeat((first|refine ae rfl rfl ?_|refine aS (by assumption) ?_|rw[bne_self_eq_false]|refine ah Q5 ?_|refine ah Q7 ?_);conv=>whnf));exact Q4
def H6 (M:Nat→List Rat) (sp:List Nat) (m k:Nat):Nat→List Rat
 |0=>(List.replicate m 0).set k 1
 |i+1=>(H6 M sp m k i).set (sp.getD i 0) (- (M i).getD k 0)
theorem sO (M:Nat→List Rat) (sp:List Nat) (m k:Nat):∀i,(H6 M sp m k i).length=m
 |0=>by simp[H6]
 |i+1=>by rw[H6,List.length_set,sO M sp m k i]
def yP (M:Nat→List Rat) (sp:List Nat) (m:Nat) (k:Nat):List Rat:=H6 M sp m k sp.length
def aU (sp:List Nat) (k:Nat):List Nat:=(List.range k).filter fun q=>decide (q∉sp)
theorem dr (sp:List Nat) (k:Nat):aU sp (k+1)=aU sp k++if k∈sp then[]else[k]:=by
 unfold aU
 rw[List.range_succ,List.filter_append]
 by_cases h:k∈sp
 ·rw[if_pos h];simp[h]
 ·rw[if_neg h];simp[h]
theorem GY {r c m k:Nat} {w:Mx} {sp:List Nat} {M:Nat→List Rat} (h:RE r c w sp) (hk:k<m) (hn:k∉sp) (hm:c≤m) (hM:∀j,j<sp.length→(M j).getD k 0=w j k):
  ∀i,i≤sp.length→∀q,q<m→(H6 M sp m k i).getD q 0=delta q k - aD i fun j=>delta q (sp.getD j 0)*w j k
 |0,_,q,hq=>by
  rw[H6,aD]
  by_cases e:q=k
  ·subst e;simp[List.getD_eq_getElem?_getD,delta,hq];grind
  ·simp[List.getD_eq_getElem?_getD,delta,e,List.getElem?_set_ne (Ne.symm e),hq];grind
 |i+1,hi,q,hq=>by
  rw[H6,aD]
  have ih:=GY h hk hn hm hM i aa q hq
  by_cases e:sp.getD i 0=q
  ·have hz:aD i (fun j=>delta q (sp.getD j 0)*w j k)=0:=cv fun j hj=>by
    rw[delta,if_neg fun g=>by have:=wi h (i:=j) (j:=i) aa aa (by rw[←g,e]);omega];grind
   have hqk:q≠k:=fun g=>hn (cL.2 ⟨i,aa,by rw[e,g]⟩)
   rw[hz,←e,List.getD_eq_getElem?_getD,List.getElem?_set_self (by rw[sO,e];exact hq),e,hM i aa,delta,if_neg hqk,delta,if_pos rfl]
   simp only[Option.getD_some];grind
  ·rw[List.getD_eq_getElem?_getD,List.getElem?_set_ne e,←List.getD_eq_getElem?_getD,ih,show delta q (sp.getD i 0)=0 from if_neg (Ne.symm e)];grind
theorem wq {r c m k:Nat} {w:Mx} {sp:List Nat} {M:Nat→List Rat} (h:RE r c w sp) (hk:k<m) (hn:k∉sp) (hm:c≤m) (hM:∀j,j<sp.length→(M j).getD k 0=w j k) {q:Nat} (hq:q<m):
  (yP M sp m k).getD q 0=kv w sp k q:=GY h hk hn hm hM _ (Nat.le_refl _) q hq
theorem DH {sp:List Nat} {k q:Nat}:q∈aU sp k↔q<k∧q∉sp:=by simp[aU]
theorem Aq:∀{l:List Nat},(∀i j,i<j→j<l.length→l.getD i 0<l.getD j 0)→l.Nodup
 |[],_=>List.nodup_nil
 |a::l,h=>by
  refine List.nodup_cons.2 ⟨fun hm=> ?_,Aq fun i j ID hj=>by simpa using h (i+1) (j+1) aa (by simpa using hj)⟩
  obtain⟨j,hj,e⟩:=cL.1 hm
  have:=h 0 (j+1) aa (by simpa using hj)
  simp only[List.getD_cons_zero,List.getD_cons_succ]at this
  omega
theorem Ar {k:Nat}:∀{l:List Nat},l.Nodup→k∈l→l.count k=1
 |a::l,hn,h=>by
  rw[List.count_cons]
  have hn:=List.nodup_cons.1 hn
  rcases List.mem_cons.1 h with e|e
  ·subst e;rw[List.count_eq_zero.2 hn.1];simp
  ·have g:a≠k:=fun g=>hn.1 (g▸e)
   rw[Ar hn.2 e];simp[g]
theorem DI {sp:List Nat} (hn:sp.Nodup):∀k,(aU sp k).length+sp.countP (fun q=>decide (q<k))=k
 |0=>by simp[aU]
 |k+1=>by
  have ih:=DI hn k
  rw[dr,List.length_append]
  have e:sp.countP (fun q=>decide (q<k+1))=sp.countP (fun q=>decide (q<k))+sp.count k:=by
   clear ih hn
   induction sp with
   |nil=>rfl
   |cons a l ih=>
    simp only[List.countP_cons,List.count_cons,ih,decide_eq_true_eq,beq_iff_eq]
    by_cases g:a=k
    ·subst g;simp;omega
    ·by_cases g2:a<k
     ·rw[if_pos aa,if_pos g2,if_neg g];omega
     ·rw[if_neg aa,if_neg g2,if_neg g];omega
  by_cases h:k∈sp
  ·rw[if_pos h,e,Ar hn h];simp;omega
  ·rw[if_neg h,e,List.count_eq_zero.2 h];simp;omega
theorem RE.nodup {r c:Nat} {w:Mx} {sp:List Nat} (h:RE r c w sp):sp.Nodup:=Aq h.inc
theorem RE.free {r c:Nat} {w:Mx} {sp:List Nat} (h:RE r c w sp):(aU sp c).length+sp.length=c:=by
 have:=DI h.nodup c
 rwa [List.countP_eq_length.2 fun q hq=>by
  obtain⟨j,hj,rfl⟩:=cL.1 hq
  exact decide_eq_true (h.lt j hj)]at this
def qf (W:Mx) (i k:Nat) (x:Rat):Mx:=fun a q=>if x=0 then(if a=k then W i q else if a=i then W k q else W a q)else if i=k then(if a=i then x*W i q else W a q)else(if a=i then W i q+x*W k q else W a q)
theorem O2 {r c i k:Nat} {W:Mx} {x:Rat} (hi:i<r) (hk:k<r) (z:Nat→Rat):mf r c (qf W i k x) z↔mf r c W z:=by
 have acu:∀(a b:Nat) (t:Rat),aD c (fun q=>(W a q+t*W b q)*z q)=aD c (fun q=>W a q*z q)+t*aD c (fun q=>W b q*z q):=fun a b t=>by
  rw[←sum_smul,←sum_add];exact ai c fun q _=>by grind
 have Ei:∀(a:Nat) (t:Rat),aD c (fun q=>(t*W a q)*z q)=t*aD c (fun q=>W a q*z q):=fun a t=>by
  rw[←sum_smul];exact ai c fun q _=>by grind
 unfold qf
 by_cases hx:x=0
 ·simp only[if_pos hx]
  constructor
  ·intro h a ha
   by_cases e1:a=i
   ·subst e1;have:=h k hk;simpa using this
   ·by_cases e2:a=k
    ·subst e2
     have:=h i hi
     by_cases e3:i=a
     ·omega
     ·simpa [e3]using this
    ·have:=h a ha;simpa [e1,e2]using this
  ·intro h a ha
   by_cases e2:a=k
   ·subst e2;simpa using h i hi
   ·by_cases e1:a=i
    ·subst e1;simpa [e2]using h k hk
    ·simpa [e1,e2]using h a ha
 ·simp only[if_neg hx]
  by_cases RM:i=k
  ·simp only[if_pos RM]
   constructor
   ·intro h a ha
    have:=h a ha
    by_cases e1:a=i
    ·subst e1
     simp only[if_true]at this
     rw[Ei]at this
     rcases Rat.mul_eq_zero.1 this with g|g
     ·exact absurd g hx
     ·exact g
    ·simpa [e1]using this
   ·intro h a ha
    by_cases e1:a=i
    ·subst e1;simp only[if_true];rw[Ei,h a ha];grind
    ·simpa [e1]using h a ha
  ·simp only[if_neg RM]
   constructor
   ·intro h a ha
    by_cases e1:a=i
    ·subst e1
     have h1:=h a ha
     simp only[if_true]at h1
     rw[acu]at h1
     have h3:aD c (fun q=>W k q*z q)=0:=by simpa [Ne.symm RM]using h k hk
     rw[h3]at h1;grind
    ·simpa [e1]using h a ha
   ·intro h a ha
    by_cases e1:a=i
    ·subst e1;simp only[if_true];rw[acu,h a ha,h k hk];grind
    ·simpa [e1]using h a ha
theorem pV {r c:Nat} {W V:Mx} (h:∀i q,i<r→q<c→W i q=V i q) (x:Nat→Rat):mf r c W x↔mf r c V x:=by
 have e:∀i,i<r→aD c (fun q=>W i q*x q)=aD c (fun q=>V i q*x q):=fun i hi=>ai c fun q hq=>by rw[h i q hi hq]
 exact⟨fun g i hi=>by rw[←e i hi];exact g i hi,fun g i hi=>by rw[e i hi];exact g i hi⟩
theorem LI {r c:Nat} {W V:Mx} (h:∀i q,i<r→q<c→W i q=V i q):(iz r c ⟨W,[],1⟩).aH=(iz r c ⟨V,[],1⟩).aH∧∀i q,i<r→q<c→(iz r c ⟨W,[],1⟩).w i q=(iz r c ⟨V,[],1⟩).w i q:=
 RE.unique (Inv.red (r:=r) (W:=W) c).re (Inv.red (r:=r) (W:=V) c).re fun x=>((Inv.red (r:=r) (W:=W) c).Lx x).trans ((pV h x).trans ((Inv.red (r:=r) (W:=V) c).Lx x).symm)
theorem sQ {c:Nat} {f g:Nat→Rat} (h:∀q,q<c→f q=g q):aD (c+1) f=aD c g+f c:=by rw[aD,ai c h]
def O3 (x:Nat→Rat) (c q:Nat):Rat:=if q<c then x q else -1
theorem BX {x:Nat→Rat} {c q:Nat} (h:q<c):O3 x c q=x q:=if_pos h
theorem BY {x:Nat→Rat} {c:Nat}:O3 x c c= -1:=if_neg (Nat.lt_irrefl c)
theorem LJ {r c:Nat} {W:Mx} {s:St} (hi:Inv r W c s) {x:Nat→Rat} (hx:∀i,i<r→aD c (fun q=>W i q*x q)=W i c):∀i,s.aH.length≤i→i<r→s.w i c=0:=by
 have hk:mf r (c+1) W (O3 x c):=fun i y9=>by
  rw[sQ (g:=fun q=>W i q*x q) fun q hq=>by rw[BX hq],hx i y9,BY];grind
 have hs:=(hi.Lx (c:=c+1) _).2 hk
 intro i h1 h2
 have:=hs i h2
 rw[sQ (g:=fun q=>0) fun q hq=>by rw[hi.low i h1 h2 q hq];grind,BY,cv fun _ _=>rfl]at this
 grind
def vI (w:Mx) (sp:List Nat) (c q:Nat):Rat:=aD sp.length fun j=>delta q (sp.getD j 0)*w j c
theorem LK {r c:Nat} {w:Mx} {sp:List Nat} (h:RE r c w sp) {i:Nat} (hi:i<r):aD c (fun q=>w i q*vI w sp c q)=if i<sp.length then w i c else 0:=by
 rw[ai c (g:=fun q=>aD sp.length fun j=>w i q*delta q (sp.getD j 0)*w j c) fun q _=>by
  rw[vI,bs];exact ai _ fun j _=>by grind,di,ai sp.length (g:=fun j=>delta i j*w j c) fun j hj=>by
  rw[←dL,eF,if_pos (h.lt j hj),h.unit j hj i hi,delta],c7]
theorem GZ {r c:Nat} {W:Mx} {s:St} (hi:Inv r W c s) (hz:∀i,s.aH.length≤i→i<r→s.w i c=0):∀i,i<r→aD c (fun q=>W i q*vI s.w s.aH c q)=W i c:=by
 have hk:mf r (c+1) s.w (O3 (vI s.w s.aH c) c):=fun i y9=>by
  rw[sQ (g:=fun q=>s.w i q*vI s.w s.aH c q) fun q hq=>by rw[BX hq],LK hi.re y9,BY]
  by_cases g:i<s.aH.length
  ·rw[if_pos g];grind
  ·rw[if_neg g,hz i aa y9];grind
 intro i y9
 have:=(hi.Lx (c:=c+1) _).1 hk i y9
 rw[sQ (g:=fun q=>W i q*vI s.w s.aH c q) fun q hq=>by rw[BX hq],BY]at this
 grind
theorem As {w:Mx} {sp:List Nat} {c q:Nat} (hq:q∉sp):vI w sp c q=0:=cv fun j hj=>by
 rw[delta,if_neg fun e=>hq (cL.2 ⟨j,hj,e.symm⟩)];grind
theorem LL {r c:Nat} {w:Mx} {sp:List Nat} (h:RE r c w sp) {z:Nat→Rat} (hz:mf r c w z) (hf:∀q,q<c→q∉sp→z q=0):∀q,q<c→z q=0:=by
 intro q hq
 by_cases g:q∈sp
 ·obtain⟨j,hj,rfl⟩:=cL.1 g
  have Y6:j<r:=Nat.lt_of_lt_of_le hj h.len
  have:=hz j Y6
  rw[iZ (j:=sp.getD j 0) c hq fun q' AV bW=>by
   by_cases g':q'∈sp
   ·obtain⟨i,hi,rfl⟩:=cL.1 g'
    rw[h.unit i hi j Y6,if_neg fun e=>bW (by rw[e])];grind
   ·rw[hf q' AV g'];grind,h.unit j hj j Y6,if_pos rfl]at this
  grind
 ·exact hf q hq g
theorem QY {r m:Nat} {W:Mx} {s:St} {P:Mx} (hP:∀i,i<r→∀q,s.w i q=pr r P W i q) (hI:∀a k,a<r→k<r→W a (m+k)=delta a k) {i k:Nat} (hi:i<r) (hk:k<r):s.w i (m+k)=P i k:=by
 rw[hP i hi,pr,ai r (g:=fun a=>P i a*delta a k) fun a ha=>by rw[hI a k ha hk],eF,if_pos hk]
theorem O4 {r c:Nat} {W:Mx} {s:St} (hi:Inv r W c s) (hI:∀a k,a<r→k<r→W a (c+1+k)=delta a k) {i:Nat} (h1:s.aH.length≤i) (h2:i<r) (bW:s.w i c≠0):
  (∀q,q<c→aD r (fun a=>W a q*(s.w i (c+1+a)/s.w i c))=0)∧aD r (fun a=>(s.w i (c+1+a)/s.w i c)*W a c)=1:=by
 obtain⟨P,_,hP⟩:=hi.uf
 have e:∀q,aD r (fun a=>W a q*(s.w i (c+1+a)/s.w i c))=s.w i q*(s.w i c)⁻¹:=fun q=>by
  rw[hP i h2 q,pr,dL]
  exact ai r fun a ha=>by rw[QY (m:=c+1) hP hI h2 ha,Rat.div_def];grind
 refine⟨fun q hq=>by rw[e,hi.low i h1 h2 q hq];grind, ?_⟩
 rw[ai r (g:=fun a=>W a c*(s.w i (c+1+a)/s.w i c)) fun a _=>Rat.mul_comm _ _,e,Rat.mul_inv_cancel _ bW]
theorem qU {n:Nat} {A B:Mx} (h:∀i k,i<n→k<n→pr n B A i k=delta i k):∀i k,i<n→k<n→pr n A B i k=delta i k:=by
 have hd:bL n B*bL n A=1:=by rw[←sD,aW h,ja]
 have hB:=BV hd
 intro i k hi hk
 have e1:pr n (vq n B) (pr n B (pr n A B)) i k=bL n B*pr n A B i k:=by
  rw[←oY,pr,ai n (g:=fun j=>bL n B*(delta i j*pr n A B j k)) fun j hj=>by rw[sE B hi hj,delta];split<;>grind,←bs,c7,if_pos hi]
 have e2:pr n (vq n B) (pr n B (pr n A B)) i k=bL n B*delta i k:=by
  rw[pr,ai n (g:=fun j=>vq n B i j*B j k) fun j hj=>by
   rw[←oY,pr,ai n (g:=fun m=>delta j m*B m k) fun m hm=>by rw[h j m hj hm],c7,if_pos hj]]
  have:=sE B hi hk
  unfold pr at this
  rw[this,delta];split<;>grind
 have e3:=e1.symm.trans e2
 have:bL n B*(pr n A B i k - delta i k)=0:=by grind
 rcases Rat.mul_eq_zero.1 this with g|g
 ·exact absurd g hB
 ·grind
theorem LM {n:Nat} {W:Mx} {s:St} (hi:Inv n W n s) (hp:s.aH.length=n) (hI:∀a k,a<n→k<n→W a (n+k)=delta a k):∀i q,i<n→q<n→aD n (fun a=>s.w i (n+a)*W a q)=delta i q:=by
 obtain⟨P,_,hP⟩:=hi.uf
 intro i q h1 h2
 rw[ai n (g:=fun a=>P i a*W a q) fun a ha=>by rw[QY (m:=n) hP hI h1 ha]]
 have e1:=hP i h1 q
 unfold pr at e1
 rw[←e1]
 have e2:=hi.re.full hp q h2
 have:=hi.unit q aa i h1
 rw[e2]at this
 rw[this,delta]
theorem DJ (n:Nat) (W:Mx):(iz n n ⟨W,[],1⟩).aH.length=n↔bL n W≠0:=by
 have h:=GW n W
 have hi:=Inv.red (r:=n) (W:=W) n
 obtain⟨P,h1,_⟩:=hi.uf
 have hd:(iz n n ⟨W,[],1⟩).d≠0:=BV (show(iz n n ⟨W,[],1⟩).d*bL n P=1 by rw[Rat.mul_comm];exact h1)
 have hl:=hi.len
 by_cases g:(iz n n ⟨W,[],1⟩).aH.length<n
 ·rw[if_pos g]at h
  exact⟨fun e=>aa,fun e=>absurd h.symm e⟩
 ·rw[if_neg g]at h
  exact⟨fun _=>by rw[←h];exact hd,fun _=>aa⟩
theorem O5 {n p q:Nat} (W:Mx) (w:Rat) (hp:p<n) (hq:q<n):bL n (qf W p q w)=if w=0 then(if p=q then bL n W else - bL n W)else if p=q then w*bL n W else bL n W:=by
 have A:=ed n
 by_cases hw:w=0
 ·rw[if_pos hw]
  by_cases e:p=q
  ·rw[if_pos e]
   refine aW fun i k _ _=> ?_
   unfold qf
   rw[if_pos hw]
   by_cases g:i=q
   ·rw[if_pos g,e,g]
   ·rw[if_neg g,if_neg aa]
  ·rw[if_neg e,←A.swap W hp hq e]
   refine aW fun i k _ _=> ?_
   unfold qf aP
   rw[if_pos hw]
   by_cases g:i=q
   ·rw[if_pos g,if_neg aa,if_pos g]
   ·rw[if_neg g]
    by_cases g2:i=p
    ·rw[if_pos g2,if_pos g2]
    ·rw[if_neg g2,if_neg g2,if_neg g]
 ·rw[if_neg hw]
  by_cases e:p=q
  ·rw[if_pos e]
   have h1:bL n (qf W p q w)=bL n (setRow W p fun k=>w*W p k):=aW fun i k _ _=>by
    unfold qf setRow;rw[if_neg hw,if_pos e]
   have h2:=A.smul W w (W p) hp
   rw[setRow_self]at h2
   rw[h1,h2]
  ·rw[if_neg e]
   have h1:bL n (qf W p q w)=bL n (setRow W p fun k=>W p k+w*W q k):=aW fun i k _ _=>by
    unfold qf setRow;rw[if_neg hw,if_neg e]
   rw[h1,A.BR W w hp hq e]
theorem LN {n p q:Nat} (W:Mx) (hp:p<n) (hq:q<n) (h:p≠q):bL n (setRow W p (W q))=0:=
 (ed n).eq _ hp hq h fun k _=>by rw[aX,aY _ _ (Ne.symm h)]
theorem ni {n:Nat} {A B C D:Mx} {i k:Nat} (h1:∀j,j<n→A i j=C i j) (h2:∀j,j<n→B j k=D j k):pr n A B i k=pr n C D i k:=ai n fun j hj=>by rw[h1 j hj,h2 j hj]
theorem LO {n:Nat} {A:Mx} {i k:Nat} (hk:k<n):pr n A delta i k=A i k:=by rw[pr,eF,if_pos hk]
theorem DK {n:Nat} {A:Mx} {i k:Nat} (hi:i<n):pr n delta A i k=A i k:=by rw[pr,c7,if_pos hi]
theorem Fy {n:Nat} {A B C:Mx} (h1:∀i k,i<n→k<n→pr n B A i k=delta i k) (h2:∀i k,i<n→k<n→pr n C A i k=delta i k):∀i k,i<n→k<n→B i k=C i k:=by
 have h3:=qU h2
 intro i k hi hk
 rw[←LO (n:=n) (A:=B) hk,ni (C:=B) (D:=pr n A C) (fun _ _=>rfl) fun j hj=>(h3 j k hj hk).symm,←oY,ni (C:=delta) (D:=C) (fun j hj=>h1 i j hi hj) fun _ _=>rfl,DK hi]
theorem LP {n:Nat} {A B X Y:Mx} (h1:∀i k,i<n→k<n→pr n X A i k=delta i k) (h2:∀i k,i<n→k<n→pr n Y B i k=delta i k):∀i k,i<n→k<n→pr n (pr n Y X) (pr n A B) i k=delta i k:=by
 intro i k hi hk
 rw[oY,ni (C:=Y) (D:=B) (fun _ _=>rfl) fun j hj=> ?_,h2 i k hi hk]
 rw[←oY,ni (C:=delta) (D:=B) (fun m hm=>h1 j m hj hm) fun _ _=>rfl,DK hj]
theorem LQ {n:Nat} {A X:Mx} (h:∀i k,i<n→k<n→pr n X A i k=delta i k):∀i k,i<n→k<n→pr n (tr X) (tr A) i k=delta i k:=by
 have h2:=qU h
 intro i k hi hk
 have:=h2 k i hk hi
 rw[qI]at this
 rw[←this]
 unfold pr tr
 exact ai n fun j _=>Rat.mul_comm _ _
theorem O6 {n:Nat} {A X:Mx} {x y:Nat→Rat} (h:∀i k,i<n→k<n→pr n X A i k=delta i k) (hx:∀i,i<n→aD n (fun q=>A i q*x q)=y i):∀i,i<n→x i=aD n fun q=>X i q*y q:=by
 intro i hi
 rw[ai n (g:=fun q=>aD n fun p=>X i q*A q p*x p) fun q hq=>by rw[←hx q hq,bs];exact ai n fun p _=>by grind,di,
  ai n (g:=fun p=>delta i p*x p) fun p hp=>by rw[←dL,←h i p hi hp];rfl,c7,if_pos hi]
theorem O7 (l:List Int) (x:Int) (hl:l.length<1099511627776):∃n:Int,decide (0≤n)=decide (x∈l)∧ab Tryz.prog 349 [cO .i64 l,iv x] [] (iv n) [] []:=by
 by_cases h:∃j,j<l.length∧l.getD j 0=x∧∀i,i<j→l.getD i 0≠x
 ·obtain⟨j,hj,hx,hb⟩:=h
  have hm:x∈l:=by rw[←hx,List.getD_eq_getElem?_getD,List.getElem?_eq_getElem hj];exact List.getElem_mem hj
  refine⟨j,by rw[decide_eq_true (Int.natCast_nonneg j),decide_eq_true hm], ?_⟩
  refine bT [] Tryz.func349 ?_
  intro W0 w0 ρ0 hE
  conv=>whnf
  (repeat(first|(refine ah Q8 ?_;conv=>whnf)))
  refine aj hE (fun k=>k) [0,1,7,8] [] (fun m fr hp=>∃i:Nat,m=l.length - i∧i≤j∧fr=[(0,cO .i64 l),(1,iv x),(7,iv l.length),(8,iv i)]∧hp=[]) l.length ?_ ?_ ?_
  ·kernel_rfl
  ·exact⟨0,rfl,Nat.zero_le _,rfl,rfl⟩
  rintro m _ _ ⟨i,rfl,hi,rfl,rfl⟩
  have t1:=dx (show i<l.length by omega)
  have t2:=br (i:=i) aa
  conv=>whnf
  by_cases e:i=j
  ·subst e
   have t3:decide (x=l.getD i 0)=true:=decide_eq_true hx.symm
   (repeat((first|refine ao t1 ?_|refine ao t3 ?_|refine ah Q5 ?_|refine ah jw ?_);conv=>whnf));exact Q4
  ·have t3:decide (x=l.getD i 0)=false:=decide_eq_false fun g=>hb i aa g.symm
   (repeat((first|refine ao t1 ?_|refine ay t3 ?_|refine ah Q5 ?_|refine ah jw ?_|rw[t1]|rw[t2]);conv=>whnf))
   exact⟨l.length - (i+1),fun k=>k,[0,1,7,8],[],aa,av,i+1,rfl,aa,rfl,rfl⟩
 ·have DE:∀j,j<l.length→l.getD j 0≠x:=by
   intro j
   induction j using Nat.strongRecOn with
   |ind j ih=>
    intro hj hx
    exact h ⟨j,hj,hx,fun i hi=>ih i hi aa⟩
  have hm:x∉l:=fun hm=>by
   obtain⟨j,hj,e⟩:=List.getElem_of_mem hm
   exact DE j hj (by rw[List.getD_eq_getElem?_getD,List.getElem?_eq_getElem hj];exact e)
  refine⟨-1,by rw[decide_eq_false hm];rfl, ?_⟩
  refine bT [] Tryz.func349 ?_
  intro W0 w0 ρ0 hE
  conv=>whnf
  (repeat(first|(refine ah Q8 ?_;conv=>whnf)))
  refine aj hE (fun k=>k) [0,1,7,8] [] (fun m fr hp=>∃i:Nat,m=l.length - i∧i≤l.length∧fr=[(0,cO .i64 l),(1,iv x),(7,iv l.length),(8,iv i)]∧hp=[]) l.length ?_ ?_ ?_
  ·kernel_rfl
  ·exact⟨0,rfl,Nat.zero_le _,rfl,rfl⟩
  rintro m _ _ ⟨i,rfl,hi,rfl,rfl⟩
  conv=>whnf
  by_cases aE:i<l.length
  ·have t1:=dx aE
   have t2:=br (i:=i) aa
   have t3:decide (x=l.getD i 0)=false:=decide_eq_false fun g=>DE i aE g.symm
   (repeat((first|refine ao t1 ?_|refine ay t3 ?_|refine ah Q5 ?_|refine ah jw ?_|rw[t1]|rw[t2]);conv=>whnf))
   exact⟨l.length - (i+1),fun k=>k,[0,1,7,8],[],aa,av,i+1,rfl,aE,rfl,rfl⟩
  ·have t1:=dA aE
   (repeat(first|(refine ay t1 ?_;conv=>whnf)));exact Q4
theorem Fz (l:List Int) (x:Int) (hl:l.length<1099511627776):ab Tryz.prog 310 [cO .i64 l,iv x] [] (.val (.bool (decide (x∈l)))) [] []:=by
 obtain⟨n,hn,k1⟩:=O7 l x hl
 rw[←hn]
 refine bT [] Tryz.func310 ?_
 intro W0 w0 ρ0 hE
 conv=>whnf
 (repeat(first|(refine aS (by assumption) ?_;conv=>whnf)));exact Q4
theorem O8 (n i:Nat) (hn:n≤2048) (hi:i<n) (K:Nat):ab Tryz.prog 94 [iv (n:Nat),iv (i:Nat)] [] (.ck [.aO K 5 0 n,iv 0]) [(K,⟨52,true,.cb ((List.replicate n 0).set i 1)⟩)] []:=by
 have k1:=NV n hn 1001
 have k2:ab Tryz.prog 18 [iv 1] [] (.frac 1) [] []:=dI 1 aI aI
 have t1:decide ((i:Int)<0)=false:=decide_eq_false aa
 have t2:decide ((i:Int)≥(n:Int))=false:=decide_eq_false aa
 refine gh (Z:=[]) aJ bO Tryz.func94 rfl av (args:=[iv (n:Nat),iv (i:Nat)]) (fk:=[]) (c:=.ck [.aO 1001 5 0 n,iv 0]) (new:=[(1001,⟨52,true,.cb ((List.replicate n 0).set i 1)⟩)]) (upd:=[]) (cI.of rfl rfl rfl rfl rfl rfl rfl rfl rfl rfl rfl) rfl (fun _=>K) bo.one ?_
 intro W0 w0 ρ0 hE
 conv=>whnf
 (repeat((first|refine ag rfl rfl ?_|refine ae rfl rfl ?_|refine bg Q3 ?_|refine aC Q3 ?_|refine aS (by assumption) ?_|refine lG (by assumption) rfl ?_|refine ah dP ?_|rw[bne_self_eq_false]|refine ay t2 ?_|rw[Int.toNat_natCast]|rw[Nat.zero_add]);conv=>whnf))
 exact⟨au.refl _,dH rfl get_nil,get_nil⟩
theorem pW (sp:List Nat) (k:Nat):(aU sp k).length≤k:=by
 have:=List.length_filter_le (fun q=>decide (q∉sp)) (List.range k)
 simpa [aU]using this
theorem G0 {sp:List Nat} {k:Nat}:((k:Int)∈sp.map cY)↔k∈sp:=by
 simp only[List.mem_map]
 constructor
 ·rintro⟨a,ha,h⟩;rw[←Int.ofNat_inj.1 (show(a:Int)=(k:Int)from h)];exact ha
 ·intro h;exact⟨k,h,rfl⟩
abbrev LR (l:List (List Rat)):aF:=⟨54,true,.seq 1 (l.map aN)⟩
theorem H7 (l:List (List Rat)) (v:List Rat):LR (l++[v])=⟨54,true,.seq 1 (List.take l.length (l.map aN)++List.take 1 (List.drop 0 [aN v]))⟩:=by
 rw[List.take_of_length_le (by rw[List.length_map];exact Nat.le_refl _),LR,List.map_append];rfl
theorem sR {r m c:Nat} {M:Nat→List Rat} {sp:List Nat} {d:Rat} (hM:∀i,i<r→(M i).length=c) (hr:r≤2048) (hm:m≤2048) (hmc:m≤c) (hp:sp.length≤r) (hsp:∀j,j<sp.length→sp.getD j 0<m):
  ab Tryz.prog 229 [nU r m c M (sp.map cY) d] [] (bF 1 aN ((aU sp m).map (yP M sp m))) [] []:=by
 have gW:(sp.map cY).length=sp.length:=List.length_map _
 have yO:=jC r M
 refine fZ [100011] Tryz.func229 ?_
 intro w0 ρ0 hE
 conv=>whnf
 (repeat(first|(refine ah Q5 ?_;conv=>whnf)|(refine ah Q7 ?_;conv=>whnf)|(refine ah uq ?_;conv=>whnf)))
 refine ct (t:=2) (k:=2001) (s:=1) (blk:=LR []) rfl rfl rfl ?_
 refine aj hE (fun k=>k) [0,2,11,12] [2001] (fun m' fr hp=>∃k n:Nat,m'=m - k∧k≤m∧n=(aU sp k).length∧fr=[(0,nU r m c M (sp.map cY) d),(2,.aO 2001 1 0 n),(11,iv m),(12,iv k)]∧hp=[(2001,LR ((aU sp k).map (yP M sp m)))]) m ?_ ?_ ?_
 ·kernel_rfl
 ·exact⟨0,0,rfl,Nat.zero_le _,rfl,rfl,rfl⟩
 rintro m' _ _ ⟨k,n,rfl,hk,hn,rfl,rfl⟩
 conv=>whnf
 by_cases aE:k<m
 ·have t1:=dx aE
  have t2:=br (i:=k) aa
  have k1:=Fz (sp.map cY) k (by rw[gW];omega)
  have Jw:=dr sp k
  by_cases yM:k∈sp
  ·have t3:decide ((k:Int)∈sp.map cY)=true:=decide_eq_true (G0.2 yM)
   rw[if_pos yM,List.append_nil]at Jw
   rw[t3]at k1
   (repeat((first|refine ag rfl rfl ?_|refine aS (by assumption) ?_|refine ao t1 ?_|refine ah Q5 ?_|refine ah Q7 ?_|refine ah uq ?_|rw[t1]|rw[t2]);conv=>whnf))
   exact⟨m - (k+1),fun q=>q,[0,2,11,12],[2001],aa,av,k+1,n,rfl,aE,by rw[Jw];exact hn,rfl,by rw[Jw];rfl⟩
  ·have t3:decide ((k:Int)∈sp.map cY)=false:=decide_eq_false fun h=>yM (G0.1 h)
   rw[if_neg yM]at Jw
   rw[t3]at k1
   have k2:=O8 m k hm aE 2002
   have Zv:((aU sp k).map (yP M sp m)).length=n:=by rw[List.length_map];exact hn.symm
   have I1:n≤m:=by rw[hn];exact Nat.le_trans (pW sp k) hk
   have Yk:=H7 ((aU sp k).map (yP M sp m)) (yP M sp m k)
   rw[Zv]at Yk
   have QD:(aU sp (k+1)).map (yP M sp m)=(aU sp k).map (yP M sp m)++[yP M sp m k]:=by rw[Jw,List.map_append];rfl
   rw[←QD]at Yk
   have Kc:n+1=(aU sp (k+1)).length:=by rw[Jw,List.length_append,←hn];rfl
   (repeat((first|refine ae rfl rfl ?_|refine aS (by assumption) ?_|refine lG (by assumption) rfl ?_|refine ao t1 ?_|refine ah Q8 ?_|refine ah Q5 ?_|refine ah Q7 ?_|refine ah uq ?_|rw[t1]);conv=>whnf))
   refine aj hE (fun k=>k) [0,2,3,4,11,12,33,34,35] [2001,2002] (fun m' fr hp=>∃i:Nat,m'=sp.length - i∧i≤sp.length∧fr=[(0,nU r m c M (sp.map cY) d),(2,.aO 2001 1 0 n),(3,iv k),(4,.aO 2002 5 0 m),(11,iv m),(12,iv k),(33,cO .i64 (sp.map cY)),(34,iv sp.length),(35,iv i)]∧
    hp=[(2001,LR ((aU sp k).map (yP M sp m))),(2002,cP (H6 M sp m k i))]) sp.length ?_ ?_ ?_
   ·kernel_rfl
   ·exact⟨0,rfl,Nat.zero_le _,by rw[←gW];rfl,rfl⟩
   rintro m' _ _ ⟨i,rfl,hi,rfl,rfl⟩
   conv=>whnf
   by_cases hip:i<sp.length
   ·have t4:=dx hip
    have t5:=br (i:=i) aa
    have g1:(sp.map cY).getD i 0=((sp.getD i 0:Nat):Int):=by simp[List.getD_eq_getElem?_getD,hip]
    have g2:=yn (M:=M) (show i<r by omega)
    have g3:=hM i aa
    have g4:=hsp i hip
    have g5:=sO M sp m k i
    have k3:=Bh ((M i).getD k 0)
    clear k1 k2
    (repeat((first|refine bg Q3 ?_|refine aC Q3 ?_|refine aS (by assumption) ?_|refine ao t4 ?_|refine ah og ?_|refine ah Q5 ?_|refine ah jw ?_|refine ah mP ?_|refine ah Q7 ?_|refine ah uq ?_|rw[t4]|rw[t5]|rw[g1]|rw[g2]|rw[Int.toNat_natCast]|rw[Nat.zero_add]);conv=>whnf))
    exact⟨sp.length - (i+1),fun q=>q,[0,2,3,4,11,12,33,34,35],[2001,2002],aa,av,i+1,rfl,hip,rfl,rfl⟩
   ·have t4:=dA hip
    obtain rfl:i=sp.length:=aa
    clear k1 k2
    (repeat(first|(refine ay t4 ?_;conv=>whnf)|(rw[t4];conv=>whnf)))
    refine fv 4 2002 (fun _ h=>h) rfl rfl (sO M sp m k _).symm ?_
    refine bA hE ?_
    conv=>whnf
    (repeat(first|(refine aC Q3 ?_;conv=>whnf)|(rw[t2];conv=>whnf)))
    refine⟨m - (k+1),cE [(58,2001)],[0,2,11,12],[58],aa,av,k+1,n+1,rfl,aE,Kc,rfl, ?_⟩
    rw[Yk];rfl
 ·have t1:=dA aE
  obtain rfl:k=m:=aa
  have Zv:((aU sp k).map (yP M sp k)).length=n:=by rw[List.length_map];exact hn.symm
  (repeat(first|(refine ay t1 ?_;conv=>whnf)));(first|exact au.refl _|exact mu.kF (au.refl _) rfl|(refine mu.one rfl rfl ?_;(repeat(first|(refine dF.seq rfl (by first|rfl|(apply bN;intro _;rfl)) ?_;(first|rfl|omega|(simp<;>fail)|(simp<;>omega))))))|(refine mu.ck ?_;skip))
end Go.Proofs.YtfpagioknjjacaaGreatDoor
