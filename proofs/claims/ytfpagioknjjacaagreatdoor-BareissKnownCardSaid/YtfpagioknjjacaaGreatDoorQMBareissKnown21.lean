/- The texts Qk, Qm, Qn. -/
import Derived.Test.YtfpagioknjjacaaGreatDoorQMBareissKnown20
namespace Go.Sx
set_option linter.unusedSimpArgs false
set_option linter.unusedVariables false
section
variable {E:Env} {fr:List (Nat×SV)} {a:Act} {W:World}
theorem LG {jj pp k n:Nat} {tj ty:TypeId} {wj:Bool} {cs:List SV} {hp:List (Nat×aC)} {qs:List Rat} (hW:∀b,¬E.W0 b) (hjf:find hp jj=some ⟨tj,wj,.one cs⟩) (hjk:jj≠k) (hpc:cs[pp]? =some (.aN k 5 0 n)) (hk:find hp k=some ⟨ty,true,.cm qs⟩) (hn:n=qs.length)
  (hR:RR E (fn fr hp) a W):RR E (fn fr ((jj,⟨tj,wj,.one (cs.set pp (cX qs))⟩)::fI hp k ⟨ty,true,.dead⟩)) a W:=by
 have:=pX jj pp k (xs:=qs.map .frac) hW hjf hjk hpc hk rfl rfl (bw (fun _=>rfl) qs) (by simp;omega) hR
 rwa [gf (by simp;omega)]at this
theorem LH {jj pp k n:Nat} {tj ty:TypeId} {wj:Bool} {cs:List SV} {hp:List (Nat×aC)} {kd:IntKind} {xs:List Int} (hW:∀b,¬E.W0 b) (hjf:find hp jj=some ⟨tj,wj,.one cs⟩) (hjk:jj≠k) (hpc:cs[pp]? =some (.aN k 1 0 n)) (hk:find hp k=some ⟨ty,true,.ints kd xs⟩) (hn:n=xs.length)
  (hR:RR E (fn fr hp) a W):RR E (fn fr ((jj,⟨tj,wj,.one (cs.set pp (cF kd xs))⟩)::fI hp k ⟨ty,true,.dead⟩)) a W:=by
 have:=pX jj pp k (xs:=xs.map (fV kd)) hW hjf hjk hpc hk rfl rfl (bw (fun _=>rfl) xs) (by simp;omega) hR
 rwa [gf (by simp;omega)]at this
theorem LI {jj pp k n:Nat} {tj ty:TypeId} {wj:Bool} {cs xs:List SV} {hp:List (Nat×aC)} (hW:∀b,¬E.W0 b) (hjf:find hp jj=some ⟨tj,wj,.one cs⟩) (hjk:jj≠k) (hpc:cs[pp]? =some (.aN k 1 0 n)) (hk:find hp k=some ⟨ty,true,.seq 1 xs⟩) (mF:bn xs=true) (hn:n=xs.length)
  (hR:RR E (fn fr hp) a W):RR E (fn fr ((jj,⟨tj,wj,.one (cs.set pp (eH 1 xs))⟩)::fI hp k ⟨ty,true,.dead⟩)) a W:=by
 have:=pX jj pp k (xs:=xs) hW hjf hjk hpc hk rfl rfl mF aa hR
 rwa [gf aa]at this
theorem rE {j k:Nat} {b:aC} {hp:List (Nat×aC)} (h:k≠j):find ((j,b)::hp) k=find hp k:=by
 rw[find]
 cases hb:Nat.beq j k with
 |true=>exact absurd (Nat.eq_of_beq_eq_true hb).symm h
 |false=>rfl
theorem Jg {hp l:List (Nat×aC)} {k:Nat} {b:aC} (h:find hp k=none) (r:∀j c,(j,c)∈l→find hp j=none):∀j c,(j,c)∈(k,b)::l→find hp j=none:=by
 intro j c hm
 rcases List.mem_cons.1 hm with e|e
 ·cases e;exact h
 ·exact r j c e
theorem uB {tj ty:TypeId} {c:Nat} {M:Nat→List Rat} (hW:∀b,¬E.W0 b):∀(n j0:Nat) (cs:List SV) (hp:List (Nat×aC)),find hp 1002=some ⟨tj,true,.one cs⟩→(∀j,j0≤j→j<j0+n→cs[j]? =some (.aN (1010+j) 5 0 c))→
  (∀j,j0≤j→j<j0+n→find hp (1010+j)=some ⟨ty,true,.cm (M j)⟩∧c=(M j).length)→RR E (fn fr hp) a W→
  ∃cd cs',RR E (fn fr cd) a W∧find cd 1002=some ⟨tj,true,.one cs'⟩∧cs'.length=cs.length∧(∀j,cs'[j]? =if j0≤j∧j<j0+n then some (cX (M j))else cs[j]?)∧∀k,k≠1002→(∀j,j0≤j→j<j0+n→k≠1010+j)→find cd k=find hp k
 |0,j0,cs,hp,h1,_,_,hR=>⟨hp,cs,hR,h1,rfl,fun j=>by rw[if_neg aa],fun _ _ _=>rfl⟩
 |n+1,j0,cs,hp,h1,h2,h3,hR=>by
  obtain⟨h4,h5⟩:=h3 j0 (Nat.le_refl _) aa
  have h6:=LG (pp:=j0) hW h1 aa (h2 j0 (Nat.le_refl _) aa) h4 h5 hR
  have f1:find ((1002,(⟨tj,true,.one (cs.set j0 (cX (M j0)))⟩:aC))::fI hp (1010+j0) ⟨ty,true,.dead⟩) 1002=some ⟨tj,true,.one (cs.set j0 (cX (M j0)))⟩:=rfl
  have f2:∀k,k≠1002→find ((1002,(⟨tj,true,.one (cs.set j0 (cX (M j0)))⟩:aC))::fI hp (1010+j0) ⟨ty,true,.dead⟩) k=if k=1010+j0 then some ⟨ty,true,.dead⟩else find hp k:=fun k hk=>by
   rw[rE hk,cn]
  have aA:j0<cs.length:=(List.getElem?_eq_some_iff.1 (h2 j0 (Nat.le_refl _) aa)).1
  obtain⟨cd,cs',g1,g2,g3,g4,g5⟩:=uB hW n (j0+1) _ _ f1 (fun j hj1 hj2=>by rw[List.getElem?_set_ne aa];exact h2 j aa aa) (fun j hj1 hj2=>by rw[f2 _ aa,if_neg aa];exact h3 j aa aa) h6
  refine⟨cd,cs',g1,g2,by rw[g3,List.length_set],fun j=> ?_,fun k hk hj=> ?_⟩
  ·rw[g4 j]
   by_cases e1:j0+1≤j∧j<j0+1+n
   ·rw[if_pos e1,if_pos aa]
   ·rw[if_neg e1]
    by_cases e2:j=j0
    ·subst e2
     rw[if_pos aa,List.getElem?_set_self aA]
    ·rw[if_neg aa,List.getElem?_set_ne (Ne.symm e2)]
  ·rw[g5 k hk (fun j h1 h2=>hj j aa aa),f2 k hk,if_neg (hj j0 (Nat.le_refl _) aa)]
end
theorem jm {ks:List Nat} {fr:List (Nat×SV)} {t:Nat} {p:Pred}:∀{ts:List Nat},dZ ks fr ts=true→dZ ks ((t,.atom p)::fr) ts=true
 |[],_=>rfl
 |u::r,h=>by
  rw[dZ]at h ⊢
  rw[lk]
  cases hb:Nat.beq t u with
  |true=>
   simp only
   have:dZ ks fr r=true:=by
    cases hl:lk fr u with
    |none=>rw[hl]at h;exact h
    |some c=>rw[hl]at h;simp only[Bool.and_eq_true]at h;exact h.2
   rw[jm this];rfl
  |false=>
   simp only
   cases hl:lk fr u with
   |none=>rw[hl]at h;exact jm h
   |some c=>rw[hl]at h;simp only[Bool.and_eq_true]at h ⊢;exact⟨h.1,jm h.2⟩
theorem p8 {hp cd:List (Nat×aC)}:∀{ks:List Nat},(∀k∈ks,find cd k=find hp k)→mm cd ks=mm hp ks
 |[],_=>rfl
 |k::r,h=>by rw[mm,mm,h k (List.mem_cons_self ..),p8 fun j hj=>h j (List.mem_cons_of_mem _ hj)]
theorem nn {hp cd:List (Nat×aC)} {ks:List Nat}:∀{l:List Nat},(∀k∈l,find cd k=find hp k)→dD ks cd l=dD ks hp l
 |[],_=>rfl
 |k::r,h=>by rw[dD,dD,h k (List.mem_cons_self ..),nn fun j hj=>h j (List.mem_cons_of_mem _ hj)]
end Go.Sx
namespace Go.Proofs.YtfpagioknjjacaaGreatDoor
open Go.Sx
set_option linter.unusedSimpArgs false
set_option linter.unusedVariables false
set_option maxRecDepth 100000
set_option maxHeartbeats 40000000
abbrev wCs (r m c:Nat) (M:Nat→List Rat) (pv:List Int) (d:Rat):List SV:=[cT 1 cX ((List.range r).map M),iv m,cF .i64 pv,.frac d]
abbrev xZ (r m c:Nat) (M:Nat→List Rat) (pv:List Int) (d:Rat):SV:=bG (wCs r m c M pv d)
def Zq (l:List Nat):Bool:=l.all fun k=>Nat.blt k 1000
theorem vh {E:Env} (t:Nat) (ts ks:List Nat) {fr:List (Nat×SV)} {hp:List (Nat×aC)} {r m c p:Nat} {M:Nat→List Rat} {pv:List Int} {d:Rat} (hW:∀b,¬E.W0 b) (ht:lk fr t=some (.ptr 1001 0 0 0)) (h1:find hp 1001=some (ZT true r m p d)) (h2:find hp 1002=some (Ie true (sG r c))) (h3:find hp 1003=some (ZU true pv))
  (h4:∀j,j<r→find hp (1010+j)=some (HA true (M j))∧c=(M j).length) (h5:p=pv.length) (R5:dZ ks fr ts=true) (NB:dD ks hp ks=true) (hn3:(qG (fun k=>k) ks&&ua (fun k=>k) ks E.fx)=true) (hb:Zq ks=true) (hr:r≤1000) (hE:E.OK):
  ∀a w,RR E (fn fr hp) a w→RR E (fn ((t,xZ r m c M pv d)::fp (fun k=>k) ((t,xZ r m c M pv d)::fr) ts) (mm hp ks)) a w:=by
 intro a w hR
 have rV:∀k∈ks,k<1000:=fun k hk=>by simpa [Nat.blt_eq]using List.all_eq_true.1 hb k hk
 obtain⟨hp1,cs1,g1,g2,g3,g4,g5⟩:=uB (M:=M) hW r 0 (sG r c) hp h2 (fun j _ hj=>by simp[List.getElem?_map,List.getElem?_range (show j<r by omega)]) (fun j _ hj=>h4 j aa) hR
 have Dm:cs1=((List.range r).map M).map cX:=by
  refine List.ext_getElem? fun j=> ?_
  rw[g4 j]
  by_cases hj:j<r
  ·rw[if_pos ⟨Nat.zero_le _,aa⟩];simp[List.getElem?_map,List.getElem?_range hj]
  ·rw[if_neg aa];simp[List.getElem?_map,List.getElem?_eq_none (show(List.range r).length≤j by simp;omega)]
 have mF:bn cs1=true:=by rw[Dm];exact bw (fun _=>rfl) _
 have haw:pI 1 cs1=true:=by
  rw[Dm]
  generalize (List.range r).map M=L
  induction L with
  |nil=>rfl
  |cons x L ih=>rw[List.map_cons,pI,ih];rfl
 have r1:=Lt g2 mF haw g1
 have q1:∀k,k≠1002→find ((1002,(⟨36,true,.seq 1 cs1⟩:aC))::hp1) k=find hp1 k:=fun k hk=>by
  exact rE hk
 have gp:r=cs1.length:=by rw[g3];simp
 have r2:=LI (jj:=1001) (pp:=0) (k:=1002) (n:=r) hW (by rw[q1 _ aF,g5 _ aF (fun j _ _=>aa)];exact h1) aF rfl (show find _ 1002=some ⟨36,true,.seq 1 cs1⟩from rfl) mF gp r1
 have r3:=LH (jj:=1001) (pp:=2) (k:=1003) (n:=p) (kd:=.i64) (xs:=pv) hW (show find _ 1001=some _ from rfl) aF rfl (show find _ 1003=some (ZU true pv) by
  show find (fI _ 1002 _) 1003=_
  rw[cn,if_neg aF,q1 _ aF,g5 _ aF (fun j _ _=>aa)];exact h3) h5 r2
 have r4:=pY t 1001 hW ht (show find _ 1001=some _ from rfl) (by simp[bn,bE,List.set]) r3
 rw[Dm]at r4
 have e4:List.set (List.set [.aN 1002 1 0 r,iv m,.aN 1003 1 0 p,.frac d] 0 (eH 1 (((List.range r).map M).map cX))) 2 (cF .i64 pv)=wCs r m c M pv d:=rfl
 rw[e4]at r4
 generalize hq:fI _ 1001 _=HH at r4
 have vm:∀k∈ks,find HH k=find hp k:=fun k hk=>by
  have:=rV k hk
  rw[←hq,cn,if_neg aa,rE aa,cn,if_neg aa,rE aa,cn,if_neg aa,←Dm,q1 _ aa,g5 _ aa (fun j _ _=>aa)]
 have O2:gT E.fx (fun k=>k) (t::ts) ks ((t,xZ r m c M pv d)::fr) HH=true:=by
  refine jX ?_ (by rw[nn vm];exact NB) hn3
  rw[dZ]
  simp only[lk,Nat.beq_refl]
  rw[jm R5];rfl
 have r5:=oA hE O2 r4
 rw[oo,p8 vm]at r5
 rw[fp]at r5
 simp only[lk,Nat.beq_refl]at r5
 exact r5
theorem sL (r:Nat) (M:Nat→List Rat):((List.range r).map M).length=r:=by simp
theorem ER {r i:Nat} {M:Nat→List Rat} (h:i<r):((List.range r).map M).getD i []=M i:=by simp[List.getD_eq_getElem?_getD,h]
theorem O3 {r m c n:Nat} {M:Nat→List Rat} {pv:List Int} {d:Rat} (hM:∀i,i<r→(M i).length=c) (f:Nat) (hn:f+n≤c) (hc:c≤4096) (i k:Nat) (hi:i<r) (hk:k<n) (hr:r≤2048):
  ab Tryz.prog 309 ([]++([iv (i:Nat),iv (k:Nat)]++[bG [xZ r m c M pv d],bG [iv f]])) [] (.frac ((M i).getD (f+k) 0)) [] []:=by
 have h1:=sL r M
 have h2:=ER (M:=M) hi
 have h3:=hM i hi
 have t1:IntKind.i64.wrap ((f:Int)+(k:Int))=((f+k:Nat):Int):=by rw[wrap_i64 aa aa];omega
 refine bP [] Tryz.func309 ?_
 intro W0 w0 ρ0 hE
 conv=>whnf
 (repeat((first|refine aw aB ?_|refine ak Ai ?_|refine ak Q6 ?_|refine ak Ia ?_|refine ak Q9 ?_|refine ak Ff ?_|rw[t1]|rw[h2]);conv=>whnf));exact Q5
theorem Zr {r m c n:Nat} {M:Nat→List Rat} {pv:List Int} {d:Rat} (hM:∀i,i<r→(M i).length=c) (f:Nat) (hn:f+n≤c) (hc:c≤2048) (hr:r≤2048):
  ab Tryz.prog 224 [xZ r m c M pv d,iv f,iv ((f+n:Nat):Int)] [] (mA r n (mk r n fun i k=>(M i).getD (f+k) 0)) [] []:=by
 have h1:=sL r M
 have k1:=FE (r:=r) (c:=n) hr aa (fun i k=>(M i).getD (f+k) 0) 309 _ _ fun i k hi hk=>O3 (m:=m) (pv:=pv) (d:=d) hM f hn aa i k hi hk hr
 have t1:IntKind.i64.wrap (((f+n:Nat):Int) - (f:Int))=(n:Int):=by rw[wrap_i64 aa aa];omega
 refine bP [3,4] Tryz.func224 ?_
 intro W0 w0 ρ0 hE
 conv=>whnf
 (repeat((first|refine aw aB ?_|refine aS (by assumption) ?_|refine ak cO ?_|refine ak Q6 ?_|refine ak Q9 ?_|refine ak Ff ?_|refine ak uf ?_|rw[t1]|rw[h1]);conv=>whnf));exact Q5
theorem CX {E:Env} (t:Nat) (ts ks:List Nat) {K:bQ} {co:Code} {fr:List (Nat×SV)} {hp:List (Nat×aC)} {r m c p:Nat} {M:Nat→List Rat} {pv:List Int} {d:Rat} (hW:∀b,¬E.W0 b) (ht:lk fr t=some (.ptr 1001 0 0 0)) (h1:find hp 1001=some (ZT true r m p d)) (h2:find hp 1002=some (Ie true (sG r c))) (h3:find hp 1003=some (ZU true pv))
  (h4:∀j,j<r→find hp (1010+j)=some (HA true (M j))∧c=(M j).length) (h5:p=pv.length) (R5:dZ ks fr ts=true) (NB:dD ks hp ks=true) (hn3:(qG (fun k=>k) ks&&ua (fun k=>k) ks E.fx)=true) (hb:Zq ks=true) (hr:r≤1000) (hE:E.OK)
  (hs:ey E co K ((t,xZ r m c M pv d)::fp (fun k=>k) ((t,xZ r m c M pv d)::fr) ts) (mm hp ks)):ey E co K fr hp:=
 ⟨fun a w hR=>hs.run a w (vh t ts ks hW ht h1 h2 h3 h4 h5 R5 NB hn3 hb hr hE a w hR)⟩
abbrev Rh (m:Nat):aC:=⟨269,true,.one [.val (.slice none 0 0),iv m,.val (.slice none 0 0),.frac 1]⟩
theorem LJ {ρ:bY} {m:Nat} (z:List (List Value)) (h:au ρ [.val (.slice none 0 0),iv m,.val (.slice none 0 0),.frac 1] z):au ρ (wCs 0 m 0 (fun _=>[]) [] 1) z:=by
 simp only[au]at h ⊢
 obtain⟨x,r,rfl,h1,y,r2,rfl,h2,z,r3,rfl,h3,h4⟩:=h
 exact⟨x,_,rfl,uO h1,y,_,rfl,h2,z,_,rfl,uO h3,h4⟩
theorem CY {E:Env} (t:Nat) {K:bQ} {co:Code} {fr:List (Nat×SV)} {hp:List (Nat×aC)} {m:Nat} (hW:∀b,¬E.W0 b) (ht:lk fr t=some (.ptr 1001 0 0 0)) (h1:find hp 1001=some (Rh m))
  (hs:ey E co K ((t,xZ 0 m 0 (fun _=>[]) [] 1)::fr) (fI ((1001,⟨269,true,.one (wCs 0 m 0 (fun _=>[]) [] 1)⟩)::hp) 1001 ⟨269,true,.dead⟩)):ey E co K fr hp:=
 ⟨fun a w hR=>hs.run a w (pY t 1001 hW ht rfl rfl (r8 h1 (fun _ z hz=>LJ z hz) hR))⟩
theorem HE {c:Nat} (more:Nat) (a:List Rat) (g:FuncId) (ha:jq 0 c a):
  ab Tryz.prog 221 [mA (0:Nat) c a,iv more,.clo g [] []] [] (.ptr 1001 0 0 0) [(1001,Rh c)] []:=by
 have k0:ab Tryz.prog 18 [iv 1] [] (.frac 1) [] []:=ju 1 aF aF
 refine p0 (Z:=[3]) aL bJ Tryz.func221 rfl aB (fG.of rfl rfl rfl rfl rfl rfl rfl rfl rfl rfl rfl) rfl (bh.id rfl) ?_
 intro W0 w0 ρ0 hE
 conv=>whnf
 (repeat((first|refine aw aB ?_|refine aS (by assumption) ?_|refine ak Q6 ?_|refine ak Q9 ?_);conv=>whnf))
 refine ai hE (fun k=>cond (Nat.beq k 15) 1001 k) [7,17,18] [15] (fun m' fr hp=>fr=[(7,.ptr 1001 0 0 0),(17,iv (0:Nat)),(18,iv (0:Nat))]∧hp=[(1001,Rh c)]) 0 ?_ ?_ ?_
 ·kernel_rfl
 ·exact⟨rfl,rfl⟩
 rintro m' _ _ ⟨rfl,rfl⟩
 conv=>whnf
 (repeat(first|(refine af rfl rfl ?_;conv=>whnf)))
 exact⟨aq.refl _,dL rfl get_nil,get_nil⟩
theorem y9 {c:Nat} (more:Nat) (a:List Rat) (g:FuncId) (p:Pred) (ha:jq 0 c a):
  ab Tryz.prog 221 [mA (0:Nat) c a,iv more,.clo g [] [.atom p]] [] (.ptr 1001 0 0 0) [(1001,Rh c)] []:=by
 have k0:ab Tryz.prog 18 [iv 1] [] (.frac 1) [] []:=ju 1 aF aF
 refine p0 (Z:=[3]) aL bJ Tryz.func221 rfl aB (fG.of rfl rfl rfl rfl rfl rfl rfl rfl rfl rfl rfl) rfl (bh.id rfl) ?_
 intro W0 w0 ρ0 hE
 conv=>whnf
 (repeat((first|refine aw aB ?_|refine aS (by assumption) ?_|refine ak Q6 ?_|refine ak Q9 ?_);conv=>whnf))
 refine ai hE (fun k=>cond (Nat.beq k 15) 1001 k) [7,17,18] [15] (fun m' fr hp=>fr=[(7,.ptr 1001 0 0 0),(17,iv (0:Nat)),(18,iv (0:Nat))]∧hp=[(1001,Rh c)]) 0 ?_ ?_ ?_
 ·kernel_rfl
 ·exact⟨rfl,rfl⟩
 rintro m' _ _ ⟨rfl,rfl⟩
 conv=>whnf
 (repeat(first|(refine af rfl rfl ?_;conv=>whnf)))
 exact⟨aq.refl _,dL rfl get_nil,get_nil⟩
theorem HF {c:Nat} (more:Nat) (a:List Rat) (g:FuncId) (p q:Pred) (ha:jq 0 c a):
  ab Tryz.prog 221 [mA (0:Nat) c a,iv more,.clo g [] [.atom p,.atom q]] [] (.ptr 1001 0 0 0) [(1001,Rh c)] []:=by
 have k0:ab Tryz.prog 18 [iv 1] [] (.frac 1) [] []:=ju 1 aF aF
 refine p0 (Z:=[3]) aL bJ Tryz.func221 rfl aB (fG.of rfl rfl rfl rfl rfl rfl rfl rfl rfl rfl rfl) rfl (bh.id rfl) ?_
 intro W0 w0 ρ0 hE
 conv=>whnf
 (repeat((first|refine aw aB ?_|refine aS (by assumption) ?_|refine ak Q6 ?_|refine ak Q9 ?_);conv=>whnf))
 refine ai hE (fun k=>cond (Nat.beq k 15) 1001 k) [7,17,18] [15] (fun m' fr hp=>fr=[(7,.ptr 1001 0 0 0),(17,iv (0:Nat)),(18,iv (0:Nat))]∧hp=[(1001,Rh c)]) 0 ?_ ?_ ?_
 ·kernel_rfl
 ·exact⟨rfl,rfl⟩
 rintro m' _ _ ⟨rfl,rfl⟩
 conv=>whnf
 (repeat(first|(refine af rfl rfl ?_;conv=>whnf)))
 exact⟨aq.refl _,dL rfl get_nil,get_nil⟩
abbrev wzR (m:Nat):aC:=⟨269,false,.one [.val (.slice none 0 0),iv m,.val (.slice none 0 0),.frac 1]⟩
theorem pe (m:Nat) (hm:m≤4096):ab Tryz.prog 223 [.ptr 1001 0 0 0] [(1001,wzR m)] (.ptr 1001 0 0 0) [] []:=by
 refine y3 (Z:=[]) aL bJ Tryz.func223 rfl aB (cu.of rfl rfl rfl rfl rfl rfl rfl rfl rfl rfl rfl) rfl ?_
 intro W0 w0 ρ0 hE
 conv=>whnf
 (repeat(first|(rw[Nat.zero_add];conv=>whnf)))
 refine rz hE [0,9,10] (fun m' fr hp=>∃k:Nat,m'=m - k∧k≤m∧fr=[(0,.ptr 1001 0 0 0),(9,iv m),(10,iv k)]∧hp=[(1001,wzR m)]) m ?_ ?_ ?_
 ·kernel_rfl
 ·exact⟨0,rfl,Nat.zero_le _,rfl,rfl⟩
 rintro m' _ _ ⟨k,rfl,hk,rfl,rfl⟩
 conv=>whnf
 by_cases aA:k<m
 ·have t1:=dX aA
  have t2:=bA (i:=k) aa
  (repeat(first|(refine aE t1 ?_;conv=>whnf)|(rw[t1];conv=>whnf)|(rw[Nat.zero_add];conv=>whnf)))
  refine rz hE [0,9,10,5] (fun m' fr hp=>m'=0∧fr=[(0,.ptr 1001 0 0 0),(9,iv m),(10,iv k),(5,iv (0:Nat))]∧hp=[(1001,wzR m)]) 0 ?_ ?_ ?_
  ·kernel_rfl
  ·exact⟨rfl,rfl,rfl⟩
  rintro m' _ _ ⟨rfl,rfl,rfl⟩
  conv=>whnf
  (repeat(first|(refine af rfl rfl ?_;conv=>whnf)|(rw[t2];conv=>whnf)|(rw[Nat.zero_add];conv=>whnf)))
  exact⟨m - (k+1),aa,aB,k+1,rfl,aA,rfl,rfl⟩
 ·have t1:=ez aA
  (repeat(first|(refine aM t1 ?_;conv=>whnf)))
  exact⟨aq.refl _,get_nil,get_nil⟩
theorem CZ {n:Nat} {a:List Rat} (ha:jq n n a):ab Tryz.prog 227 [mA n n a] [] (iv 0) [] []:=by
 have k1:=kI ha
 refine bP [1] Tryz.func227 ?_
 intro W0 w0 ρ0 hE
 conv=>whnf
 (repeat((first|refine af rfl rfl ?_|refine aS (by assumption) ?_|rw[bne_self_eq_false]|refine ak Q6 ?_|refine ak Q9 ?_);conv=>whnf));exact Q5
end Go.Proofs.YtfpagioknjjacaaGreatDoor
