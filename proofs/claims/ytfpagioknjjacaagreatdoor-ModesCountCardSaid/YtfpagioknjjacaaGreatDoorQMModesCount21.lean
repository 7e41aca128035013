/- The texts Af. -/
import Derived.Test.YtfpagioknjjacaaGreatDoorQMModesCount18
import Derived.Test.YtfpagioknjjacaaGreatDoorQMModesCount20
namespace Go.Sx
set_option linter.unusedSimpArgs false
set_option linter.unusedVariables false
theorem vF {E:Env} (jj pp k:Nat) {tj:TypeId} {wj:Bool} {cs:List SV} {fr:List (Nat×SV)} {hp:List (Nat×aA)} {ty:TypeId} {ds:List SV} (hW:∀b,¬E.W0 b) (hjf:find hp jj=some ⟨tj,wj,.one cs⟩) (C8:jj≠k) (hpc:cs[pp]? =some (.ptr k 0 0 0)) (hk:find hp k=some ⟨ty,true,.one ds⟩)
  (od:aV ds=true) {a:Act} {W:World} (hR:RR E (fn fr hp) a W):RR E (fn fr ((jj,⟨tj,wj,.one (cs.set pp (cx ds))⟩)::eD hp k ⟨ty,true,.dead⟩)) a W:=by
 have hl:(Data.one ds).live=true:=rfl
 obtain⟨ρ,hext,hfx,hR⟩:=hR
 have C6:(fn fr hp (.k k)).blk=some ⟨ty,true,.one ds⟩:=by simp only[fn,LV.blk];exact hk
 have V0:(fn fr hp (.k jj)).blk=some ⟨tj,wj,.one cs⟩:=by simp only[fn,LV.blk];exact hjf
 obtain⟨bj,nj,exj,zj,hj1,UT,hj3,hj4,hj5⟩:∃bj nj exj zj,ρ.key jj=some (bj,nj)∧W.heap[bj]? =some ((Data.one cs).obj (zj.flatten++exj) tj)∧au ρ cs zj∧(zj.flatten++exj).length=nj∧∀v∈exj,v.oneCell'=true:=by
  rcases hR.hp.blk jj _ V0 with g0|⟨b',t',vs,ex,g1,g2,⟨z,g3,rfl⟩,g4,g5⟩|⟨_,g2⟩
  ·cases g0
  ·exact⟨b',t',ex,z,g1,g2,g3,g4,g5⟩
  ·exact g2.elim
 obtain⟨x,hzx,hx⟩:=CQ hj3 hpc
 have eI:∀q b,(fn fr ((jj,⟨tj,wj,.one (cs.set pp (cx ds))⟩)::eD hp k ⟨ty,true,.dead⟩) (.k q)).blk=some b→(q=jj∧b=⟨tj,wj,.one (cs.set pp (cx ds))⟩)∨(q=k∧b=⟨ty,true,.dead⟩)∨(q≠jj∧q≠k∧(fn fr hp (.k q)).blk=some b):=by
  intro q b hb
  simp only[fn,LV.blk,find]at hb ⊢
  cases hq:Nat.beq jj q with
  |true=>
   rw[hq]at hb
   exact .inl ⟨(Nat.eq_of_beq_eq_true hq).symm,(Option.some.inj hb).symm⟩
  |false=>
   rw[hq]at hb
   simp only[bN]at hb
   have a7:q≠jj:=by rintro rfl;simp[Nat.beq_refl]at hq
   by_cases hj:q=k
   ·rw[if_pos hj]at hb;exact .inr (.inl ⟨hj,(Option.some.inj hb).symm⟩)
   ·rw[if_neg hj]at hb;exact .inr (.inr ⟨a7,hj,hb⟩)
 have fin:∀ρ':bI,ρ'.key=ρ.key→(∀b o,ρ.aT b=some o→ρ'.aT b=some o)→(∀b o,ρ'.aT b=some o→ρ.aT b=some o∨E.w0.heap.size≤b)→(∀b o,ρ'.aT b=some o→W.heap[b]? =some o)→
   (∀j b x,j≠k→(fn fr hp (.k j)).blk=some b→b.wr=true→b.data.live=true→ρ.key j=some x→ρ'.aT x.1=none)→(∀D,W.heap[D]? =some (.deferred (some []))→ρ.aT D=none→ρ'.aT D=none)→aG ρ' (cx ds) x→
   RR E (fn fr ((jj,⟨tj,wj,.one (cs.set pp (cx ds))⟩)::eD hp k ⟨ty,true,.dead⟩)) a W:=by
  intro ρ' bJ himm eO hheap jf hmark hhas
  have hle:ρ.Le ρ':=⟨fun j y hy=>by rw[bJ];exact hy,himm⟩
  refine⟨ρ',⟨hext.le.trans hle,fun b o hb=>(eO b o hb).elim (fun h=>hext.aT b o h) .inr,fun j hj=>by rw[bJ];exact hext.fix j hj⟩,fun j hj=> ?_,{defers:= ?_,size:=hR.size,fr:= ?_,bw:=hR.bw,hp:= ?_}⟩
  ·have:=hfx j hj
   simp only[fn,LV.blk,find]at this ⊢
   cases hq:Nat.beq jj j with
   |true=>simp
   |false=>
    simp only[bN]
    split
    ·simp
    ·exact this
  ·obtain⟨Ds,d1,d2,d3⟩:=hR.defers
   refine⟨Ds,d1,d2,fun D hD=> ?_⟩
   obtain⟨e1,e2,e3⟩:=d3 D hD
   refine⟨e1,e2, ?_⟩
   exact hmark D e2 e3
  ·intro u sv hu
   exact Has.mono hle _ _ (hR.fr u sv hu)
  ·have jB:∀q b,(fn fr ((jj,⟨tj,wj,.one (cs.set pp (cx ds))⟩)::eD hp k ⟨ty,true,.dead⟩) (.k q)).blk=some b→b.data.live=true→∃b0,(fn fr hp (.k q)).blk=some b0∧b0.wr=b.wr∧b0.data.live=true∧q≠k:=by
    intro q b hb hlv
    rcases eI q b hb with⟨rfl,rfl⟩|⟨_,rfl⟩|⟨_,h2,h3⟩
    ·exact⟨_,V0,rfl,rfl,C8⟩
    ·cases hlv
    ·exact⟨b,h3,rfl,hlv,h2⟩
   constructor
   ·intro q b hb
    rcases eI q b hb with⟨rfl,rfl⟩|⟨rfl,rfl⟩|⟨_,_,hb⟩
    ·refine .inr (.inl ⟨bj,nj,zj.flatten,exj,by rw[bJ];exact hj1,UT,⟨zj, ?_,rfl⟩,hj4,hj5⟩)
     exact yU (au.mono hle cs zj hj3) hzx hhas
    ·exact .inl rfl
    ·rcases hR.hp.blk q b hb with g0|⟨b',t',vs,ex,g1,g2,g3,g4⟩|⟨g1,g2⟩
     ·exact .inl g0
     ·exact .inr (.inl ⟨b',t',vs,ex,by rw[bJ];exact g1,g2,g3.mono hle,g4⟩)
     ·exact .inr (.inr ⟨by rw[bJ];exact g1,g2⟩)
   ·intro j j' y y' b b' hy FL a7 hyy hb fV gJ gI
    rw[bJ]at hy FL
    obtain⟨c0,h1,h2,h3,_⟩:=jB j b hb gJ
    obtain⟨c0',h1',h2',h3',_⟩:=jB j' b' fV gI
    rw[←h2]
    exact hR.hp.sep j j' y y' c0 c0' hy FL a7 hyy h1 h1' h3 h3'
   ·intro j b y hb hwr gJ hy
    rw[bJ]at hy
    obtain⟨c0,h1,h2,h3,_⟩:=jB j b hb gJ
    exact hR.hp.own j c0 y h1 (h2.trans hwr) h3 hy
   ·intro j y hy
    rw[bJ]at hy
    obtain⟨b,hb⟩:=hR.hp.ud j y hy
    simp only[fn,LV.blk,find]at hb ⊢
    cases hq:Nat.beq jj j with
    |true=>exact⟨_,rfl⟩
    |false=>
     simp only[bN]
     split
     ·exact⟨_,rfl⟩
     ·exact⟨b,hb⟩
   ·exact hheap
   ·intro j b y hb hwr gJ hy
    rw[bJ]at hy
    obtain⟨c0,h1,h2,h3,h4⟩:=jB j b hb gJ
    exact jf j c0 y h4 h1 (h2.trans hwr) h3 hy
 simp only[aG]at hx
 obtain⟨b,t',h1,rfl⟩:=hx
 rcases hR.hp.blk k _ C6 with g0|⟨b',t'',vs,ex,g1,g2,g3,g4,g5⟩|⟨g1,_⟩
 ·cases g0
 ·rw[h1]at g1
  cases g1
  rw[Data.ck rfl]at g2
  have h2:W.heap[b]? =some (.cells (vs++ex).toArray ty (0,0)):=g2
  simp only[cQ]at g3
  obtain⟨z,z1,rfl⟩:=g3
  have hB:E.w0.heap.size≤b:=(hR.hp.own k _ _ C6 rfl hl h1).resolve_right (hW _)
  obtain⟨u,xa⟩:=(Up.refl ρ W E.w0.heap.size).add hR.hp.aT hB h2
  refine fin ⟨ρ.key,_,u.b7⟩ rfl u.le (fun b o hb=>(u.new b o hb).imp id (fun h=>h.1)) (fun c p hc=> ?_) (fun j blk y hj hb hwr gJ hy=> ?_) (fun D Lm hD2=> ?_) ?_
  ·rcases u.new c p hc with h|h
   ·exact hR.hp.aT c p h
   ·exact h.2
  ·show(if y.1=b then some _ else ρ.aT y.1)=none
   rw[if_neg]
   ·exact hR.hp.ep j blk y hb hwr gJ hy
   ·intro he2
    have:=hR.hp.sep k j (b,t') y _ _ h1 hy (fun h=>hj h.symm) he2.symm C6 hb hl gJ
    cases this
  ·show(if D=b then some _ else ρ.aT D)=none
   rw[if_neg,hD2]
   rintro rfl
   rw[Lm]at h2;cases h2
  ·have hz:au (cE (fun x=>if x=b then some (.cells (z.flatten++ex).toArray ty (0,0))else ρ.aT x) u.b7) ds z:=b5 (ρ:=ρ) u.le ds z od z1
   simp only[aG]
   exact⟨u.b7,b,z,[],ex,ty,(0,0),if_pos rfl,hz,by simp⟩
 ·rw[h1]at g1;cases g1
end Go.Sx
namespace Go.Proofs.YtfpagioknjjacaaGreatDoor
open Go.Sx
set_option linter.unusedSimpArgs false
set_option linter.unusedVariables false
set_option maxRecDepth 100000
set_option maxHeartbeats 40000000
abbrev RV (n:Nat) (L:List (List Rat)):SV:=cx [iv n,bX 1 cD L]
abbrev bxS (k:Nat):aA:=⟨186,true,.one [.ptr k 0 0 0]⟩
theorem Fi {E:Env} (t:Nat) (ts ks:List Nat) {K:bK} {co:Code} {fr:List (Nat×SV)} {hp:List (Nat×aA)} {r n:Nat} {X:Mx} (hW:∀b,¬E.W0 b) (ht:lk fr t=some (.ptr t 0 0 0)) (h0:find hp t=some (bxS 1001)) (h1:find hp 1001=some (sqB r n)) (h2:find hp 1002=some (E3 true (ib r n)))
  (h4:∀j,j<r→find hp (1010+j)=some (uN true (bz n X j))) (htb:t<1000) (htk:t∉ks) (Lf:dP ks fr ts=true) (hn2:dm ks hp ks=true) (hn3:(rI (fun k=>k) ks&&vf (fun k=>k) ks E.fx)=true) (hb:acg ks=true) (hr:r≤1000) (hE:E.OK)
  (hs:dG E co K ((t,cx [RV n ((List.range r).map (bz n X))])::eW (fun k=>k) ((t,cx [RV n ((List.range r).map (bz n X))])::fr) ts) (mV hp ks)):dG E co K fr hp:=by
 refine⟨fun a w hR=>hs.run a w ?_⟩
 have qx:∀k∈ks,k<1000:=fun k hk=>by simpa [Nat.blt_eq]using List.all_eq_true.1 hb k hk
 obtain⟨Fz,cs1,g1,g2,g3,g4,g5⟩:=pj (c:=n) (M:=bz n X) hW r 0 (ib r n) hp h2 (fun j _ hj=>by simp[List.getElem?_map,List.getElem?_range (show j<r by omega)]) (fun j _ hj=>⟨h4 j aa,(dp _ _).symm⟩) hR
 have zr:cs1=((List.range r).map (bz n X)).map cD:=by
  refine List.ext_getElem? fun j=> ?_
  rw[g4 j]
  by_cases hj:j<r
  ·rw[if_pos ⟨Nat.zero_le _,aa⟩];simp[List.getElem?_map,List.getElem?_range hj]
  ·rw[if_neg aa];simp[List.getElem?_map,List.getElem?_eq_none (show(List.range r).length≤j by simp;omega)]
 have od:aV cs1=true:=by rw[zr];exact bT (fun _=>rfl) _
 have haw:oH 1 cs1=true:=by
  rw[zr]
  generalize (List.range r).map (bz n X)=L
  induction L with
  |nil=>rfl
  |cons x L ih=>rw[List.map_cons,oH,ih];rfl
 have r1:=E7 g2 od haw g1
 have q1:∀k,k≠1002→find ((1002,(⟨36,true,.seq 1 cs1⟩:aA))::Fz) k=find Fz k:=fun k hk=>jV hk
 have gJ:r=cs1.length:=by rw[g3];simp
 have r2:=Fa (jj:=1001) (pp:=1) (k:=1002) (n:=r) hW (by rw[q1 _ aH,g5 _ aH (fun j _ _=>aa)];exact h1) aH rfl (show find _ 1002=some ⟨36,true,.seq 1 cs1⟩from rfl) od gJ r1
 have r3:=vF t 0 1001 hW (show find _ t=some (bxS 1001) by
  rw[jV aa,bN,if_neg aa,q1 _ aa,g5 _ aa (fun j _ _=>aa)];exact h0) aa rfl (show find _ 1001=some _ from rfl) (by simp[aV,bA,List.set]) r2
 have r4:=nY t t hW ht (show find _ t=some _ from uQ) (by simp[aV,bA,List.set]) r3
 rw[zr]at r4
 have e4:(List.set [SV.ptr 1001 0 0 0] 0 (cx (List.set [iv n,.aK 1002 1 0 r] 1 (ed 1 (((List.range r).map (bz n X)).map cD)))))=[RV n ((List.range r).map (bz n X))]:=rfl
 rw[e4]at r4
 generalize hq:eD _ t _=HH at r4
 have wT:∀k∈ks,find HH k=find hp k:=fun k hk=>by
  have:=qx k hk
  have hkt:k≠t:=fun e=>htk (e▸hk)
  rw[←hq,bN,if_neg hkt,jV hkt,bN,if_neg aa,jV aa,bN,if_neg aa,←zr,q1 _ aa,g5 _ aa (fun j _ _=>aa)]
 have GC:gP E.fx (fun k=>k) (t::ts) ks ((t,cx [RV n ((List.range r).map (bz n X))])::fr) HH=true:=by
  refine kq ?_ (by rw[n7 wT];exact hn2) hn3
  rw[dP]
  simp only[lk,Nat.beq_refl]
  rw[jy Lf];rfl
 have r5:=py hE GC r4
 rw[pg,qT wT]at r5
 rw[eW]at r5
 simp only[lk,Nat.beq_refl]at r5
 exact r5
theorem acj {ρ:bI} (z:List (List Value)) (h:au ρ [iv (0:Nat),.val (.slice none 0 0)] z):au ρ [iv (0:Nat),bX 1 cD []] z:=by
 simp only[au]at h ⊢
 obtain⟨x,r,rfl,h1,y,r2,rfl,h2,h3⟩:=h
 exact⟨x,_,rfl,h1,y,_,rfl,nF h2,h3⟩
theorem CT {E:Env} (t:Nat) {K:bK} {co:Code} {fr:List (Nat×SV)} {hp:List (Nat×aA)} (hW:∀b,¬E.W0 b) (ht:lk fr t=some (.ptr t 0 0 0)) (h0:find hp t=some (bxS 1001)) (htb:t<1000) (h1:find hp 1001=some ⟨190,true,.one [iv (0:Nat),.val (.slice none 0 0)]⟩)
  (hs:dG E co K ((t,cx [RV 0 []])::fr) (eD ((t,⟨186,true,.one [RV 0 []]⟩)::eD ((1001,⟨190,true,.one [iv (0:Nat),bX 1 cD []]⟩)::hp) 1001 ⟨190,true,.dead⟩) t ⟨186,true,.dead⟩)):dG E co K fr hp:=
 ⟨fun a w hR=>hs.run a w (nY t t hW ht uQ (by simp[aV,bA]) (vF t 0 1001 hW (by rw[jV aa];exact h0) aa rfl (show find ((1001,(⟨190,true,.one [iv (0:Nat),bX 1 cD []]⟩:aA))::hp) 1001=some _ from rfl) (by simp[aV,bA]) (uL h1 (fun _ z hz=>acj z hz) hR)))⟩
end Go.Proofs.YtfpagioknjjacaaGreatDoor
