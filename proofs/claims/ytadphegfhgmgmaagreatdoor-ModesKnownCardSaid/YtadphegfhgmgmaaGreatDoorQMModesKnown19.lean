/- The texts Qk, Qm, Qn, Af, Qp. -/
import Derived.Test.YtadphegfhgmgmaaGreatDoorQMModesKnown18
import Derived.Test.YtadphegfhgmgmaaGreatDoorQMModesKnown15
import Derived.Test.YtadphegfhgmgmaaGreatDoorQMModesKnown5
import Derived.Test.YtadphegfhgmgmaaGreatDoorQMModesKnown7
set_option linter.unusedSimpArgs false
set_option linter.unusedVariables false
set_option maxHeartbeats 40000000
set_option maxRecDepth 100000
open Bool renaming and_eq_true->Μ
open Go.IntKind renaming i64->ε
open Int renaming toNat_natCast->ι
open List renaming all_eq_true->aiy,ext_getElem?->ajj,getD_eq_getElem?_getD->δ,getElem?_eq_getElem->φ,getElem?_eq_none->Ϙ,getElem?_map->ac4,getElem?_range->agM,getElem?_set_ne->agO,length_map->Χ,map_append->agf,map_cons->ϲ,mem_cons_of_mem->Δ,mem_cons_self->η,range->Η,replicate->θ,set->aiB,take->afH
open Nat renaming beq->ϋ,beq_refl->acZ,blt_eq->aj8,eq_of_beq_eq_true->χ,le_refl->ζ,zero_add->υ,zero_le->Γ
open Option.some renaming inj->abU
namespace Go.Sx
section
variable {E:Env} {fr:List (Nat×SV)} {a:Act} {W:World}
theorem R7 {jj pp k n:Nat} {tj ty:TypeId} {wj:Bool} {cs:List SV} {hp:List (Nat×aC)} {qs:List Rat} (hW:∀b,¬E.W0 b) (hjf:find hp jj=some ⟨tj,wj,.one cs⟩) (Dg:jj≠k) (hpc:cs[pp]? =some (.aM k 5 0 n)) (hk:find hp k=some ⟨ty,true,.cf qs⟩) (hn:n=qs.length)
  (hR:RR E (fn fr hp) a W):RR E (fn fr ((jj,⟨tj,wj,.one (cs.set pp (bx qs))⟩)::fi hp k ⟨ty,true,.dead⟩)) a W:=by
 have:=uV jj pp k (xs:=qs.map .frac) hW hjf Dg hpc hk rfl rfl (bO (λ_=>rfl) qs) (by simp;omega) hR;rwa [im (by simp;omega)]at this
theorem R8 {jj pp k n:Nat} {tj ty:TypeId} {wj:Bool} {cs:List SV} {hp:List (Nat×aC)} {kd:IntKind} {xs:List Int} (hW:∀b,¬E.W0 b) (hjf:find hp jj=some ⟨tj,wj,.one cs⟩) (Dg:jj≠k) (hpc:cs[pp]? =some (.aM k 1 0 n)) (hk:find hp k=some ⟨ty,true,.ints kd xs⟩) (hn:n=xs.length)
  (hR:RR E (fn fr hp) a W):RR E (fn fr ((jj,⟨tj,wj,.one (cs.set pp (gP kd xs))⟩)::fi hp k ⟨ty,true,.dead⟩)) a W:=by
 have:=uV jj pp k (xs:=xs.map (gB kd)) hW hjf Dg hpc hk rfl rfl (bO (λ_=>rfl) xs) (by simp;omega) hR;rwa [im (by simp;omega)]at this
theorem HL {jj pp k n:Nat} {tj ty:TypeId} {wj:Bool} {cs xs:List SV} {hp:List (Nat×aC)} (hW:∀b,¬E.W0 b) (hjf:find hp jj=some ⟨tj,wj,.one cs⟩) (Dg:jj≠k) (hpc:cs[pp]? =some (.aM k 1 0 n)) (hk:find hp k=some ⟨ty,true,.seq 1 xs⟩) (ph:aS xs=true) (hn:n=xs.length)
  (hR:RR E (fn fr hp) a W):RR E (fn fr ((jj,⟨tj,wj,.one (cs.set pp (fh 1 xs))⟩)::fi hp k ⟨ty,true,.dead⟩)) a W:=by
 have:=uV jj pp k (xs:=xs) hW hjf Dg hpc hk rfl rfl ph aa hR;rwa [im aa]at this
theorem kH {j k:Nat} {b:aC} {hp:List (Nat×aC)} (h:k≠j):find ((j,b)::hp) k=find hp k:=by
 rw[find];cases hb:ϋ j k with
 |true=>exact absurd (χ hb).symm h
 |false=>rfl
theorem Ph {hp l:List (Nat×aC)} {k:Nat} {b:aC} (h:find hp k=none) (r:∀j c,(j,c)∈l->find hp j=none):∀j c,(j,c)∈(k,b)::l->find hp j=none:=by
 intro j c hm;rcases List.mem_cons.1 hm with e|e
 ·cases e;exact h
 ·exact r j c e
theorem rK {tj ty:TypeId} {c:Nat} {M:Nat->List Rat} (hW:∀b,¬E.W0 b):∀(n j0:Nat) (cs:List SV) (hp:List (Nat×aC)),find hp 1002=some ⟨tj,true,.one cs⟩->(∀j,j0<=j->j<j0+n->cs[j]? =some (.aM (1010+j) 5 0 c))->
  (∀j,j0<=j->j<j0+n->find hp (1010+j)=some ⟨ty,true,.cf (M j)⟩/\c=(M j).length)->RR E (fn fr hp) a W->
  ∃cl cs',RR E (fn fr cl) a W/\find cl 1002=some ⟨tj,true,.one cs'⟩/\cs'.length=cs.length/\(∀j,cs'[j]? =if j0<=j/\j<j0+n then some (bx (M j))else cs[j]?)/\∀k,k≠1002->(∀j,j0<=j->j<j0+n->k≠1010+j)->find cl k=find hp k
 |0,j0,cs,hp,h1,_,_,hR=>⟨hp,cs,hR,h1,rfl,λj=>by rw[if_neg aa],λ_ _ _=>rfl⟩
 |n+1,j0,cs,hp,h1,h2,h3,hR=>by
  obtain⟨h4,h5⟩:=h3 j0 (ζ _) aa;have h6:=R7 (pp:=j0) hW h1 aa (h2 j0 (ζ _) aa) h4 h5 hR;have f1:find ((1002,(⟨tj,true,.one (cs.set j0 (bx (M j0)))⟩:aC))::fi hp (1010+j0) ⟨ty,true,.dead⟩) 1002=some ⟨tj,true,.one (cs.set j0 (bx (M j0)))⟩:=rfl;have f2:∀k,k≠1002->find ((1002,(⟨tj,true,.one (cs.set j0 (bx (M j0)))⟩:aC))::fi hp (1010+j0) ⟨ty,true,.dead⟩) k=if k=1010+j0 then some ⟨ty,true,.dead⟩else find hp k:=λk hk=>by
   rw[kH hk,bS]
  have aE:j0<cs.length:=(List.getElem?_eq_some_iff.1 (h2 j0 (ζ _) aa)).1;obtain⟨cl,cs',g1,g2,g3,g4,g5⟩:=rK hW n (j0+1) _ _ f1 (λj hj1 RL=>by rw[agO aa];exact h2 j aa aa) (λj hj1 RL=>by rw[f2 _ aa,if_neg aa];exact h3 j aa aa) h6;refine⟨cl,cs',g1,g2,by rw[g3,List.length_set],λj=> ?_,λk hk hj=> ?_⟩
  ·rw[g4 j];by_cases e1:j0+1<=j/\j<j0+1+n
   ·rw[if_pos e1,if_pos aa]
   ·rw[if_neg e1];by_cases e2:j=j0
    ·subst e2;rw[if_pos aa,List.getElem?_set_self aE]
    ·rw[if_neg aa,agO (Ne.symm e2)]
  ·rw[g5 k hk (λj h1 h2=>hj j aa aa),f2 k hk,if_neg (hj j0 (ζ _) aa)]
end
theorem jg {ks:List Nat} {fr:List (Nat×SV)} {t:Nat} {p:Pred}:∀{ts:List Nat},ek ks fr ts=true->ek ks ((t,.atom p)::fr) ts=true
 |[],_=>rfl
 |u::r,h=>by
  rw[ek]at h ⊢;rw[lk];cases hb:ϋ t u with
  |true=>
   simp only;have:ek ks fr r=true:=by
    cases hl:lk fr u with
    |none=>rw[hl]at h;exact h
    |some c=>rw[hl]at h;simp only[Μ]at h;exact h.2
   rw[jg this];rfl
  |false=>
   simp only;cases hl:lk fr u with
   |none=>rw[hl]at h;exact jg h
   |some c=>rw[hl]at h;simp only[Μ]at h ⊢;exact⟨h.1,jg h.2⟩
theorem p8 {hp cl:List (Nat×aC)}:∀{ks:List Nat},(∀k∈ks,find cl k=find hp k)->nV cl ks=nV hp ks
 |[],_=>rfl
 |k::r,h=>by rw[nV,nV,h k (η ..),p8 λj hj=>h j (Δ _ hj)]
theorem mj {hp cl:List (Nat×aC)} {ks:List Nat}:∀{l:List Nat},(∀k∈l,find cl k=find hp k)->dI ks cl l=dI ks hp l
 |[],_=>rfl
 |k::r,h=>by rw[dI,dI,h k (η ..),mj λj hj=>h j (Δ _ hj)]
end Go.Sx
namespace Go.Proofs.YtadphegfhgmgmaaGreatDoor
open Go.Sx
abbrev wCs (r m c:Nat) (M:Nat->List Rat) (pv:List Int) (d:Rat):List SV:=[bN 1 bx ((Η r).map M),iv m,gP .i64 pv,.frac d]
abbrev J4 (r m c:Nat) (M:Nat->List Rat) (pv:List Int) (d:Rat):SV:=b9 (wCs r m c M pv d)
def Xe (l:List Nat):Bool:=l.all λk=>Nat.blt k 1000
theorem Fg {E:Env} (t:Nat) (ts ks:List Nat) {fr:List (Nat×SV)} {hp:List (Nat×aC)} {r m c p:Nat} {M:Nat->List Rat} {pv:List Int} {d:Rat} (hW:∀b,¬E.W0 b) (ht:lk fr t=some (.ptr 1001 0 0 0)) (h1:find hp 1001=some (wkB true r m p d)) (h2:find hp 1002=some (Hw true (jy r c))) (h3:find hp 1003=some (pvB true pv))
  (h4:∀j,j<r->find hp (1010+j)=some (xy true (M j))/\c=(M j).length) (h5:p=pv.length) (M3:ek ks fr ts=true) (PJ:dI ks hp ks=true) (hn3:(ud (λk=>k) ks&&vz (λk=>k) ks E.fx)=true) (hb:Xe ks=true) (hr:r<=1000) (hE:E.OK):
  ∀a w,RR E (fn fr hp) a w->RR E (fn ((t,J4 r m c M pv d)::fC (λk=>k) ((t,J4 r m c M pv d)::fr) ts) (nV hp ks)) a w:=by
 intro a w hR;have q9:∀k∈ks,k<1000:=λk hk=>by simpa [aj8]using aiy.1 hb k hk
 obtain⟨hp1,cs1,g1,g2,g3,g4,g5⟩:=rK (M:=M) hW r 0 (jy r c) hp h2 (λj _ hj=>by simp[ac4,agM (show j<r by omega)]) (λj _ hj=>h4 j aa) hR;have B9:cs1=((Η r).map M).map bx:=by
  refine ajj λj=> ?_
  rw[g4 j];by_cases hj:j<r
  ·rw[if_pos ⟨Γ _,aa⟩];simp[ac4,agM hj]
  ·rw[if_neg aa];simp[ac4,Ϙ (show(Η r).length<=j by simp;omega)]
 have ph:aS cs1=true:=by rw[B9];exact bO (λ_=>rfl) _
 have haw:qO 1 cs1=true:=by
  rw[B9];generalize (Η r).map M=L;induction L with
  |nil=>rfl
  |cons x L ih=>rw[ϲ,qO,ih];rfl
 have r1:=HF g2 ph haw g1;have q1:∀k,k≠1002->find ((1002,(⟨33,true,.seq 1 cs1⟩:aC))::hp1) k=find hp1 k:=λk hk=>by
  exact kH hk
 have iT:r=cs1.length:=by rw[g3];simp
 have r2:=HL (jj:=1001) (pp:=0) (k:=1002) (n:=r) hW (by rw[q1 _ ax,g5 _ ax (λj _ _=>aa)];exact h1) ax rfl (show find _ 1002=some ⟨33,true,.seq 1 cs1⟩from rfl) ph iT r1
 have r3:=R8 (jj:=1001) (pp:=2) (k:=1003) (n:=p) (kd:=.i64) (xs:=pv) hW (show find _ 1001=some _ from rfl) ax rfl (show find _ 1003=some (pvB true pv) by
  show find (fi _ 1002 _) 1003=_
  rw[bS,if_neg ax,q1 _ ax,g5 _ ax (λj _ _=>aa)];exact h3) h5 r2
 have r4:=nh t 1001 hW ht (show find _ 1001=some _ from rfl) (by simp[aS,bI,aiB]) r3;rw[B9]at r4;have e4:aiB (aiB [.aM 1002 1 0 r,iv m,.aM 1003 1 0 p,.frac d] 0 (fh 1 (((Η r).map M).map bx))) 2 (gP .i64 pv)=wCs r m c M pv d:=rfl;rw[e4]at r4;generalize hq:fi _ 1001 _=HH at r4;have s7:∀k∈ks,find HH k=find hp k:=λk hk=>by
  have:=q9 k hk;rw[<-hq,bS,if_neg aa,kH aa,bS,if_neg aa,kH aa,bS,if_neg aa,<-B9,q1 _ aa,g5 _ aa (λj _ _=>aa)]
 have BY:iK E.fx (λk=>k) (t::ts) ks ((t,J4 r m c M pv d)::fr) HH=true:=by
  refine jX ?_ (by rw[mj s7];exact PJ) hn3;rw[ek];simp only[lk,acZ];rw[jg M3];rfl
 have r5:=px hE BY r4;rw[o9,p8 s7]at r5;rw[fC]at r5;simp only[lk,acZ]at r5;exact r5
theorem J5 (r:Nat) (M:Nat->List Rat):((Η r).map M).length=r:=by simp
theorem R9 {r i:Nat} {M:Nat->List Rat} (h:i<r):((Η r).map M).getD i []=M i:=by simp[δ,h]
theorem Xf {r m c n:Nat} {M:Nat->List Rat} {pv:List Int} {d:Rat} (hM:∀i,i<r->(M i).length=c) (f:Nat) (hn:f+n<=c) (hc:c<=4096) (i k:Nat) (hi:i<r) (hk:k<n) (hr:r<=2048):
  C0 191 ([]++([iv (i:Nat),iv (k:Nat)]++[b9 [J4 r m c M pv d],b9 [iv f]])) (.frac ((M i).getD (f+k) 0)):=by
 have h1:=J5 r M;have h2:=R9 (M:=M) hi;have h3:=hM i hi;have t1:ε.wrap ((f:Int)+(k:Int))=((f+k:Nat):Int):=by rw[wrap_i64 aa aa];omega
 refine bB [] Tryz.func191 ?_;intro W0 w0 ρ0 hE;conv=>whnf
 (repeat((first|refine aq aD ?_|refine an Ar ?_|refine an Q6 ?_|refine an IG ?_|refine an Q9 ?_|refine an Pg ?_|rw[t1]|rw[h2]);conv=>whnf));exact Q4
theorem acj {r m c n:Nat} {M:Nat->List Rat} {pv:List Int} {d:Rat} (hM:∀i,i<r->(M i).length=c) (f:Nat) (hn:f+n<=c) (hc:c<=2048) (hr:r<=2048):
  C0 144 [J4 r m c M pv d,iv f,iv ((f+n:Nat):Int)] (mA r n (mk r n λi k=>(M i).getD (f+k) 0)):=by
 have h1:=J5 r M;have k1:=Lz (r:=r) (c:=n) hr aa (λi k=>(M i).getD (f+k) 0) 191 _ _ λi k hi hk=>Xf (m:=m) (pv:=pv) (d:=d) hM f hn aa i k hi hk hr
 have t1:ε.wrap (((f+n:Nat):Int) - (f:Int))=(n:Int):=by rw[wrap_i64 aa aa];omega
 refine bB [3,4] Tryz.func144 ?_;intro W0 w0 ρ0 hE;conv=>whnf
 (repeat((first|refine aq aD ?_|refine aN aJ ?_|refine an Q8 ?_|refine an Q6 ?_|refine an Q9 ?_|refine an Pg ?_|refine an Gv ?_|rw[t1]|rw[h1]);conv=>whnf));exact Q4
theorem HM {E:Env} (t:Nat) (ts ks:List Nat) {K:bF} {co:Code} {fr:List (Nat×SV)} {hp:List (Nat×aC)} {r m c p:Nat} {M:Nat->List Rat} {pv:List Int} {d:Rat} (hW:∀b,¬E.W0 b) (ht:lk fr t=some (.ptr 1001 0 0 0)) (h1:find hp 1001=some (wkB true r m p d)) (h2:find hp 1002=some (Hw true (jy r c))) (h3:find hp 1003=some (pvB true pv))
  (h4:∀j,j<r->find hp (1010+j)=some (xy true (M j))/\c=(M j).length) (h5:p=pv.length) (M3:ek ks fr ts=true) (PJ:dI ks hp ks=true) (hn3:(ud (λk=>k) ks&&vz (λk=>k) ks E.fx)=true) (hb:Xe ks=true) (hr:r<=1000) (hE:E.OK)
  (hs:dY E co K ((t,J4 r m c M pv d)::fC (λk=>k) ((t,J4 r m c M pv d)::fr) ts) (nV hp ks)):dY E co K fr hp:=
 ⟨λa w hR=>hs.run a w (Fg t ts ks hW ht h1 h2 h3 h4 h5 M3 PJ hn3 hb hr hE a w hR)⟩
abbrev wzB (m:Nat):aC:=⟨183,true,.one [.val (.slice none 0 0),iv m,.val (.slice none 0 0),.frac 1]⟩
theorem Sa {ρ:bY} {m:Nat} (z:List (List Value)) (h:aw ρ [.val (.slice none 0 0),iv m,.val (.slice none 0 0),.frac 1] z):aw ρ (wCs 0 m 0 (λ_=>[]) [] 1) z:=by
 simp only[aw]at h ⊢;obtain⟨x,r,rfl,h1,y,r2,rfl,h2,z,r3,rfl,h3,h4⟩:=h;exact⟨x,_,rfl,pI h1,y,_,rfl,h2,z,_,rfl,pI h3,h4⟩
theorem HN {E:Env} (t:Nat) {K:bF} {co:Code} {fr:List (Nat×SV)} {hp:List (Nat×aC)} {m:Nat} (hW:∀b,¬E.W0 b) (ht:lk fr t=some (.ptr 1001 0 0 0)) (h1:find hp 1001=some (wzB m))
  (hs:dY E co K ((t,J4 0 m 0 (λ_=>[]) [] 1)::fr) (fi ((1001,⟨183,true,.one (wCs 0 m 0 (λ_=>[]) [] 1)⟩)::hp) 1001 ⟨183,true,.dead⟩)):dY E co K fr hp:=
 ⟨λa w hR=>hs.run a w (nh t 1001 hW ht rfl rfl (sE h1 (λ_ z hz=>Sa z hz) hR))⟩
theorem xG {c:Nat} (more:Nat) (a:List Rat) (g:FuncId) (ha:fa 0 c a):
  aL Tryz.prog 109 [mA (0:Nat) c a,iv more,.clo g [] []] [] (.ptr 1001 0 0 0) [(1001,wzB c)] []:=by
 have k0:C0 35 [iv 1] (.frac 1):=dH 1 ax ax;refine Bv (Z:=[3]) aH bC Tryz.func109 rfl aD (jz.of rfl rfl rfl rfl rfl rfl rfl rfl rfl rfl rfl) rfl (bl.id rfl) ?_;intro W0 w0 ρ0 hE;conv=>whnf
 (repeat((first|refine aq aD ?_|refine aN aJ ?_|refine an Q6 ?_|refine an Q9 ?_);conv=>whnf))
 refine av hE (λk=>cond (ϋ k 15) 1001 k) [7,17,18] [15] (λm' fr hp=>fr=[(7,.ptr 1001 0 0 0),(17,iv (0:Nat)),(18,iv (0:Nat))]/\hp=[(1001,wzB c)]) 0 ?_ ?_ ?_
 ·kernel_rfl
 ·exact⟨rfl,rfl⟩
 rintro m' _ _ ⟨rfl,rfl⟩;conv=>whnf
 (repeat(first|(refine ae rfl rfl ?_;conv=>whnf)))
 exact⟨au.refl _,cI rfl get_nil,get_nil⟩
abbrev wzR (m:Nat):aC:=⟨183,false,.one [.val (.slice none 0 0),iv m,.val (.slice none 0 0),.frac 1]⟩
theorem xH (m:Nat) (hm:m<=4096):aL Tryz.prog 111 [.ptr 1001 0 0 0] [(1001,wzR m)] (.ptr 1001 0 0 0) [] []:=by
 refine rH (Z:=[]) aH bC Tryz.func111 rfl aD (cb.of rfl rfl rfl rfl rfl rfl rfl rfl rfl rfl rfl) rfl ?_;intro W0 w0 ρ0 hE;conv=>whnf
 (repeat(first|(rw[υ];conv=>whnf)))
 refine wB hE [0,9,10] (λm' fr hp=>∃k:Nat,m'=m - k/\k<=m/\fr=[(0,.ptr 1001 0 0 0),(9,iv m),(10,iv k)]/\hp=[(1001,wzR m)]) m ?_ ?_ ?_
 ·kernel_rfl
 ·exact⟨0,rfl,Γ _,rfl,rfl⟩
 rintro m' _ _ ⟨k,rfl,hk,rfl,rfl⟩;conv=>whnf
 by_cases aE:k<m
 ·have t1:=gZ aE;have t2:=bW (i:=k) aa
  (repeat(first|(refine ay t1 ?_;conv=>whnf)|(rw[t1];conv=>whnf)|(rw[υ];conv=>whnf)))
  refine wB hE [0,9,10,5] (λm' fr hp=>m'=0/\fr=[(0,.ptr 1001 0 0 0),(9,iv m),(10,iv k),(5,iv (0:Nat))]/\hp=[(1001,wzR m)]) 0 ?_ ?_ ?_
  ·kernel_rfl
  ·exact⟨rfl,rfl,rfl⟩
  rintro m' _ _ ⟨rfl,rfl,rfl⟩;conv=>whnf
  (repeat(first|(refine ae rfl rfl ?_;conv=>whnf)|(rw[t2];conv=>whnf)|(rw[υ];conv=>whnf)))
  exact⟨m - (k+1),aa,aD,k+1,rfl,aE,rfl,rfl⟩
 ·have t1:=iH aE
  (repeat(first|(refine aG t1 ?_;conv=>whnf)))
  exact⟨au.refl _,get_nil,get_nil⟩
theorem Sb {n:Nat} {a:List Rat} (ha:fa n n a):C0 130 [mA n n a] (iv 0):=by
 have k1:=cO ha;refine bB [1] Tryz.func130 ?_;intro W0 w0 ρ0 hE;conv=>whnf
 (repeat((first|refine ae rfl rfl ?_|refine aN aJ ?_|rw[bne_self_eq_false]|refine an Q6 ?_|refine an Q9 ?_);conv=>whnf));exact Q4
end Go.Proofs.YtadphegfhgmgmaaGreatDoor
namespace Go.Sx
theorem yq {E:Env} (jj pp k:Nat) {tj:TypeId} {wj:Bool} {cs:List SV} {fr:List (Nat×SV)} {hp:List (Nat×aC)} {ty:TypeId} {ds:List SV} (hW:∀b,¬E.W0 b) (hjf:find hp jj=some ⟨tj,wj,.one cs⟩) (Dg:jj≠k) (hpc:cs[pp]? =some (.ptr k 0 0 0)) (hk:find hp k=some ⟨ty,true,.one ds⟩)
  (ph:aS ds=true) {a:Act} {W:World} (hR:RR E (fn fr hp) a W):RR E (fn fr ((jj,⟨tj,wj,.one (cs.set pp (b9 ds))⟩)::fi hp k ⟨ty,true,.dead⟩)) a W:=by
 have hl:(Data.one ds).live=true:=rfl;obtain⟨ρ,hext,hfx,hR⟩:=hR;have FN:(fn fr hp (.k k)).blk=some ⟨ty,true,.one ds⟩:=by simp only[fn,LV.blk];exact hk
 have hjb:(fn fr hp (.k jj)).blk=some ⟨tj,wj,.one cs⟩:=by simp only[fn,LV.blk];exact hjf
 obtain⟨bj,nj,exj,zj,hj1,RL,hj3,hj4,hj5⟩:∃bj nj exj zj,ρ.key jj=some (bj,nj)/\W.heap[bj]? =some ((Data.one cs).obj (zj.flatten++exj) tj)/\aw ρ cs zj/\(zj.flatten++exj).length=nj/\∀v∈exj,v.oneCell'=true:=by
  rcases hR.hp.blk jj _ hjb with g0|⟨b',t',vs,ex,g1,g2,⟨z,g3,rfl⟩,g4,g5⟩|⟨_,g2⟩
  ·cases g0
  ·exact⟨b',t',ex,z,g1,g2,g3,g4,g5⟩
  ·exact g2.elim
 obtain⟨x,hzx,hx⟩:=Fc hj3 hpc;have fX:∀q b,(fn fr ((jj,⟨tj,wj,.one (cs.set pp (b9 ds))⟩)::fi hp k ⟨ty,true,.dead⟩) (.k q)).blk=some b->(q=jj/\b=⟨tj,wj,.one (cs.set pp (b9 ds))⟩)\/(q=k/\b=⟨ty,true,.dead⟩)\/(q≠jj/\q≠k/\(fn fr hp (.k q)).blk=some b):=by
  intro q b hb;simp only[fn,LV.blk,find]at hb ⊢;cases hq:ϋ jj q with
  |true=>
   rw[hq]at hb;exact .inl ⟨(χ hq).symm,(abU hb).symm⟩
  |false=>
   rw[hq]at hb;simp only[bS]at hb;have a8:q≠jj:=by rintro rfl;simp[acZ]at hq
   by_cases hj:q=k
   ·rw[if_pos hj]at hb;exact .inr (.inl ⟨hj,(abU hb).symm⟩)
   ·rw[if_neg hj]at hb;exact .inr (.inr ⟨a8,hj,hb⟩)
 have fin:∀ρ':bY,ρ'.key=ρ.key->(∀b o,ρ.aW b=some o->ρ'.aW b=some o)->(∀b o,ρ'.aW b=some o->ρ.aW b=some o\/E.w0.heap.size<=b)->(∀b o,ρ'.aW b=some o->W.heap[b]? =some o)->
   (∀j b x,j≠k->(fn fr hp (.k j)).blk=some b->b.wr=true->b.data.live=true->ρ.key j=some x->ρ'.aW x.1=none)->(∀D,W.heap[D]? =some (.deferred (some []))->ρ.aW D=none->ρ'.aW D=none)->aI ρ' (b9 ds) x->
   RR E (fn fr ((jj,⟨tj,wj,.one (cs.set pp (b9 ds))⟩)::fi hp k ⟨ty,true,.dead⟩)) a W:=by
  intro ρ' bZ himm gi hheap kU hmark hhas;have hle:ρ.Le ρ':=⟨λj y hy=>by rw[bZ];exact hy,himm⟩;refine⟨ρ',⟨hext.le.trans hle,λb o hb=>(gi b o hb).elim (λh=>hext.aW b o h) .inr,λj hj=>by rw[bZ];exact hext.fix j hj⟩,λj hj=> ?_,{defers:= ?_,size:=hR.size,fr:= ?_,bE:=hR.bE,hp:= ?_}⟩
  ·have:=hfx j hj;simp only[fn,LV.blk,find]at this ⊢;cases hq:ϋ jj j with
   |true=>simp
   |false=>
    simp only[bS];split
    ·simp
    ·exact this
  ·obtain⟨Ds,d1,d2,d3⟩:=hR.defers;refine⟨Ds,d1,d2,λD hD=> ?_⟩;obtain⟨e1,e2,e3⟩:=d3 D hD;refine⟨e1,e2, ?_⟩;exact hmark D e2 e3
  ·intro u sv hu;exact Has.mono hle _ _ (hR.fr u sv hu)
  ·have lI:∀q b,(fn fr ((jj,⟨tj,wj,.one (cs.set pp (b9 ds))⟩)::fi hp k ⟨ty,true,.dead⟩) (.k q)).blk=some b->b.data.live=true->∃b0,(fn fr hp (.k q)).blk=some b0/\b0.wr=b.wr/\b0.data.live=true/\q≠k:=by
    intro q b hb hlv;rcases fX q b hb with⟨rfl,rfl⟩|⟨_,rfl⟩|⟨_,h2,h3⟩
    ·exact⟨_,hjb,rfl,rfl,Dg⟩
    ·cases hlv
    ·exact⟨b,h3,rfl,hlv,h2⟩
   constructor
   ·intro q b hb;rcases fX q b hb with⟨rfl,rfl⟩|⟨rfl,rfl⟩|⟨_,_,hb⟩
    ·refine .inr (.inl ⟨bj,nj,zj.flatten,exj,by rw[bZ];exact hj1,RL,⟨zj, ?_,rfl⟩,hj4,hj5⟩);exact Bt (aw.mono hle cs zj hj3) hzx hhas
    ·exact .inl rfl
    ·rcases hR.hp.blk q b hb with g0|⟨b',t',vs,ex,g1,g2,g3,g4⟩|⟨g1,g2⟩
     ·exact .inl g0
     ·exact .inr (.inl ⟨b',t',vs,ex,by rw[bZ];exact g1,g2,g3.mono hle,g4⟩)
     ·exact .inr (.inr ⟨by rw[bZ];exact g1,g2⟩)
   ·intro j j' y y' b b' hy IU a8 hyy hb ie iT iD;rw[bZ]at hy IU;obtain⟨c0,h1,h2,h3,_⟩:=lI j b hb iT;obtain⟨c0',h1',h2',h3',_⟩:=lI j' b' ie iD;rw[<-h2];exact hR.hp.sep j j' y y' c0 c0' hy IU a8 hyy h1 h1' h3 h3'
   ·intro j b y hb hwr iT hy;rw[bZ]at hy;obtain⟨c0,h1,h2,h3,_⟩:=lI j b hb iT;exact hR.hp.own j c0 y h1 (h2.trans hwr) h3 hy
   ·intro j y hy;rw[bZ]at hy;obtain⟨b,hb⟩:=hR.hp.wW j y hy;simp only[fn,LV.blk,find]at hb ⊢;cases hq:ϋ jj j with
    |true=>exact⟨_,rfl⟩
    |false=>
     simp only[bS];split
     ·exact⟨_,rfl⟩
     ·exact⟨b,hb⟩
   ·exact hheap
   ·intro j b y hb hwr iT hy;rw[bZ]at hy;obtain⟨c0,h1,h2,h3,h4⟩:=lI j b hb iT;exact kU j c0 y h4 h1 (h2.trans hwr) h3 hy
 simp only[aI]at hx;obtain⟨b,t',h1,rfl⟩:=hx;rcases hR.hp.blk k _ FN with g0|⟨b',t'',vs,ex,g1,g2,g3,g4,g5⟩|⟨g1,_⟩
 ·cases g0
 ·rw[h1]at g1;cases g1;rw[Data.cK rfl]at g2;have h2:W.heap[b]? =some (.cells (vs++ex).toArray ty (0,0)):=g2;simp only[df]at g3;obtain⟨z,z1,rfl⟩:=g3;have hB:E.w0.heap.size<=b:=(hR.hp.own k _ _ FN rfl hl h1).resolve_right (hW _);obtain⟨u,zL⟩:=(Up.refl ρ W E.w0.heap.size).add hR.hp.aW hB h2;refine fin ⟨ρ.key,_,u.cA⟩ rfl u.le (λb o hb=>(u.new b o hb).imp id (λh=>h.1)) (λc p hc=> ?_) (λj blk y hj hb hwr iT hy=> ?_) (λD O7 hD2=> ?_) ?_
  ·rcases u.new c p hc with h|h
   ·exact hR.hp.aW c p h
   ·exact h.2
  ·show(if y.1=b then some _ else ρ.aW y.1)=none;rw[if_neg]
   ·exact hR.hp.fB j blk y hb hwr iT hy
   ·intro he2;have:=hR.hp.sep k j (b,t') y _ _ h1 hy (λh=>hj h.symm) he2.symm FN hb hl iT;cases this
  ·show(if D=b then some _ else ρ.aW D)=none;rw[if_neg,hD2];rintro rfl;rw[O7]at h2;cases h2
  ·have hz:aw (cW (λx=>if x=b then some (.cells (z.flatten++ex).toArray ty (0,0))else ρ.aW x) u.cA) ds z:=cx (ρ:=ρ) u.le ds z ph z1;simp only[aI];exact⟨u.cA,b,z,[],ex,ty,(0,0),if_pos rfl,hz,by simp⟩
 ·rw[h1]at g1;cases g1
end Go.Sx
namespace Go.Proofs.YtadphegfhgmgmaaGreatDoor
open Go.Sx
abbrev Xg (n:Nat) (L:List (List Rat)):SV:=b9 [iv n,bN 1 bx L]
abbrev bxS (k:Nat):aC:=⟨109,true,.one [.ptr k 0 0 0]⟩
theorem HO {E:Env} (t:Nat) (ts ks:List Nat) {K:bF} {co:Code} {fr:List (Nat×SV)} {hp:List (Nat×aC)} {r n:Nat} {X:Mx} (hW:∀b,¬E.W0 b) (ht:lk fr t=some (.ptr t 0 0 0)) (h0:find hp t=some (bxS 1001)) (h1:find hp 1001=some (sqB r n)) (h2:find hp 1002=some (Hw true (jy r n)))
  (h4:∀j,j<r->find hp (1010+j)=some (xy true (bq n X j))) (htb:t<1000) (htk:t∉ks) (M3:ek ks fr ts=true) (PJ:dI ks hp ks=true) (hn3:(ud (λk=>k) ks&&vz (λk=>k) ks E.fx)=true) (hb:Xe ks=true) (hr:r<=1000) (hE:E.OK)
  (hs:dY E co K ((t,b9 [Xg n ((Η r).map (bq n X))])::fC (λk=>k) ((t,b9 [Xg n ((Η r).map (bq n X))])::fr) ts) (nV hp ks)):dY E co K fr hp:=by
 refine⟨λa w hR=>hs.run a w ?_⟩;have q9:∀k∈ks,k<1000:=λk hk=>by simpa [aj8]using aiy.1 hb k hk
 obtain⟨hp1,cs1,g1,g2,g3,g4,g5⟩:=rK (c:=n) (M:=bq n X) hW r 0 (jy r n) hp h2 (λj _ hj=>by simp[ac4,agM (show j<r by omega)]) (λj _ hj=>⟨h4 j aa,(dm _ _).symm⟩) hR;have B9:cs1=((Η r).map (bq n X)).map bx:=by
  refine ajj λj=> ?_
  rw[g4 j];by_cases hj:j<r
  ·rw[if_pos ⟨Γ _,aa⟩];simp[ac4,agM hj]
  ·rw[if_neg aa];simp[ac4,Ϙ (show(Η r).length<=j by simp;omega)]
 have ph:aS cs1=true:=by rw[B9];exact bO (λ_=>rfl) _
 have haw:qO 1 cs1=true:=by
  rw[B9];generalize (Η r).map (bq n X)=L;induction L with
  |nil=>rfl
  |cons x L ih=>rw[ϲ,qO,ih];rfl
 have r1:=HF g2 ph haw g1;have q1:∀k,k≠1002->find ((1002,(⟨33,true,.seq 1 cs1⟩:aC))::hp1) k=find hp1 k:=λk hk=>kH hk
 have iT:r=cs1.length:=by rw[g3];simp
 have r2:=HL (jj:=1001) (pp:=1) (k:=1002) (n:=r) hW (by rw[q1 _ ax,g5 _ ax (λj _ _=>aa)];exact h1) ax rfl (show find _ 1002=some ⟨33,true,.seq 1 cs1⟩from rfl) ph iT r1
 have r3:=yq t 0 1001 hW (show find _ t=some (bxS 1001) by
  rw[kH aa,bS,if_neg aa,q1 _ aa,g5 _ aa (λj _ _=>aa)];exact h0) aa rfl (show find _ 1001=some _ from rfl) (by simp[aS,bI,aiB]) r2
 have r4:=nh t t hW ht (show find _ t=some _ from xA) (by simp[aS,bI,aiB]) r3;rw[B9]at r4;have e4:(aiB [SV.ptr 1001 0 0 0] 0 (b9 (aiB [iv n,.aM 1002 1 0 r] 1 (fh 1 (((Η r).map (bq n X)).map bx)))))=[Xg n ((Η r).map (bq n X))]:=rfl;rw[e4]at r4;generalize hq:fi _ t _=HH at r4;have s7:∀k∈ks,find HH k=find hp k:=λk hk=>by
  have:=q9 k hk;have hkt:k≠t:=λe=>htk (e▸hk)
  rw[<-hq,bS,if_neg hkt,kH hkt,bS,if_neg aa,kH aa,bS,if_neg aa,<-B9,q1 _ aa,g5 _ aa (λj _ _=>aa)]
 have BY:iK E.fx (λk=>k) (t::ts) ks ((t,b9 [Xg n ((Η r).map (bq n X))])::fr) HH=true:=by
  refine jX ?_ (by rw[mj s7];exact PJ) hn3;rw[ek];simp only[lk,acZ];rw[jg M3];rfl
 have r5:=px hE BY r4;rw[o9,p8 s7]at r5;rw[fC]at r5;simp only[lk,acZ]at r5;exact r5
theorem ack {ρ:bY} (z:List (List Value)) (h:aw ρ [iv (0:Nat),.val (.slice none 0 0)] z):aw ρ [iv (0:Nat),bN 1 bx []] z:=by
 simp only[aw]at h ⊢;obtain⟨x,r,rfl,h1,y,r2,rfl,h2,h3⟩:=h;exact⟨x,_,rfl,h1,y,_,rfl,pI h2,h3⟩
theorem Fh {E:Env} (t:Nat) {K:bF} {co:Code} {fr:List (Nat×SV)} {hp:List (Nat×aC)} (hW:∀b,¬E.W0 b) (ht:lk fr t=some (.ptr t 0 0 0)) (h0:find hp t=some (bxS 1001)) (htb:t<1000) (h1:find hp 1001=some ⟨123,true,.one [iv (0:Nat),.val (.slice none 0 0)]⟩)
  (hs:dY E co K ((t,b9 [Xg 0 []])::fr) (fi ((t,⟨109,true,.one [Xg 0 []]⟩)::fi ((1001,⟨123,true,.one [iv (0:Nat),bN 1 bx []]⟩)::hp) 1001 ⟨123,true,.dead⟩) t ⟨109,true,.dead⟩)):dY E co K fr hp:=
 ⟨λa w hR=>hs.run a w (nh t t hW ht xA (by simp[aS,bI]) (yq t 0 1001 hW (by rw[kH aa];exact h0) aa rfl (show find ((1001,(⟨123,true,.one [iv (0:Nat),bN 1 bx []]⟩:aC))::hp) 1001=some _ from rfl) (by simp[aS,bI]) (sE h1 (λ_ z hz=>ack z hz) hR)))⟩
theorem Xh (l:List Int) (x:Int) (hl:l.length<1099511627776):∃n:Int,decide (0<=n)=decide (x∈l)/\C0 202 [gP .i64 l,iv x] (iv n):=by
 by_cases h:∃j,j<l.length/\l.getD j 0=x/\∀i,i<j->l.getD i 0≠x
 ·obtain⟨j,hj,hx,hb⟩:=h;have hm:x∈l:=by rw[<-hx,δ,φ hj];exact List.getElem_mem hj
  refine⟨j,by rw[decide_eq_true (Int.natCast_nonneg j),decide_eq_true hm], ?_⟩;refine bB [] Tryz.func202 ?_;intro W0 w0 ρ0 hE;conv=>whnf
  (repeat(first|(refine an Q8 ?_;conv=>whnf)))
  refine av hE (λk=>k) [0,1,7,8] [] (λm fr hp=>∃i:Nat,m=l.length - i/\i<=j/\fr=[(0,gP .i64 l),(1,iv x),(7,iv l.length),(8,iv i)]/\hp=[]) l.length ?_ ?_ ?_
  ·kernel_rfl
  ·exact⟨0,rfl,Γ _,rfl,rfl⟩
  rintro m _ _ ⟨i,rfl,hi,rfl,rfl⟩;have t1:=gZ (show i<l.length by omega);have t2:=bW (i:=i) aa;conv=>whnf
  by_cases e:i=j
  ·subst e;have t3:decide (x=l.getD i 0)=true:=decide_eq_true hx.symm
   (repeat((first|refine ay t1 ?_|refine ay t3 ?_|refine an Q6 ?_|refine an As ?_);conv=>whnf));exact Q4
  ·have t3:decide (x=l.getD i 0)=false:=decide_eq_false λg=>hb i aa g.symm
   (repeat((first|refine ay t1 ?_|refine aG t3 ?_|refine an Q6 ?_|refine an As ?_|rw[t1]|rw[t2]);conv=>whnf))
   exact⟨l.length - (i+1),λk=>k,[0,1,7,8],[],aa,aD,i+1,rfl,aa,rfl,rfl⟩
 ·have BY:∀j,j<l.length->l.getD j 0≠x:=by
   intro j;induction j using Nat.strongRecOn with
   |ind j ih=>
    intro hj hx;exact h ⟨j,hj,hx,λi hi=>ih i hi aa⟩
  have hm:x∉l:=λhm=>by
   obtain⟨j,hj,e⟩:=List.getElem_of_mem hm;exact BY j hj (by rw[δ,φ hj];exact e)
  refine⟨-1,by rw[decide_eq_false hm];rfl, ?_⟩;refine bB [] Tryz.func202 ?_;intro W0 w0 ρ0 hE;conv=>whnf
  (repeat(first|(refine an Q8 ?_;conv=>whnf)))
  refine av hE (λk=>k) [0,1,7,8] [] (λm fr hp=>∃i:Nat,m=l.length - i/\i<=l.length/\fr=[(0,gP .i64 l),(1,iv x),(7,iv l.length),(8,iv i)]/\hp=[]) l.length ?_ ?_ ?_
  ·kernel_rfl
  ·exact⟨0,rfl,Γ _,rfl,rfl⟩
  rintro m _ _ ⟨i,rfl,hi,rfl,rfl⟩;conv=>whnf
  by_cases aE:i<l.length
  ·have t1:=gZ aE;have t2:=bW (i:=i) aa;have t3:decide (x=l.getD i 0)=false:=decide_eq_false λg=>BY i aE g.symm
   (repeat((first|refine ay t1 ?_|refine aG t3 ?_|refine an Q6 ?_|refine an As ?_|rw[t1]|rw[t2]);conv=>whnf))
   exact⟨l.length - (i+1),λk=>k,[0,1,7,8],[],aa,aD,i+1,rfl,aE,rfl,rfl⟩
  ·have t1:=iH aE
   (repeat(first|(refine aG t1 ?_;conv=>whnf)));exact Q4
theorem J6 (l:List Int) (x:Int) (hl:l.length<1099511627776):C0 164 [gP .i64 l,iv x] (.val (.bool (decide (x∈l)))):=by
 obtain⟨n,hn,k1⟩:=Xh l x hl;rw[<-hn];refine bB [] Tryz.func164 ?_;intro W0 w0 ρ0 hE;conv=>whnf
 (repeat(first|(refine aN aJ ?_;conv=>whnf)));exact Q4
theorem Xi (n i:Nat) (hn:n<=2048) (hi:i<n) (K:Nat):aL Tryz.prog 165 [iv (n:Nat),iv (i:Nat)] [] (.bQ [.aM K 5 0 n,iv 0]) [(K,⟨49,true,.cf ((θ n 0).set i 1)⟩)] []:=by
 have k1:=VH n hn 1001;have k2:C0 35 [iv 1] (.frac 1):=dH 1 ax ax;have t1:decide ((i:Int)<0)=false:=decide_eq_false aa;have t2:decide ((i:Int)>=(n:Int))=false:=decide_eq_false aa;refine gY (Z:=[]) aH bC Tryz.func165 rfl aD (args:=[iv (n:Nat),iv (i:Nat)]) (fk:=[]) (c:=.bQ [.aM 1001 5 0 n,iv 0]) (new:=[(1001,⟨49,true,.cf ((θ n 0).set i 1)⟩)]) (upd:=[]) (cb.of rfl rfl rfl rfl rfl rfl rfl rfl rfl rfl rfl) rfl (λ_=>K) bl.one ?_;intro W0 w0 ρ0 hE;conv=>whnf
 (repeat((first|refine ag rfl rfl ?_|refine ae rfl rfl ?_|refine aX Q3 ?_|refine ao Q3 ?_|refine aN aJ ?_|refine oe aJ rfl ?_|refine an dZ ?_|rw[bne_self_eq_false]|refine aG t2 ?_|rw[ι]|rw[υ]);conv=>whnf))
 exact⟨au.refl _,cI rfl get_nil,get_nil⟩
theorem NK (sp:List Nat) (k:Nat):(cn sp k).length<=k:=by
 have:=List.length_filter_le (λq=>decide (q∉sp)) (Η k);simpa [cn]using this
theorem LY {sp:List Nat} {k:Nat}:((k:Int)∈sp.map yD)↔k∈sp:=by
 simp only[List.mem_map];constructor
 ·rintro⟨a,ha,h⟩;rw[<-Int.ofNat_inj.1 (show(a:Int)=(k:Int)from h)];exact ha
 ·intro h;exact⟨k,h,rfl⟩
abbrev Sc (l:List (List Rat)):aC:=⟨52,true,.seq 1 (l.map bx)⟩
theorem NL (l:List (List Rat)) (v:List Rat):Sc (l++[v])=⟨52,true,.seq 1 (afH l.length (l.map bx)++afH 1 (List.drop 0 [bx v]))⟩:=by
 rw[List.take_of_length_le (by rw[Χ];exact ζ _),Sc,agf];rfl
theorem Sd {r m c:Nat} {M:Nat->List Rat} {sp:List Nat} {d:Rat} (hM:∀i,i<r->(M i).length=c) (hr:r<=2048) (hm:m<=2048) (hmc:m<=c) (hp:sp.length<=r) (hsp:∀j,j<sp.length->sp.getD j 0<m):
  C0 112 [J4 r m c M (sp.map yD) d] (bN 1 bx ((cn sp m).map (FP M sp m))):=by
 have uz:(sp.map yD).length=sp.length:=Χ _;have YP:=J5 r M;refine kg [100011] Tryz.func112 ?_;intro w0 ρ0 hE;conv=>whnf
 (repeat(first|(refine an Q6 ?_;conv=>whnf)|(refine an Q9 ?_;conv=>whnf)|(refine an Pg ?_;conv=>whnf)))
 refine dD (t:=2) (k:=2001) (s:=1) (blk:=Sc []) rfl rfl rfl ?_;refine av hE (λk=>k) [0,2,11,12] [2001] (λm' fr hp=>∃k n:Nat,m'=m - k/\k<=m/\n=(cn sp k).length/\fr=[(0,J4 r m c M (sp.map yD) d),(2,.aM 2001 1 0 n),(11,iv m),(12,iv k)]/\hp=[(2001,Sc ((cn sp k).map (FP M sp m)))]) m ?_ ?_ ?_
 ·kernel_rfl
 ·exact⟨0,0,rfl,Γ _,rfl,rfl,rfl⟩
 rintro m' _ _ ⟨k,n,rfl,hk,hn,rfl,rfl⟩;conv=>whnf
 by_cases aE:k<m
 ·have t1:=gZ aE;have t2:=bW (i:=k) aa;have k1:=J6 (sp.map yD) k (by rw[uz];omega);have O0:=pV sp k;by_cases oy:k∈sp
  ·have t3:decide ((k:Int)∈sp.map yD)=true:=decide_eq_true (LY.2 oy);rw[if_pos oy,List.append_nil]at O0;rw[t3]at k1
   (repeat((first|refine ag rfl rfl ?_|refine aN aJ ?_|refine ay t1 ?_|refine an Q6 ?_|refine an Q9 ?_|refine an Pg ?_|rw[t1]|rw[t2]);conv=>whnf))
   exact⟨m - (k+1),λq=>q,[0,2,11,12],[2001],aa,aD,k+1,n,rfl,aE,by rw[O0];exact hn,rfl,by rw[O0];rfl⟩
  ·have t3:decide ((k:Int)∈sp.map yD)=false:=decide_eq_false λh=>oy (LY.1 h)
   rw[if_neg oy]at O0;rw[t3]at k1;have k2:=Xi m k hm aE 2002;have hnl:((cn sp k).map (FP M sp m)).length=n:=by rw[Χ];exact hn.symm
   have Ox:n<=m:=by rw[hn];exact Nat.le_trans (NK sp k) hk
   have VA:=NL ((cn sp k).map (FP M sp m)) (FP M sp m k);rw[hnl]at VA;have La:(cn sp (k+1)).map (FP M sp m)=(cn sp k).map (FP M sp m)++[FP M sp m k]:=by rw[O0,agf];rfl
   rw[<-La]at VA;have PJ:n+1=(cn sp (k+1)).length:=by rw[O0,List.length_append,<-hn];rfl
   (repeat((first|refine ae rfl rfl ?_|refine aN aJ ?_|refine oe aJ rfl ?_|refine ay t1 ?_|refine an Q8 ?_|refine an Q6 ?_|refine an Q9 ?_|refine an Pg ?_|rw[t1]);conv=>whnf))
   refine av hE (λk=>k) [0,2,3,4,11,12,33,34,35] [2001,2002] (λm' fr hp=>∃i:Nat,m'=sp.length - i/\i<=sp.length/\fr=[(0,J4 r m c M (sp.map yD) d),(2,.aM 2001 1 0 n),(3,iv k),(4,.aM 2002 5 0 m),(11,iv m),(12,iv k),(33,gP .i64 (sp.map yD)),(34,iv sp.length),(35,iv i)]/\
    hp=[(2001,Sc ((cn sp k).map (FP M sp m))),(2002,eJ (Nn M sp m k i))]) sp.length ?_ ?_ ?_
   ·kernel_rfl
   ·exact⟨0,rfl,Γ _,by rw[<-uz];rfl,rfl⟩
   rintro m' _ _ ⟨i,rfl,hi,rfl,rfl⟩;conv=>whnf
   by_cases Xa:i<sp.length
   ·have t4:=gZ Xa;have t5:=bW (i:=i) aa;have g1:(sp.map yD).getD i 0=((sp.getD i 0:Nat):Int):=by simp[δ,Xa]
    have g2:=R9 (M:=M) (show i<r by omega);have g3:=hM i aa;have g4:=hsp i Xa;have g5:=vZ M sp m k i;have k3:=pK ((M i).getD k 0);clear k1 k2
    (repeat((first|refine aX Q3 ?_|refine ao Q3 ?_|refine aN aJ ?_|refine ay t4 ?_|refine an Ar ?_|refine an Q6 ?_|refine an As ?_|refine an IG ?_|refine an Q9 ?_|refine an Pg ?_|rw[t4]|rw[t5]|rw[g1]|rw[g2]|rw[ι]|rw[υ]);conv=>whnf))
    exact⟨sp.length - (i+1),λq=>q,[0,2,3,4,11,12,33,34,35],[2001,2002],aa,aD,i+1,rfl,Xa,rfl,rfl⟩
   ·have t4:=iH Xa;obtain rfl:i=sp.length:=aa;clear k1 k2
    (repeat(first|(refine aG t4 ?_;conv=>whnf)|(rw[t4];conv=>whnf)))
    refine cu 4 2002 (λ_ h=>h) rfl rfl (vZ M sp m k _).symm ?_;refine cv hE ?_;conv=>whnf
    (repeat(first|(refine ao Q3 ?_;conv=>whnf)|(rw[t2];conv=>whnf)))
    refine⟨m - (k+1),dA [(58,2001)],[0,2,11,12],[58],aa,aD,k+1,n+1,rfl,aE,PJ,rfl, ?_⟩;rw[VA];rfl
 ·have t1:=iH aE;obtain rfl:k=m:=aa;have hnl:((cn sp k).map (FP M sp k)).length=n:=by rw[Χ];exact hn.symm
  (repeat(first|(refine aG t1 ?_;conv=>whnf)));exact Q29
