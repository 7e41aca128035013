/- The texts Md. -/
import Derived.Test.YtadphegfhgmgmaaGreatDoorQMModesKnown8
import Derived.Test.YtadphegfhgmgmaaGreatDoorQMModesKnown5
set_option linter.unusedSimpArgs false
set_option linter.unusedVariables false
set_option maxHeartbeats 40000000
set_option maxRecDepth 100000
open List renaming mem_singleton->μ,range->Η
open Nat renaming beq->ϋ,zero_le->Γ
namespace Go.Sx
theorem n7.sub {fk fk' new:List (Nat×aC)} {ρ:bY} {w:World} (hp:n7 fk' new ρ w) (hs:∀x,x∈fk->x∈fk'):n7 fk new ρ w:=
 ⟨λk b h=>hp.oq k b (hs _ h),λk k' x x' b b' h h'=>hp.sep k k' x x' b b' (hs _ h) (hs _ h'),hp.aW,λk b x h=>hp.fB k b x (hs _ h),hp.fresh⟩
theorem aL.more {P:Program} {f:FuncId} {args:List SV} {fk fk':List (Nat×aC)} {c:SV} {upd upd':List (Nat×aC)} (h:aL P f args fk c [] upd) (hu:mK fk upd) (Rd:∀x,x∈fk->x∈fk')
  (h1:∀x,x∈upd->x∈upd') (hl:∀k b,(k,b)∈upd->b.data.live=true)
  (h2:∀k b,(k,b)∈upd'->(k,b)∈upd\/((k,b)∈fk'/\b.data.live=true/\∀b',(k,b')∉upd)):aL P f args fk' c [] upd':=by
 have key:∀ρ w v ρ' w',n7 fk' [] ρ w->kN ρ w c [] upd v ρ' w'->kN ρ w c [] upd' v ρ' w':=by
  intro ρ w v ρ' w' hp g;refine {le:=g.le,has:=g.has,key:=g.key,bE:=g.bE.mono (λb _ ⟨k,blk,t,hm,hk⟩=>⟨k,blk,t,h1 _ hm,hk⟩),blk:= ?_,once:= ?_,B0:=(λ_ _ _ h=>by cases h),Ok:=(λ_ _ _ _ _ _ h=>by cases h),aW:=g.aW}
  ·intro k b hm;rcases hm with hm|hm
   ·rcases h2 k b hm with e|⟨e1,e3,e4⟩
    ·exact g.blk k b (.inl e)
    ·rcases hp.oq k b e1 with d|⟨b0,t,vs,ex,k1,k2,k3,k4,k5⟩|⟨k1,k2⟩
     ·rw[e3]at d;cases d
     ·refine .inr (.inl ⟨b0,t,vs,ex,g.le.key _ _ k1, ?_,df.mono g.le k3,k4,k5⟩);have aE:b0<w.heap.size:=(Array.getElem?_eq_some_iff.1 k2).1;rw[g.bE.block b0 aE ?_]
      ·exact k2
      ·rintro⟨k',blk,t',FM,kQ⟩;obtain⟨c0,c1,c2,c3,_⟩:=hu k' blk FM;have a8:k'≠k:=λe=>e4 blk (e▸FM)
       have:=hp.sep k' k _ _ c0 b (Rd _ c1) e1 kQ k1 a8 rfl c3 e3;rw[c2]at this;cases this
     ·exact .inr (.inr ⟨by rw[g.key k (λ_ h=>by cases h)];exact k1,k2⟩)
   ·cases hm
  ·intro k b b' hm _ hd _;rcases h2 k b hm with e|⟨_,e3,_⟩
   ·have:=hl k b e;rw[hd]at this;cases this
   ·rw[hd]at e3;cases e3
 rcases h with⟨f1,f2⟩|f2
 ·exact .inl ⟨f1,λρ w z hz hp=>(f2 ρ w z hz (hp.sub Rd)).mono (λe w' ⟨v,ρ',he,hq⟩=>⟨v,ρ',he,key ρ w v ρ' w' hp hq⟩)⟩
 ·exact .inr λρ w z hz hp=>by
   obtain⟨v,ρ',w',g1,g2⟩:=f2 ρ w z hz (hp.sub Rd);exact⟨v,ρ',w',g1,key ρ w v ρ' w' hp g2⟩
theorem fN {k j:Nat} {b:aC} {l:List (Nat×aC)} (h:k≠j):find ((k,b)::l) j=find l j:=by
 rw[find,show ϋ k j=false from by
  cases e:ϋ k j with
  |false=>rfl
  |true=>exact absurd (Nat.eq_of_beq_eq_true e) h]
theorem xA {k:Nat} {b:aC} {l:List (Nat×aC)}:find ((k,b)::l) k=some b:=by rw[find,Nat.beq_refl]
section
variable {P:Program} {o:Oper} {fr:List (Nat×SV)} {hp:List (Nat×aC)}
theorem kG {K:SV->List (Nat×aC)->List (Nat×aC)->List (Nat×aC)->Prop} {t ty:TypeId} {x:Operand} {ti:TI} {k i:Nat} {wr:Bool} {xs:List Rat} {c:SV} {q:Rat} (ho:o.op= .load t x) (hx:bg fr x (.ptr k 5 i 0))
  (hf:find hp k=some ⟨ty,wr,.cf xs⟩) (ht:b6 P t ti) (hi:i<xs.length) (hq:xs.getD i 0=q) (hs:sub 64 [.frac q] 0 ti.size=some [.frac q]) (gM:ti.size≠0) (hsh:eR ti [.frac q]=some c) (hK:K c [(k,⟨ty,wr,.cf xs⟩)] [] []):
  Good P fr hp o K:=
 ⟨c,_,[],[],yH (ob:=some (i<xs.length)) (cs:=[.frac q]) ho hx ht (μ.2 rfl) (by subst hq;rfl) hi hs gM hsh,eB hf,ak,ar,hK⟩
end
end Go.Sx
namespace Go.Proofs.YtadphegfhgmgmaaGreatDoor
open Go.Sx
theorem Bq {w:Nat->Bool} {M:Nat->List Rat} {j:Nat}:∀{n i:Nat},i<=j->j<i+n->find (nU w M n i) (1010+j)=some (xy (w j) (M j))
 |0,i,h1,h2=>aa
 |n+1,i,h1,h2=>by
  rw[nU];by_cases e:i=j
  ·subst e;exact xA
  ·rw[fN aa];exact Bq aa aa
theorem fO {w:Nat->Bool} {M:Nat->List Rat} {k:Nat} {b:aC}:∀{n i:Nat},(k,b)∈nU w M n i↔∃j,i<=j/\j<i+n/\k=1010+j/\b=xy (w j) (M j)
 |0,i=>⟨(λh=>by cases h),(λ⟨j,h1,h2,_⟩=>aa)⟩
 |n+1,i=>by
  rw[nU,List.mem_cons,fO];constructor
  ·rintro(h|⟨j,h1,h2,h3,h4⟩)
   ·cases h;exact⟨i,Nat.le_refl _,aa,rfl,rfl⟩
   ·exact⟨j,aa,aa,h3,h4⟩
  ·rintro⟨j,h1,h2,h3,h4⟩;by_cases e:i=j
   ·subst e;exact .inl (by rw[h3,h4])
   ·exact .inr ⟨j,aa,aa,h3,h4⟩
def Cp (X:Mx) (i q:Nat) (v:Rat):Mx:=λa l=>if a=i/\l=q then v else X a l
theorem RB {n i q:Nat} {X:Mx} {v:Rat} (hq:q<n):(bq n X i).set q v=bq n (Cp X i q v) i:=by
 refine mF (by rw[List.length_set,dm]) λl hl=> ?_
 by_cases e:l=q
 ·subst e;rw[p0 (by rw[dm];exact hq)];unfold Cp;rw[if_pos ⟨rfl,rfl⟩]
 ·rw[gT e,dr hl];unfold Cp;rw[if_neg (λg=>e g.2)]
theorem RC {n i j q:Nat} {X:Mx} {v:Rat} (h:j≠i):bq n (Cp X i q v) j=bq n X j:=by
 unfold bq;congr 1;funext l;unfold Cp;rw[if_neg (λg=>h g.1)]
abbrev sqB (r n:Nat):aC:=⟨123,true,.one [iv n,.aM 1002 1 0 r]⟩
abbrev yl (r n:Nat) (X:Mx):List (Nat×aC):=nU (λ_=>true) (bq n X) r 0
abbrev qC (r n:Nat) (X:Mx):List (Nat×aC):=(1001,sqB r n)::(1002,Hw true (jy r n))::yl r n X
theorem WU (n q:Nat) (l:List Rat) (c y v:Rat) (hl:l.length=n) (hq:q<n) (hv:l.getD q 0=v) (h:fs v+(fs c+fs y)<=4398046511104) (σ:Nat->Nat) (hσ:bl [(1010,xy true l)] [] σ):
  aL Tryz.prog 168 (mI σ ([]++([.ptr 1010 5 q 0,.frac y]++[b9 [.frac c]]))) (lJ σ [(1010,xy true l)]) (fT σ (.bQ [])) (lJ σ []) (lJ σ [(1010,xy true (l.set q (v+c*y)))]):=by
 have k1:=pa c y aa;have k2:=uq v (c*y) (by have:=cH c y;omega);refine gY (Z:=[4]) aH bC Tryz.func168 rfl aD (cb.of rfl rfl rfl rfl rfl rfl rfl rfl rfl rfl rfl) rfl σ hσ ?_;intro W0 w0 ρ0 hE;conv=>whnf
 (repeat((first|refine aq aD ?_|refine aX Q3 ?_|refine aN aJ ?_|refine an Q6 ?_|rw[hv]);conv=>whnf))
 exact⟨au.refl _,get_nil,cI rfl get_nil⟩
theorem RD {r n i q:Nat} (X:Mx) (c y:Rat) (hi:i<r) (hq:q<n) (h:fs (X i q)+(fs c+fs y)<=4398046511104):
  aL Tryz.prog 168 ([]++([.ptr (1010+i) 5 q 0,.frac y]++[b9 [.frac c]])) (yl r n X) (.bQ []) [] (yl r n (Cp X i q (X i q+c*y))):=by
 have h0:=WU n q (bq n X i) c y (X i q) (dm _ _) hq (dr hq) h (λk=>k+i) ⟨λa b _ _ _ _ a8 _ e=>a8 aa,(λ_ _ h=>by cases h),λ_ _ h=>by cases h⟩;rw[RB hq]at h0;refine aL.more h0 ?_ ?_ ?_ ?_ ?_
 ·exact eT (μ.2 rfl) rfl rfl rfl
 ·intro x hx;rw[μ.1 hx];exact fO.2 ⟨i,Γ _,aa,rfl,rfl⟩
 ·intro x hx;rw[μ.1 hx];exact fO.2 ⟨i,Γ _,aa,rfl,rfl⟩
 ·intro k b hx;cases μ.1 hx;rfl
 ·intro k b hx;obtain⟨j,_,h2,rfl,rfl⟩:=fO.1 hx;by_cases e:j=i
  ·subst e;exact .inl (μ.2 rfl)
  ·refine .inr ⟨fO.2 ⟨j,Γ _,h2,rfl,by rw[RC e]⟩,rfl,λb' hb=> ?_⟩;have:=congrArg Prod.fst (μ.1 hb);simp only at this;omega
theorem Fb {r n:Nat} {X:Mx} {hp:List (Nat×aC)} (h:∀j,j<r->find hp (1010+j)=some (xy true (bq n X j))):yx hp (yl r n X):=by
 intro k b hm;obtain⟨j,_,h2,rfl,rfl⟩:=fO.1 hm;exact h j aa
theorem Br {r n:Nat} {X Y:Mx}:mK (yl r n X) (yl r n Y):=by
 intro k b hm;obtain⟨j,h1,h2,rfl,rfl⟩:=fO.1 hm;exact⟨_,fO.2 ⟨j,h1,h2,rfl,rfl⟩,rfl,rfl,rfl⟩
theorem Bs {r n j:Nat} {X:Mx} (h:j<r):find (qC r n X) (1010+j)=some (xy true (bq n X j)):=by
 rw[fN aa,fN aa];exact Bq (Γ _) aa
theorem je {r n j:Nat} (hr:r<=40) (h:j<r):sub 64 (jy r n) j 1=some [rk j n]:=by
 have e:jy r n=((Η j).map λi=>rk i n)++rk j n::((Η (r - j - 1)).map λi=>rk (j+1+i) n):=by
  refine List.ext_getElem (by simp;omega) λk h1 h2=> ?_
  simp only[List.getElem_map,List.getElem_range,List.getElem_append,List.length_map,List.length_range,List.getElem_cons];split
  ·rfl
  ·split
   ·have:k=j:=aa;rw[this]
   ·congr 2;omega
 have:=zh (A:=(Η j).map λi=>rk i n) (B:=(Η (r - j - 1)).map λi=>rk (j+1+i) n) (x:=rk j n) rfl 64 (by
  intro a ha;obtain⟨_,_,rfl⟩:=List.mem_map.1 ha
  rfl) (by simp;omega)
 rw[e];simpa using this
