/- The texts Qf, Qh, Qe. -/
import Derived.Test.YtadphegfhgmgmaaGreatDoorQMModesKnown7
import Derived.Test.YtadphegfhgmgmaaGreatDoorQMModesKnown6
import Derived.Test.YtadphegfhgmgmaaGreatDoorQMModesKnown8
import Derived.Test.YtadphegfhgmgmaaGreatDoorQMModesKnown5
import Derived.Test.YtadphegfhgmgmaaGreatDoorQMModesKnown2
set_option linter.unusedSimpArgs false
set_option linter.unusedVariables false
set_option maxHeartbeats 40000000
set_option maxRecDepth 100000
open Array renaming ext'->ac0,getElem?_eq_none->ϴ,length_toList->ϭ,range->aiC,replicate->aca
open Bool renaming false_eq_true->Κ,not_false->acP
open Classical renaming byContradiction->Ο
open Go renaming zeroValue->abc
open Go.Act renaming eval->acV
open Go.Builtin renaming append_->abn,copy_->ahr,firstCells->Ω,lenOf->ahl,nextslicecap->aif,zeroCells->Τ
open Go.Instr renaming buildSlice->agn
open Go.IntKind renaming i64->ε
open Go.Question renaming appendCap->aik,cut->ajp
open Go.Result renaming andThen_ok->ν,ok->ak2
open Go.Sem renaming run_bind->Β,run_pure->Ε
open Go.Value renaming slice->aky
open Go.World renaming alloc_eq->aeE,drew_eq->ajS,setRow->ah9
open List renaming append_nil->ϣ,drop_zero->afg,find?_some->agh,flatMap_def->ϸ,flatten_append->ϝ,flatten_cons->ϐ,getElem?_append_left->ϳ,getElem?_cons_succ->ϥ,getElem?_cons_zero->ϑ,getElem?_eq_some_iff->Ϩ,getElem?_take->ahL,getElem?_toArray->ό,length_append->ξ,length_drop->ϗ,length_take->ψ,map_cons->ϲ,map_nil->af6,map_toArray->aie,mem_append->ϖ,mem_cons_self->η,mem_flatten->afQ,mem_of_find?_eq_some->ac7,mem_of_mem_drop->Ψ,mem_of_mem_take->Θ,mem_singleton->μ,nodup_append->ae0,replicate->θ,replicate_succ->acT,size_toArray->af5,take_append_of_le_length->adn,take_length->adi,zipWith->ω
open Nat renaming add_mul->gx,add_zero->abC,beq->ϋ,eq_of_beq_eq_true->χ,eq_zero_or_pos->acX,le_refl->ζ,lt_irrefl->afU,lt_or_ge->Ϝ,mul_le_mul_right->ο,reducePow->ahy,zero_add->υ
open Option.some renaming inj->abU,injEq->κ
open Prod.mk renaming injEq->ς
open Pure renaming pure->ajP
namespace Go.Sx
structure jz (args:List SV) (fk:List (Nat×aC)) (c:SV) (new upd:List (Nat×aC)):Prop where
 aad:fD (il args) (az fk)=true
 fkr:fD (jo fk) (az fk)=true
 nd:qW (az fk++az new)=true
 aae:vE new=true
 aaf:∀k b,(k,b)∈upd->b.wr=true
 OS:∀k b,(k,b)∈upd->∃b0,(k,b0)∈fk/\b0.wr=true/\b0.data.live=true
 I1:∀k b,(k,b)∈fk->b.wr=true->b.data.live=true->∃b',(k,b')∈upd
 cr:fD (refs c) (az fk++az new)=true
 nr:fD (jo new) (az fk++az new)=true
 ur:fD (jo upd) (az fk++az new)=true
 pass:args.all bs=true
theorem jz.of {args:List SV} {fk:List (Nat×aC)} {c:SV} {new upd:List (Nat×aC)} (h1:fD (il args) (az fk)=true) (h2:fD (jo fk) (az fk)=true) (h3:qW (az fk++az new)=true)
  (h4:vE new=true) (h5:(upd.all λx=>x.2.wr)=true) (h6:CR fk upd=true) (h7:vN upd fk=true) (h8:fD (refs c) (az fk++az new)=true) (h9:fD (jo new) (az fk++az new)=true)
  (h10:fD (jo upd) (az fk++az new)=true) (h11:args.all bs=true):jz args fk c new upd:=
 ⟨h1,h2,h3,h4,λk b hm=>List.all_eq_true.1 h5 _ hm,pF h6,pG h7,h8,h9,h10,h11⟩
theorem acd {P:Program} {T:List (TypeId×TI)} {Z:List Nat} (hT:dz P T) (hm:P.follows .mixedOrders=true) {f:FuncId} {fn':Func} {code:Code} (hf:P.funcs[f]? =some fn') (hb:fn'.body=some code)
  (hn:(fn'.name== "runtime.NumGoroutine")=false) {args:List SV} {fk:List (Nat×aC)} {c:SV} {new upd:List (Nat×aC)} (hs:jz args fk c new upd) (hnt:Nat.ble args.length fn'.ntmps=true)
  (σ:Nat->Nat) (hσ:bl fk new σ)
  (h:∀W0 w0 ρ0,Env.OK ⟨P,T,W0,w0,fn'.ntmps,ρ0,az fk,Z,none⟩->Ee ⟨P,T,W0,w0,fn'.ntmps,ρ0,az fk,Z,none⟩ code (N9 T fn'.results.toList (Fin c new upd)) (enum 0 args) fk):
  aL P f (mI σ args) (lJ σ fk) (fT σ c) (lJ σ new) (lJ σ upd):=by
 have OM:=Nat.le_of_ble_eq_true hnt;refine .inl ⟨⟨fn',hf,hn,by rw[hb];rfl⟩,λρ w z hz Ei=> ?_⟩;have X7:=nM hs.nd;have OV:(az fk).Nodup:=(ae0.1 X7).1;have agC:(az new).Nodup:=(ae0.1 X7).2.1;have OW:∀m∈az new,m∉az fk:=λm hm hq=>(ae0.1 X7).2.2 m hq m hm rfl
 let ρ1:bY:=⟨λq=>if q∈az fk then ρ.key (σ q)else none,ρ.aW,ρ.cA⟩
 have FL:∀q∈az fk,ρ.key (σ q)=ρ1.key q:=λq hq=>by
  show _=if q∈az fk then _ else _
  rw[if_pos hq]
 have OX:∀q x,ρ1.key q=some x->q∈az fk:=λq x hx=>by
  have hx:(if q∈az fk then ρ.key (σ q)else none)=some x:=hx;by_cases hq:q∈az fk
  ·exact hq
  ·rw[if_neg hq]at hx;cases hx
 let W0:Nat->Prop:=λb=>∃q blk t,(q,blk)∈upd/\ρ1.key q=some (b,t)
 let E:Env:=⟨P,T,W0,w,fn'.ntmps,ρ1,az fk,Z,none⟩
 have hE:E.OK:=⟨hT,hm,OX⟩;have OY:=ed hs.aad;have MW:aw ρ1 args z:=(dV (ρ:=ρ1) (ρ':=ρ) (σ:=σ) rfl args z (λk hk=>FL k (OY k hk))).1 hz;have rR:z.length=args.length:=da MW;have oc:∀(l:List SV) (y:List (List Value)),aw ρ1 l y->l.all bs=true->∀(j:Nat) (c:SV),l[j]? =some c->∃v,(ω cV l y)[j]? =some v/\Has ρ1 c v:=by
  intro l;induction l with
  |nil=>intro y _ _ j c h;simp at h
  |cons d l ih=>
   intro y hy hp j c hj;simp only[aw]at hy;obtain⟨x,r,rfl,g1,g2⟩:=hy;simp only[List.all_cons,Bool.and_eq_true]at hp;cases j with
   |zero=>
    simp at hj;subst hj;exact⟨cV d x,by simp,(l8 hp.1).2 ⟨x,g1,rfl⟩⟩
   |succ j=>simpa using ih r g2 hp.2 j c (by simpa using hj)
 have qn:((ω cV args z).toArray++aca (fn'.ntmps - (ω cV args z).toArray.size) undef).size=fn'.ntmps:=by
  simp[rR];omega
 have aag:=ed hs.fkr;have qY:∀k b,find fk k=some b->(k,b)∈fk:=λk b hb=>kO hb
 have hR:R E.W0 E.w0 E.n ρ1 (fn (enum 0 args) fk) {tmps:=(ω cV args z).toArray++aca (fn'.ntmps - (ω cV args z).toArray.size) undef,defers:=[]} w:={
  defers:=.nil
  size:=qn
  fr:=λt sv ht=>by
   simp only[fn,LV.sv]at ht;obtain⟨_,h2⟩:=vx args 0 t sv ht;obtain⟨v,h3,h4⟩:=oc args z MW hs.pass t sv (by simpa using h2);have aE:t<(ω cV args z).length:=(Ϩ.1 h3).1;have:((ω cV args z).toArray++aca (fn'.ntmps - (ω cV args z).toArray.size) undef).getD t undef=v:=by
    rw[Array.getD_eq_getD_getElem?,Array.getElem?_append_left (by simpa using aE)];simp[h3]
   rw[this];exact h4
  bE:=.refl _ _
  hp:={
   blk:=λk b hb=>by
    have hm:=qY k b hb;have:=Ei.oq (σ k) (eC σ b) (bG.2 ⟨k,b,hm,rfl,rfl⟩);exact(kY (ρ:=ρ1) (ρ':=ρ) (σ:=σ) rfl k b (FL k (aR.2 ⟨b,hm⟩)) (λj hj=>FL j (aag j (jN hm j hj)))).1 this
   sep:=λk k' x x' b b' hx sU a8 he hb ie hl ux=>by
    have hm:=qY k b hb;have FM:=qY k' b' ie;have N6:ρ.key (σ k)=some x:=by rw[FL k (aR.2 ⟨b,hm⟩)];exact hx
    have aah:ρ.key (σ k')=some x':=by rw[FL k' (aR.2 ⟨b',FM⟩)];exact sU
    cases hw:b.wr with
    |false=>rfl
    |true=>
     have:=Ei.sep (σ k) (σ k') x x' (eC σ b) (eC σ b') (bG.2 ⟨k,b,hm,rfl,rfl⟩) (bG.2 ⟨k',b',FM,rfl,rfl⟩) N6 aah (hσ.inj k k' b b' hm FM a8 hw) he (by rw[eC,cT];exact hl) (by rw[eC,cT];exact ux);rw[eC]at this;rw[hw]at this;exact this
   own:=λk b x hb hw hl hx=>by
    have hm:=qY k b hb;obtain⟨b',hu⟩:=hs.I1 k b hm hw hl;exact .inr ⟨k,b',x.2,hu,hx⟩
   wW:=λk x hx=>by
    obtain⟨b,hb⟩:=aR.1 (OX k x hx);exact⟨b,by simp only[fn,LV.blk];exact kZ OV hb⟩
   aW:=Ei.aW
   fB:=λk b x hb hw hl hx=>by
    have hm:=qY k b hb;have N6:ρ.key (σ k)=some x:=by rw[FL k (aR.2 ⟨b,hm⟩)];exact hx
    exact Ei.fB (σ k) (eC σ b) x (bG.2 ⟨k,b,hm,rfl,rfl⟩) hw (by rw[eC,cT];exact hl) N6}}
 have Uy:=jM hE code _ _ _ (h E.W0 w ρ1 hE) _ w ⟨ρ1,⟨.refl _,(λb o hb=>.inl hb),(λ_ _=>rfl)⟩,(λk hk=>by
  obtain⟨b,hb⟩:=aR.1 hk;simp only[fn,LV.blk,kZ OV hb]
  simp),hR⟩
 rw[rU];refine l7 (E:=E) rfl hf hb (λ_ _ _ h=>h) (λ_ _ h=>h) Uy ?_;rintro e a' w' hdf ⟨fr',cl,hK,ρ',hext,_,lN⟩;have fin:∀ob l,mH T fr' cl fn'.results.toList=some (ob,l)->DS ob->Fin c new upd (uc l) cl->a'.defers=[]/\∃v,(results fn' a'.tmps).run P w'= .ok v w'/\∃v' ρ'',Ending.returned v= .returned v'/\kN ρ w (fT σ c) (lJ σ new) (lJ σ upd) v' ρ'' w':=by
  rintro ob l h1 h2 ⟨h3,gi,hupd⟩;obtain⟨v,r1,r2⟩:=nL hE lN h1 h2
  let ρ2:bY:=⟨λk=>match (az new).find? (λm=>σ m==k)with
   |some m=>ρ'.key m
   |none=>ρ.key k,ρ'.aW,ρ'.cA⟩
  have qZ:∀m∈az new,ρ2.key (σ m)=ρ'.key m:=by
   intro m hm;show(match (az new).find? (λj=>σ j==σ m)with|some m=>ρ'.key m|none=>ρ.key (σ m))=ρ'.key m;cases qE:(az new).find? (λj=>σ j==σ m)with
   |none=>have:=List.find?_eq_none.1 qE m hm;simp at this
   |some j=>
    have hj:=ac7 qE;have hjs:=agh qE;have:j=m:=Ο λa8=>hσ.OT j m hj hm a8 (by simpa using hjs)
    rw[this]
  have Ab:∀k,(∀m∈az new,σ m≠k)->ρ2.key k=ρ.key k:=by
   intro k hk;show(match (az new).find? (λj=>σ j==k)with|some m=>ρ'.key m|none=>ρ.key k)=ρ.key k;cases qE:(az new).find? (λj=>σ j==k)with
   |none=>rfl
   |some j=>exact absurd (by simpa using agh qE) (hk j (ac7 qE))
  have k2:∀q∈az fk++az new,ρ2.key (σ q)=ρ'.key q:=by
   intro q hq;rcases ϖ.1 hq with hq|hq
   ·rw[Ab (σ q) (λm hm=>hσ.OU m q hm hq),FL q hq,hext.fix q hq]
   ·exact qZ q hq
  have dN:∀m∈az new,ρ.key (σ m)=none:=by
   intro m hm;obtain⟨b,hb⟩:=aR.1 hm;exact Ei.fresh (σ m) (eC σ b) (bG.2 ⟨m,b,hb,rfl,rfl⟩)
  have jq:=py hs.aae;have OZ:=hs.aaf;have hnr:=ed hs.nr;have hur:=ed hs.ur;have hcr:=ed hs.cr;have pz:∀q b,(q,b)∈upd->q∈az fk:=λq b hq=>by
   obtain⟨b0,h1,_⟩:=hs.OS q b hq;exact aR.2 ⟨b0,h1⟩
  refine⟨hdf,v,r1,v,ρ2,rfl,⟨⟨λk x hx=> ?_,λb o hb=>hext.le.aW b o hb⟩, ?_,λk hk=> ?_, ?_, ?_, ?_, ?_, ?_, ?_⟩⟩
  ·rw[Ab k]
   ·exact hx
   ·rintro m hm rfl;rw[dN m hm]at hx;cases hx
  ·exact(yJ (ρ:=ρ') (ρ':=ρ2) (σ:=σ) rfl c v (λk hk=>k2 k (hcr k hk))).2 (h3 ρ' v r2)
  ·refine Ab k λm hm he=> ?_
   obtain⟨b,hb⟩:=aR.1 hm;exact hk (eC σ b) (bG.2 ⟨m,b,hb,he.symm,rfl⟩)
  ·refine lN.bE.mono (λb _ hb=> ?_);obtain⟨q,blk,t,hq,hx⟩:=hb;refine⟨σ q,eC σ blk,t,bG.2 ⟨q,blk,hq,rfl,rfl⟩, ?_⟩;rw[FL q (pz q blk hq)];exact hx
  ·intro k b hk;rcases hk with hk|hk
   ·obtain⟨q,b0,hq,rfl,rfl⟩:=bG.1 hk;exact(kY (ρ:=ρ') (ρ':=ρ2) (σ:=σ) rfl q b0 (k2 q (ϖ.2 (.inl (pz q b0 hq)))) (λj hj=>k2 j (hur j (jN hq j hj)))).2 (lN.hp.blk q b0 (by simp only[fn,LV.blk];exact hupd q b0 hq))
   ·obtain⟨q,b0,hq,rfl,rfl⟩:=bG.1 hk;exact(kY (ρ:=ρ') (ρ':=ρ2) (σ:=σ) rfl q b0 (k2 q (ϖ.2 (.inr (aR.2 ⟨b0,hq⟩)))) (λj hj=>k2 j (hnr j (jN hq j hj)))).2 (lN.hp.blk q b0 (by simp only[fn,LV.blk];exact gi q b0 hq))
  ·intro k b b' hk kQ hl ux;obtain⟨q,b0,hq,hqk,rfl⟩:=bG.1 hk;obtain⟨q',b0',uA,hqk',rfl⟩:=bG.1 kQ;rw[eC,cT]at hl ux;by_cases he:q=q'
   ·have h1:=hupd q b0 hq;rw[he,hupd q' b0' uA]at h1;rw[<-abU h1,ux]at hl;cases hl
   ·obtain⟨f,hf1,KC,_⟩:=hs.OS q b0 hq;obtain⟨f',hf1',_⟩:=hs.OS q' b0' uA;exact hσ.inj q q' f f' hf1 hf1' he KC (hqk.symm.trans hqk')
  ·intro k b x hk hx;obtain⟨m,b0,hm,rfl,rfl⟩:=bG.1 hk;rw[qZ m (aR.2 ⟨b0,hm⟩)]at hx;have hfm:(fn fr' cl (.k m)).blk=some b0:=by simp only[fn,LV.blk];exact gi m b0 hm
   rcases lN.hp.own m b0 x hfm (jq m b0 hm).1 (jq m b0 hm).2 hx with h4|⟨q,bu,t,hq,hxq⟩
   ·exact .inl h4
   ·have hqf:=pz q bu hq;have a8:m≠q:=λhe=>OW m (aR.2 ⟨b0,hm⟩) (he▸hqf)
    have aai:ρ'.key q=some (x.1,t):=by rw[hext.fix q hqf];exact hxq
    cases hbl:bu.data.live with
    |true=>
     have:=lN.hp.sep m q x (x.1,t) b0 bu hx aai a8 rfl hfm (by simp only[fn,LV.blk];exact hupd q bu hq) (jq m b0 hm).2 hbl;rw[(jq m b0 hm).1]at this;cases this
    |false=>
     refine .inr ⟨σ q,eC σ bu,t,bG.2 ⟨q,bu,hq,rfl,rfl⟩,by rw[eC,cT];exact hbl, ?_⟩;rw[FL q hqf];exact hxq
  ·intro k b k' b' x x' hk kQ a8 hx sU he;obtain⟨m,b0,hm,rfl,rfl⟩:=bG.1 hk;obtain⟨m',b0',FM,rfl,rfl⟩:=bG.1 kQ;rw[qZ m (aR.2 ⟨b0,hm⟩)]at hx;rw[qZ m' (aR.2 ⟨b0',FM⟩)]at sU;have:=lN.hp.sep m m' x x' b0 b0' hx sU (λh=>a8 (by rw[h])) he (by simp only[fn,LV.blk];exact gi m b0 hm) (by simp only[fn,LV.blk];exact gi m' b0' FM) (jq m b0 hm).2 (jq m' b0' FM).2;rw[(jq m b0 hm).1]at this;cases this
  ·intro b o hb;rcases hext.aW b o hb with h4|h4
   ·exact .inl h4
   ·refine .inr ⟨h4,lN.hp.aW b o hb,λk blk x hk hx he=> ?_⟩;obtain⟨m,b0,hm,rfl,rfl⟩:=bG.1 hk;rw[qZ m (aR.2 ⟨b0,hm⟩)]at hx;have:=lN.hp.fB m b0 x (by simp only[fn,LV.blk];exact gi m b0 hm) (jq m b0 hm).1 (jq m b0 hm).2 hx;rw[he]at this;have ie:ρ'.aW b=some o:=hb;rw[ie]at this;cases this
 cases e<;>simp only[N9]at hK<;>simp only[bodyPost]
 ·split at hK
  ·rename_i ob l hl;exact fin ob l hl (cy hK).1 (cy hK).2
  ·exact hK.elim
 ·split at hK
  ·rename_i ob l hl;exact fin ob l hl (cy hK).1 (cy hK).2
  ·exact hK.elim
theorem HF {E:Env} {j:Nat} {ty:TypeId} {wr:Bool} {cs:List SV} {fr:List (Nat×SV)} {hp:List (Nat×aC)} (hj:find hp j=some ⟨ty,wr,.one cs⟩) (ph:aS cs=true) (X9:qO 1 cs=true) {a:Act} {w:World} (hR:RR E (fn fr hp) a w):
  RR E (fn fr ((j,⟨ty,wr,.seq 1 cs⟩)::hp)) a w:=by
 obtain⟨ρ,hext,hfx,hR⟩:=hR;have fQ:∀i b,(fn fr ((j,⟨ty,wr,.seq 1 cs⟩)::hp) (.k i)).blk=some b->∃b0,(fn fr hp (.k i)).blk=some b0/\b0.wr=b.wr/\b0.data.live=b.data.live/\(b0=b\/(i=j/\b0=⟨ty,wr,.one cs⟩/\b=⟨ty,wr,.seq 1 cs⟩)):=by
  intro i b hb;simp only[fn,LV.blk,find]at hb ⊢;cases hi:ϋ j i with
  |true=>
   rw[hi]at hb;simp only[κ]at hb;obtain rfl:=χ hi;subst hb;exact⟨_,hj,rfl,rfl,.inr ⟨rfl,rfl,rfl⟩⟩
  |false=>rw[hi]at hb;exact⟨b,hb,rfl,rfl,.inl rfl⟩
 refine⟨ρ,hext,λi hi=> ?_,{defers:=hR.defers,size:=hR.size,fr:=λu sv hu=>hR.fr u sv hu,bE:=hR.bE,hp:= ?_}⟩
 ·have:=hfx i hi;simp only[fn,LV.blk,find]at this ⊢;cases hb:ϋ j i with
  |true=>simp
  |false=>exact this
 ·constructor
  ·intro i b hb;obtain⟨b0,h1,h2,h3,rfl|⟨rfl,rfl,rfl⟩⟩:=fQ i b hb
   ·exact hR.hp.blk i b0 h1
   ·rcases hR.hp.blk i _ h1 with h4|⟨b',t,vs,ex,g1,g2,g3,g4,g5⟩|⟨_,h4⟩
    ·cases h4
    ·refine .inr (.inl ⟨b',t,vs,ex,g1,g2, ?_,g4,g5⟩);simp only[df]at g3 ⊢;obtain⟨z,g6,g7⟩:=g3;exact⟨z,cx (ρ:=ρ) (ρ':=cW ρ.aW ρ.cA) (λ_ _ h=>h) cs z ph g6,g7,mq X9⟩
    ·exact h4.elim
  ·intro i i' x x' b b' hx sU hn hxe hb ie hl ux;obtain⟨b0,h1,h2,h3,_⟩:=fQ i b hb;obtain⟨b0',h1',h2',h3',_⟩:=fQ i' b' ie;rw[<-h2];exact hR.hp.sep i i' x x' b0 b0' hx sU hn hxe h1 h1' (h3.trans hl) (h3'.trans ux)
  ·intro i b x hb hw hl hx;obtain⟨b0,h1,h2,h3,_⟩:=fQ i b hb;exact hR.hp.own i b0 x h1 (h2.trans hw) (h3.trans hl) hx
  ·intro i x hx;obtain⟨b,hb⟩:=hR.hp.wW i x hx;simp only[fn,LV.blk,find]at hb ⊢;cases hi:ϋ j i with
   |true=>exact⟨_,rfl⟩
   |false=>exact⟨b,hb⟩
  ·exact hR.hp.aW
  ·intro i b x hb hw hl hx;obtain⟨b0,h1,h2,h3,_⟩:=fQ i b hb;exact hR.hp.fB i b0 x h1 (h2.trans hw) (h3.trans hl) hx
theorem Fc {ρ:bY}:∀{cs:List SV} {z:List (List Value)} {p:Nat} {c:SV},aw ρ cs z->cs[p]? =some c->∃x,z[p]? =some x/\aI ρ c x
 |[],_,_,_,_,h=>by simp at h
 |d::cs,z,0,c,hz,h=>by
  simp only[aw]at hz;obtain⟨x,r,rfl,h1,_⟩:=hz;simp only[ϑ,κ]at h;subst h;exact⟨x,rfl,h1⟩
 |d::cs,z,p+1,c,hz,h=>by
  simp only[aw]at hz;obtain⟨x,r,rfl,_,h2⟩:=hz;obtain⟨y,h3,h4⟩:=Fc h2 (by simpa using h);exact⟨y,by simpa using h3,h4⟩
theorem Bt {ρ:bY} {v:SV} {x:List Value}:∀{cs:List SV} {z:List (List Value)} {p:Nat},aw ρ cs z->z[p]? =some x->aI ρ v x->aw ρ (cs.set p v) z
 |[],z,p,hz,_,_=>by simpa using hz
 |d::cs,z,0,hz,h,hv=>by
  simp only[aw]at hz;obtain⟨y,r,rfl,_,h2⟩:=hz;simp only[ϑ,κ]at h;subst h;simp only[List.set_cons_zero,aw];exact⟨_,_,rfl,hv,h2⟩
 |d::cs,z,p+1,hz,h,hv=>by
  simp only[aw]at hz;obtain⟨y,r,rfl,h1,h2⟩:=hz;simp only[List.set_cons_succ,aw];exact⟨y,r,rfl,h1,Bt h2 (by simpa using h) hv⟩
theorem RK {ρ:bY} {w:Nat} {a:Option Addr} {l:List SV} (h:l=[]):aI ρ (fh w l) [.slice a 0 0]:=by
 subst h;exact pI (by simp only[aI];exact⟨rfl,rfl⟩)
theorem uV {E:Env} (jj pp k:Nat) {tj:TypeId} {wj:Bool} {cs:List SV} {fr:List (Nat×SV)} {hp:List (Nat×aC)} {ty:TypeId} {d:Data} {w i n:Nat} {xs:List SV} (hW:∀b,¬E.W0 b) (hjf:find hp jj=some ⟨tj,wj,.one cs⟩) (Dg:jj≠k) (hpc:cs[pp]? =some (.aM k w i n)) (hk:find hp k=some ⟨ty,true,d⟩)
  (he:js d=some xs) (hw:dx d=some w) (ph:aS xs=true) (hn:i+n<=xs.length) {a:Act} {W:World} (hR:RR E (fn fr hp) a W):RR E (fn fr ((jj,⟨tj,wj,.one (cs.set pp (fh w (ik xs i (i+n))))⟩)::fi hp k ⟨ty,true,.dead⟩)) a W:=by
 have hl:d.live=true:=by cases d<;>simp[js]at he<;>rfl
 obtain⟨ρ,hext,hfx,hR⟩:=hR;have FN:(fn fr hp (.k k)).blk=some ⟨ty,true,d⟩:=by simp only[fn,LV.blk];exact hk
 have hjb:(fn fr hp (.k jj)).blk=some ⟨tj,wj,.one cs⟩:=by simp only[fn,LV.blk];exact hjf
 obtain⟨bj,nj,exj,zj,hj1,RL,hj3,hj4,hj5⟩:∃bj nj exj zj,ρ.key jj=some (bj,nj)/\W.heap[bj]? =some ((Data.one cs).obj (zj.flatten++exj) tj)/\aw ρ cs zj/\(zj.flatten++exj).length=nj/\∀v∈exj,v.oneCell'=true:=by
  rcases hR.hp.blk jj _ hjb with g0|⟨b',t',vs,ex,g1,g2,⟨z,g3,rfl⟩,g4,g5⟩|⟨_,g2⟩
  ·cases g0
  ·exact⟨b',t',ex,z,g1,g2,g3,g4,g5⟩
  ·exact g2.elim
 obtain⟨x,hzx,hx⟩:=Fc hj3 hpc;have fX:∀q b,(fn fr ((jj,⟨tj,wj,.one (cs.set pp (fh w (ik xs i (i+n))))⟩)::fi hp k ⟨ty,true,.dead⟩) (.k q)).blk=some b->(q=jj/\b=⟨tj,wj,.one (cs.set pp (fh w (ik xs i (i+n))))⟩)\/(q=k/\b=⟨ty,true,.dead⟩)\/(q≠jj/\q≠k/\(fn fr hp (.k q)).blk=some b):=by
  intro q b hb;simp only[fn,LV.blk,find]at hb ⊢;cases hq:ϋ jj q with
  |true=>
   rw[hq]at hb;exact .inl ⟨(χ hq).symm,(abU hb).symm⟩
  |false=>
   rw[hq]at hb;simp only[bS]at hb;have a8:q≠jj:=by rintro rfl;simp[Nat.beq_refl]at hq
   by_cases hj:q=k
   ·rw[if_pos hj]at hb;exact .inr (.inl ⟨hj,(abU hb).symm⟩)
   ·rw[if_neg hj]at hb;exact .inr (.inr ⟨a8,hj,hb⟩)
 have fin:∀ρ':bY,ρ'.key=ρ.key->(∀b o,ρ.aW b=some o->ρ'.aW b=some o)->(∀b o,ρ'.aW b=some o->ρ.aW b=some o\/E.w0.heap.size<=b)->(∀b o,ρ'.aW b=some o->W.heap[b]? =some o)->
   (∀j b x,j≠k->(fn fr hp (.k j)).blk=some b->b.wr=true->b.data.live=true->ρ.key j=some x->ρ'.aW x.1=none)->(∀D,W.heap[D]? =some (.deferred (some []))->ρ.aW D=none->ρ'.aW D=none)->aI ρ' (fh w (ik xs i (i+n))) x->
   RR E (fn fr ((jj,⟨tj,wj,.one (cs.set pp (fh w (ik xs i (i+n))))⟩)::fi hp k ⟨ty,true,.dead⟩)) a W:=by
  intro ρ' bZ himm gi hheap kU hmark hhas;have hle:ρ.Le ρ':=⟨λj y hy=>by rw[bZ];exact hy,himm⟩;refine⟨ρ',⟨hext.le.trans hle,λb o hb=>(gi b o hb).elim (λh=>hext.aW b o h) .inr,λj hj=>by rw[bZ];exact hext.fix j hj⟩,λj hj=> ?_,{defers:= ?_,size:=hR.size,fr:= ?_,bE:=hR.bE,hp:= ?_}⟩
  ·have:=hfx j hj;simp only[fn,LV.blk,find]at this ⊢;cases hq:ϋ jj j with
   |true=>simp
   |false=>
    simp only[bS];split
    ·simp
    ·exact this
  ·obtain⟨Ds,d1,d2,d3⟩:=hR.defers;refine⟨Ds,d1,d2,λD hD=> ?_⟩;obtain⟨e1,e2,e3⟩:=d3 D hD;refine⟨e1,e2, ?_⟩;exact hmark D e2 e3
  ·intro u sv hu;exact Has.mono hle _ _ (hR.fr u sv hu)
  ·have lI:∀q b,(fn fr ((jj,⟨tj,wj,.one (cs.set pp (fh w (ik xs i (i+n))))⟩)::fi hp k ⟨ty,true,.dead⟩) (.k q)).blk=some b->b.data.live=true->∃b0,(fn fr hp (.k q)).blk=some b0/\b0.wr=b.wr/\b0.data.live=true/\q≠k:=by
    intro q b hb hlv;rcases fX q b hb with⟨rfl,rfl⟩|⟨_,rfl⟩|⟨_,h2,h3⟩
    ·exact⟨_,hjb,rfl,rfl,Dg⟩
    ·cases hlv
    ·exact⟨b,h3,rfl,hlv,h2⟩
   constructor
   ·intro q b hb;rcases fX q b hb with⟨rfl,rfl⟩|⟨rfl,rfl⟩|⟨_,_,hb⟩
    ·refine .inr (.inl ⟨bj,nj,zj.flatten,exj,by rw[bZ];exact hj1,RL,⟨zj, ?_,rfl⟩,hj4,hj5⟩);exact Bt (aw.mono hle cs zj hj3) hzx hhas
    ·exact .inl rfl
    ·rcases hR.hp.blk q b hb with g0|⟨b',t',vs,ex,g1,g2,g3,g4⟩|⟨g1,g2⟩
     ·exact .inl g0
     ·exact .inr (.inl ⟨b',t',vs,ex,by rw[bZ];exact g1,g2,g3.mono hle,g4⟩)
     ·exact .inr (.inr ⟨by rw[bZ];exact g1,g2⟩)
   ·intro j j' y y' b b' hy IU a8 hyy hb ie iT iD;rw[bZ]at hy IU;obtain⟨c0,h1,h2,h3,_⟩:=lI j b hb iT;obtain⟨c0',h1',h2',h3',_⟩:=lI j' b' ie iD;rw[<-h2];exact hR.hp.sep j j' y y' c0 c0' hy IU a8 hyy h1 h1' h3 h3'
   ·intro j b y hb hwr iT hy;rw[bZ]at hy;obtain⟨c0,h1,h2,h3,_⟩:=lI j b hb iT;exact hR.hp.own j c0 y h1 (h2.trans hwr) h3 hy
   ·intro j y hy;rw[bZ]at hy;obtain⟨b,hb⟩:=hR.hp.wW j y hy;simp only[fn,LV.blk,find]at hb ⊢;cases hq:ϋ jj j with
    |true=>exact⟨_,rfl⟩
    |false=>
     simp only[bS];split
     ·exact⟨_,rfl⟩
     ·exact⟨b,hb⟩
   ·exact hheap
   ·intro j b y hb hwr iT hy;rw[bZ]at hy;obtain⟨c0,h1,h2,h3,h4⟩:=lI j b hb iT;exact kU j c0 y h4 h1 (h2.trans hwr) h3 hy
 rcases uF (hR.hp.blk k _ FN) he hw ph hn hx with⟨rfl,ad,rfl⟩|⟨b,t',o,h1,h2,h3⟩
 ·refine fin ρ rfl (λ_ _ h=>h) (λ_ _ h=>.inl h) hR.hp.aW (λj b y _ hb hwr iT hy=>hR.hp.fB j b y hb hwr iT hy) (λ_ _ h=>h) ?_;exact RK (by simp[ik])
 ·have hB:E.w0.heap.size<=b:=(hR.hp.own k _ _ FN rfl hl h1).resolve_right (hW _);obtain⟨u,zL⟩:=(Up.refl ρ W E.w0.heap.size).add hR.hp.aW hB h2;refine fin ⟨ρ.key,_,u.cA⟩ rfl u.le (λb o hb=>(u.new b o hb).imp id (λh=>h.1)) (λc p hc=> ?_) (λj blk y hj hb hwr iT hy=> ?_) (λD O7 hD2=> ?_) ?_
  ·rcases u.new c p hc with h|h
   ·exact hR.hp.aW c p h
   ·exact h.2
  ·show(if y.1=b then some o else ρ.aW y.1)=none;rw[if_neg]
   ·exact hR.hp.fB j blk y hb hwr iT hy
   ·intro he2;have:=hR.hp.sep k j (b,t') y _ _ h1 hy (λh=>hj h.symm) he2.symm FN hb hl iT;cases this
  ·show(if D=b then some o else ρ.aW D)=none;rw[if_neg,hD2];rintro rfl;rcases hR.hp.blk k _ FN with g0|⟨b',t'',vs,ex,g1,g2,_⟩|⟨g1,_⟩
   ·rw[show Data.live d=false from g0]at hl;cases hl
   ·rw[h1]at g1;cases g1;rw[O7]at g2;exact Data.lO (abU g2).symm
   ·rw[h1]at g1;cases g1
  ·exact aI.mono (qG ⟨ρ.key,_,u.cA⟩ u.cA) _ _ (h3 _ u.cA u.le (by simp))
theorem nh {E:Env} (t k:Nat) {fr:List (Nat×SV)} {hp:List (Nat×aC)} {ty:TypeId} {cs:List SV} (hW:∀b,¬E.W0 b) (ht:lk fr t=some (.ptr k 0 0 0)) (hk:find hp k=some ⟨ty,true,.one cs⟩)
  (ph:aS cs=true) {a:Act} {W:World} (hR:RR E (fn fr hp) a W):RR E (fn ((t,b9 cs)::fr) (fi hp k ⟨ty,true,.dead⟩)) a W:=by
 have hl:(Data.one cs).live=true:=rfl;obtain⟨ρ,hext,hfx,hR⟩:=hR;have FN:(fn fr hp (.k k)).blk=some ⟨ty,true,.one cs⟩:=by simp only[fn,LV.blk];exact hk
 have hv:=hR.fr t _ (by simp only[fn,LV.sv];exact ht);obtain⟨x,hx,hxv⟩:=(l8 (c:=.ptr k 0 0 0) rfl).1 hv;have fX:∀j b,(fn ((t,b9 cs)::fr) (fi hp k ⟨ty,true,.dead⟩) (.k j)).blk=some b->(j=k/\b=⟨ty,true,.dead⟩)\/(j≠k/\(fn fr hp (.k j)).blk=some b):=by
  intro j b hb;simp only[fn,LV.blk,bS]at hb ⊢;by_cases hj:j=k
  ·rw[if_pos hj]at hb;exact .inl ⟨hj,(abU hb).symm⟩
  ·rw[if_neg hj]at hb;exact .inr ⟨hj,hb⟩
 have fin:∀ρ':bY,ρ'.key=ρ.key->(∀b o,ρ.aW b=some o->ρ'.aW b=some o)->(∀b o,ρ'.aW b=some o->ρ.aW b=some o\/E.w0.heap.size<=b)->(∀b o,ρ'.aW b=some o->W.heap[b]? =some o)->
   (∀j b x,j≠k->(fn fr hp (.k j)).blk=some b->b.wr=true->b.data.live=true->ρ.key j=some x->ρ'.aW x.1=none)->(∀D,W.heap[D]? =some (.deferred (some []))->ρ.aW D=none->ρ'.aW D=none)->Has ρ' (b9 cs) (a.tmps.getD t undef)->
   RR E (fn ((t,b9 cs)::fr) (fi hp k ⟨ty,true,.dead⟩)) a W:=by
  intro ρ' bZ himm gi hheap kU hmark hhas;have hle:ρ.Le ρ':=⟨λj y hy=>by rw[bZ];exact hy,himm⟩;refine⟨ρ',⟨hext.le.trans hle,λb o hb=>(gi b o hb).elim (λh=>hext.aW b o h) .inr,λj hj=>by rw[bZ];exact hext.fix j hj⟩,λj hj=> ?_,{defers:= ?_,size:=hR.size,fr:= ?_,bE:=hR.bE,hp:= ?_}⟩
  ·have:=hfx j hj;simp only[fn,LV.blk,bS]at this ⊢;split
   ·simp
   ·exact this
  ·obtain⟨Ds,d1,d2,d3⟩:=hR.defers;refine⟨Ds,d1,d2,λD hD=> ?_⟩;obtain⟨e1,e2,e3⟩:=d3 D hD;refine⟨e1,e2, ?_⟩;exact hmark D e2 e3
  ·intro u sv hu;simp only[fn,LV.sv,lk]at hu;cases hb:ϋ t u with
   |true=>
    rw[hb]at hu;simp only[κ]at hu;subst hu;rw[<-χ hb];exact hhas
   |false=>rw[hb]at hu;exact Has.mono hle _ _ (hR.fr u sv (by simp only[fn,LV.sv];exact hu))
  ·constructor
   ·intro j b hb;rcases fX j b hb with⟨rfl,rfl⟩|⟨hj,hb⟩
    ·exact .inl rfl
    ·rcases hR.hp.blk j b hb with g0|⟨b',t',vs,ex,g1,g2,g3,g4⟩|⟨g1,g2⟩
     ·exact .inl g0
     ·exact .inr (.inl ⟨b',t',vs,ex,by rw[bZ];exact g1,g2,g3.mono hle,g4⟩)
     ·exact .inr (.inr ⟨by rw[bZ];exact g1,g2⟩)
   ·intro j j' y y' b b' hy IU a8 hyy hb ie iT iD;rw[bZ]at hy IU;rcases fX j b hb with⟨_,rfl⟩|⟨_,hb⟩
    ·cases iT
    rcases fX j' b' ie with⟨_,rfl⟩|⟨_,ie⟩
    ·cases iD
    exact hR.hp.sep j j' y y' b b' hy IU a8 hyy hb ie iT iD
   ·intro j b y hb hwr iT hy;rw[bZ]at hy;rcases fX j b hb with⟨_,rfl⟩|⟨_,hb⟩
    ·cases iT
    exact hR.hp.own j b y hb hwr iT hy
   ·intro j y hy;rw[bZ]at hy;obtain⟨b,hb⟩:=hR.hp.wW j y hy;simp only[fn,LV.blk,bS]at hb ⊢;split
    ·exact⟨_,rfl⟩
    ·exact⟨b,hb⟩
   ·exact hheap
   ·intro j b y hb hwr iT hy;rw[bZ]at hy;rcases fX j b hb with⟨_,rfl⟩|⟨hj,hb⟩
    ·cases iT
    exact kU j b y hj hb hwr iT hy
 simp only[aI]at hx;obtain⟨b,t',h1,rfl⟩:=hx;rcases hR.hp.blk k _ FN with g0|⟨b',t'',vs,ex,g1,g2,g3,g4,g5⟩|⟨g1,_⟩
 ·cases g0
 ·rw[h1]at g1;cases g1;rw[Data.cK rfl]at g2;have h2:W.heap[b]? =some (.cells (vs++ex).toArray ty (0,0)):=g2;simp only[df]at g3;obtain⟨z,z1,rfl⟩:=g3;have hB:E.w0.heap.size<=b:=(hR.hp.own k _ _ FN rfl hl h1).resolve_right (hW _);obtain⟨u,zL⟩:=(Up.refl ρ W E.w0.heap.size).add hR.hp.aW hB h2;refine fin ⟨ρ.key,_,u.cA⟩ rfl u.le (λb o hb=>(u.new b o hb).imp id (λh=>h.1)) (λc p hc=> ?_) (λj blk y hj hb hwr iT hy=> ?_) (λD O7 hD2=> ?_) ?_
  ·rcases u.new c p hc with h|h
   ·exact hR.hp.aW c p h
   ·exact h.2
  ·show(if y.1=b then some _ else ρ.aW y.1)=none;rw[if_neg]
   ·exact hR.hp.fB j blk y hb hwr iT hy
   ·intro he2;have:=hR.hp.sep k j (b,t') y _ _ h1 hy (λh=>hj h.symm) he2.symm FN hb hl iT;cases this
  ·show(if D=b then some _ else ρ.aW D)=none;rw[if_neg,hD2];rintro rfl;rw[O7]at h2;cases h2
  ·rw[hxv];have hz:aw (cW (λx=>if x=b then some (.cells (z.flatten++ex).toArray ty (0,0))else ρ.aW x) u.cA) cs z:=cx (ρ:=ρ) u.le cs z ph z1;refine vo ⟨b,z,[],ex,ty,(0,0),if_pos rfl,hz, ?_⟩;simp[cV,SV.aZ]
 ·rw[h1]at g1;cases g1
theorem Bu {E:Env} {ops:Array Oper} {l2:List Oper} {Q:Exit->Act->World->Prop}:∀(l:List Oper) (fr:List (Nat×SV)) (hp:List (Nat×aC)) (recs:List Rec) (fr':List (Nat×SV)) (cl:List (Nat×aC)),IW E ops l fr hp recs fr' cl->
  (∀a w,RR E (fn fr' cl) a w->wpListIn (Ku E.ro) 0 E.P ops Q l2 a w)->∀a w,RR E (fn fr hp) a w->wpListIn (Ku E.ro) 0 E.P ops Q (l++l2) a w
 |[],fr,hp,recs,fr',cl,h,hQ,a,w,hR=>by
  obtain⟨_,rfl,rfl⟩:=h;exact hQ a w hR
 |o::l,fr,hp,recs,fr',cl,h,hQ,a,w,hR=>by
  obtain⟨rc,rest,rfl,_,_,_,⟨_,_,hs⟩,h2⟩:=h;have ih:=Bu l _ _ _ _ _ h2 hQ;have:=hs (fn fr hp) (λ_ _=>rfl) (λ_ _=>rfl) a w hR;rw[List.cons_append];unfold wpListIn;split
  ·rename_i hw;rw[if_pos hw]at this;refine w7 (rP ?_ this);intro a' w' lN;rw[zP]at lN;exact ih a' w' lN
  ·rename_i hw;rw[if_neg hw,zP]at this;exact⟨λ_ _=>trivial,ih _ _ this⟩
theorem zo {E:Env} (hE:E.OK) (n:Nat) {id:Nat} {ops:Array Oper} {K:bF} {fr:List (Nat×SV)} {hp:List (Nat×aC)}
  (h:lex E ops.toList (ops.toList.take n) fr hp [] λfr1 hp1 _=>∃fr2 hp2,(∀a w,RR E (fn fr1 hp1) a w->RR E (fn fr2 hp2) a w)/\lex E ops.toList (ops.toList.drop n) fr2 hp2 [] λfr3 hp3 _=>K .normal fr3 hp3):dY E (.region id ops false) K fr hp:=⟨by
 intro a w hR;obtain⟨recs,fr1,hp1,h1,fr2,hp2,hRR,h2⟩:=vq hE.FK _ _ _ _ h;obtain⟨recs2,fr3,hp3,h3,h4⟩:=vq hE.FK _ _ _ _ h2;have e2:=xd (Q:=xY E K) _ _ _ _ _ _ h3 (λa w hR=>⟨fr3,hp3,h4,hR⟩);have e1:=Bu (Q:=xY E K) (l2:=ops.toList.drop n) _ _ _ _ _ _ h1 (λa w hR=>by simpa using e2 a w (hRR a w hR)) a w hR;rw[List.take_append_drop]at e1
 exact wpIn_region_list (by simpa using e1)⟩
end Go.Sx
namespace Go.Sx
theorem Bv {P:Program} {T:List (TypeId×TI)} {Z:List Nat} (hT:dz P T) (hm:P.follows .mixedOrders=true) {f:FuncId} {fn':Func} {code:Code} (hf:P.funcs[f]? =some fn') (hb:fn'.body=some code)
  (hn:(fn'.name== "runtime.NumGoroutine")=false) {args:List SV} {fk:List (Nat×aC)} {c:SV} {new upd:List (Nat×aC)} (hs:jz args fk c new upd) (hnt:Nat.ble args.length fn'.ntmps=true) (hσ:bl fk new λk=>k)
  (h:∀W0 w0 ρ0,Env.OK ⟨P,T,W0,w0,fn'.ntmps,ρ0,az fk,Z,none⟩->Ee ⟨P,T,W0,w0,fn'.ntmps,ρ0,az fk,Z,none⟩ code (N9 T fn'.results.toList (Fin c new upd)) (enum 0 args) fk):
  aL P f args fk c new upd:=by
 have:=acd hT hm hf hb hn hs hnt (λk=>k) hσ h;rwa [mg,sI,E9,sI new,sI upd]at this
theorem bl.id {fk new:List (Nat×aC)} (h:qW (az fk++az new)=true):bl fk new λk=>k:=
 ⟨λ_ _ _ _ _ _ h _=>h,λ_ _ _ _ h=>h,λm q hm hq e=>(ae0.1 (nM h)).2.2 q hq m hm e.symm⟩
end Go.Sx
namespace Go.Proofs.YtadphegfhgmgmaaGreatDoor
open Go.Sx
theorem yn {w:Mx} {k:Nat}:∀{m i j:Nat},i<=j->j<i+m->(∀a,i<=a->a<j->w a k=0)->w j k≠0->jE w k m i=some j
 |0,i,j,h1,h2,_,_=>aa
 |m+1,i,j,h1,h2,h3,h4=>by
  rw[jE];by_cases e:i=j
  ·rw[e,if_neg h4]
  ·rw[if_pos (h3 i (ζ _) aa)];exact yn aa aa (λa ha hb=>h3 a aa hb) h4
theorem Bw {w:Mx} {k:Nat}:∀{m i:Nat},(∀a,i<=a->a<i+m->w a k=0)->jE w k m i=none
 |0,i,_=>rfl
 |m+1,i,h=>by
  rw[jE,if_pos (h i (ζ _) aa)];exact Bw λa ha hb=>h a aa aa
def iB (r:Nat) (s:St) (k:Nat):St:=
 match jE s.w k (r - s.bP.length) s.bP.length with
 |none=>s
 |some i=>⟨wC (aP s.w i s.bP.length) s.bP.length k r,s.bP++[k],(if i=s.bP.length then s.d else - s.d)*aP s.w i s.bP.length s.bP.length k⟩
def ni (r c:Nat) (s:St):St:=(List.range c).foldl (iB r) s
theorem p6 (r c:Nat) (s:St):ni r (c+1) s=iB r (ni r c s) c:=by
 rw[ni,List.range_succ,List.foldl_append];rfl
theorem J0 {r i p:Nat} {w v:Mx} (h:∀a,a<r->w a=v a) (hi:i<r) (hp:p<r):∀a,a<r->aP w i p a=aP v i p a:=by
 intro a ha;unfold aP;by_cases e:a=i
 ·rw[if_pos e,if_pos e];exact h p hp
 ·rw[if_neg e,if_neg e];by_cases g:a=p
  ·rw[if_pos g,if_pos g];exact h i hi
  ·rw[if_neg g,if_neg g];exact h a ha
theorem Bx {k r:Nat} {w v:Mx} (h:∀a,a<r->w a=v a):∀{m i:Nat},i+m<=r->jE w k m i=jE v k m i
 |0,_,_=>rfl
 |m+1,i,hm=>by
  rw[jE,jE,h i aa,Bx h (i:=i+1) aa]
structure LS (r:Nat) (s t:St):Prop where
 bP:s.bP=t.bP
 d:s.d=t.d
 w:∀a,a<r->s.w a=t.w a
 le:s.bP.length<=r
theorem J1 {r k:Nat} {s t:St} (h:LS r s t):LS r (iB r s k) (sh r t k):=by
 obtain⟨sw,sp,sd⟩:=s;obtain⟨tw,tp,td⟩:=t;obtain⟨rfl,rfl,hw,hl⟩:=h;simp only at hw hl;unfold iB sh;simp only;rw[Bx hw aa];cases hq:jE tw k (r - sp.length) sp.length with
 |none=>exact⟨rfl,rfl,hw,hl⟩
 |some i=>
  have hs:=sf hq;have hi:i<r:=aa;have hp:sp.length<r:=aa;have hsw:=J0 hw hi hp;refine⟨rfl, ?_,λa ha=> ?_, ?_⟩
  ·show _*_=_*_;rw[hsw _ hp]
  ·show wC (aP sw i sp.length) sp.length k r a=ib (aP tw i sp.length) sp.length k a;rw[WT _ ha];funext q;unfold ib;rw[hsw a ha,hsw _ hp]
  ·show(sp++[k]).length<=r;rw[ξ];simp;omega
theorem jf (r:Nat) (w:Mx):∀c,LS r (ni r c ⟨w,[],1⟩) (ry r c ⟨w,[],1⟩)
 |0=>⟨rfl,rfl,λ_ _=>rfl,Nat.zero_le _⟩
 |c+1=>by rw[p6,xk];exact J1 (jf r w c)
structure Zi (r c A:Nat) (s:St):Prop where
 w:∀a q,a<r->q<c->fs (s.w a q)<=4^s.bP.length*A
 d:fs s.d<=4^s.bP.length*A
theorem HG {r c i p B:Nat} {w:Mx} (h:∀a q,a<r->q<c->fs (w a q)<=B) (hi:i<r) (hp:p<r):∀a q,a<r->q<c->fs (aP w i p a q)<=B:=by
 intro a q ha hq;unfold aP;by_cases e:a=i
 ·rw[if_pos e];exact h p q hp hq
 ·rw[if_neg e];by_cases g:a=p
  ·rw[if_pos g];exact h i q hi hq
  ·rw[if_neg g];exact h a q ha hq
theorem Zi.step {r c A k i:Nat} {sw:Mx} {sp:List Nat} {sd:Rat} (h:Zi r c A ⟨sw,sp,sd⟩) (hk:k<c) (hi:i<r) (hp:sp.length<r):Zi r c A ⟨wC (aP sw i sp.length) sp.length k r,sp++[k],(if i=sp.length then sd else - sd)*aP sw i sp.length sp.length k⟩:=by
 obtain⟨h1,h2⟩:=h;simp only at h1 h2;have hs:=HG h1 hi hp;have hl:(sp++[k]).length=sp.length+1:=by simp
 have h4:4^(sp.length+1)*A=4*(4^sp.length*A):=by rw[Nat.pow_succ,Nat.mul_comm (4^_) 4,Nat.mul_assoc]
 generalize 4^sp.length*A=B at h1 h2 hs h4;refine⟨λa q ha hq=> ?_, ?_⟩
 ·simp only;rw[hl,h4];have a1:=hs _ q hp hq;have a2:=hs _ k hp hk;have a3:=hs a q ha hq;have a4:=hs a k ha hk;unfold wC;have b1:=rl (aP sw i sp.length sp.length q) (aP sw i sp.length sp.length k);by_cases e:a=sp.length
  ·rw[if_pos e];omega
  ·rw[if_neg e,if_pos ha];have b2:=cH (aP sw i sp.length a k) (aP sw i sp.length sp.length q/aP sw i sp.length sp.length k);have b3:=rh (aP sw i sp.length a q) (aP sw i sp.length a k*(aP sw i sp.length sp.length q/aP sw i sp.length sp.length k));omega
 ·simp only;rw[hl,h4];have a2:=hs _ k hp hk;have b1:=cH (if i=sp.length then sd else - sd) (aP sw i sp.length sp.length k);have b2:fs (if i=sp.length then sd else - sd)=fs sd:=by split<;>simp[ju]
  omega
theorem ND {r k i:Nat} {sw:Mx} {sp:List Nat} {sd:Rat} (h1:sp.length<=i) (h2:i<r) (h3:∀a,sp.length<=a->a<i->sw a k=0) (h4:sw i k≠0):
  iB r ⟨sw,sp,sd⟩ k=⟨wC (aP sw i sp.length) sp.length k r,sp++[k],(if i=sp.length then sd else - sd)*aP sw i sp.length sp.length k⟩:=by
 unfold iB;simp only;rw[yn h1 aa h3 h4]
theorem NF {r k:Nat} {sw:Mx} {sp:List Nat} {sd:Rat} (hl:sp.length<=r) (h:∀a,sp.length<=a->a<r->sw a k=0):iB r ⟨sw,sp,sd⟩ k=⟨sw,sp,sd⟩:=by
 unfold iB;simp only;rw[Bw λa ha hb=>h a ha aa]
end Go.Proofs.YtadphegfhgmgmaaGreatDoor
namespace Go.Sx
structure R1 (ρ:bY) (s:Nat) (cs:List SV) (z:List (List Value)):Prop where
 has:aw ρ cs z
 wid:∀c∈cs,c.width=s
theorem aw.each {ρ:bY} {s:Nat}:∀{cs:List SV} {z:List (List Value)},aw ρ cs z->(∀c∈cs,c.width=s)->∀u∈z,u.length=s/\∀v∈u,v.oneCell'=true
 |[],z,h,_,u,hu=>by simp only[aw]at h;subst h;cases hu
 |c::l,z,h,hw,u,hu=>by
  simp only[aw]at h;obtain⟨x,r,rfl,h1,h2⟩:=h;rcases List.mem_cons.1 hu with rfl|hu
  ·have:=aI.len c _ h1;rw[hw c (η ..)]at this;exact this
  ·exact aw.each h2 (λd hd=>hw d (List.mem_cons_of_mem _ hd)) u hu
theorem R1.len {ρ:bY} {s:Nat} {cs:List SV} {z:List (List Value)} (h:R1 ρ s cs z):z.length=cs.length/\∀u∈z,u.length=s:=⟨da h.has,λu hu=>(h.has.each h.wid u hu).1⟩
theorem R1.zA {ρ:bY} {s:Nat} {cs:List SV} {z:List (List Value)} (h:R1 ρ s cs z):∀u∈z,∀v∈u,v.oneCell'=true:=λu hu=>(h.has.each h.wid u hu).2
theorem R1.data {ρ:bY} {s:Nat} {cs:List SV} {z:List (List Value)} (h:R1 ρ s cs z):df ρ (.one cs) z.flatten:=⟨z,h.has,rfl⟩
theorem R1.eS {ρ:bY} {s:Nat} {cs:List SV} {z:List (List Value)} (_:R1 ρ s cs z):(Data.one cs).qH=false:=rfl
theorem R1.app {ρ:bY} {s n i m:Nat} {cs cs2:List SV} {z z2:List (List Value)} (h:R1 ρ s cs z) (h2:R1 ρ s cs2 z2) (hn:n=cs.length) (hi:i=0) (hm:m=cs2.length):R1 ρ s (cs++cs2) (z.take n++(z2.drop i).take m):=by
 rw[hn,<-h.len.1,adi,hi,afg,hm,<-h2.len.1,adi];exact⟨c9 h.has h2.has,λc hc=>(ϖ.1 hc).elim (h.wid c) (h2.wid c)⟩
theorem Dw {ρ:bY} {w:World} {k s:Nat} {ty:TypeId} {wr:Bool} {cs:List SV} (hb:jl ρ w k ⟨ty,wr,.one cs⟩) (hw:qO s cs=true):
  ∃z,R1 ρ s cs z/\((∃b t ex,ρ.key k=some (b,t)/\w.heap[b]? =some (.cells (z.flatten++ex).toArray ty (0,0))/\(z.flatten++ex).length=t/\(∀v∈ex,v.oneCell'=true))\/(ρ.key k=none/\z=[])):=by
 rcases hb with h0|⟨b,t,vs,ex,h1,h2,h3,h4,h5⟩|⟨_,h2⟩
 ·cases h0
 ·obtain⟨z,hz,rfl⟩:=h3;exact⟨z,⟨hz,mq hw⟩,.inl ⟨b,t,ex,h1,by rw[h2,Data.cK rfl],h4,h5⟩⟩
 ·exact h2.elim
theorem uX {P:Program} {cs:List SV} {ty:TypeId} {wr:Bool} {ρ:bY} {w:World} {k s i n:Nat} {v:Value} (hv:Has ρ (.aM k s i n) v) (hb:jl ρ w k ⟨ty,wr,.one cs⟩) (hw:qO s cs=true) (oy:i+n<=cs.length):
  ∃z,R1 ρ s cs z/\(∀w',(∀b,b<w.heap.size->w'.heap[b]? =w.heap[b]?)->(Ω s n v).run P w'= .ok (((z.drop i).take n).flatten).toArray w')/\ahl v=ajP n:=by
 obtain⟨z,hz,hcase⟩:=Dw hb hw;obtain⟨zl,zw⟩:=hz.len;refine⟨z,hz, ?_⟩;rcases gN hv with⟨b,t,cap,e1,e2,e3,rfl⟩|⟨rfl,a,rfl⟩
 ·rcases hcase with⟨b',t',ex,h1,h2,h3,h4⟩|⟨h1,_⟩
  ·rw[e1]at h1;cases h1;refine⟨λw' B6=> ?_,rfl⟩;have vj:b<w.heap.size:=by
    rcases Ϝ b w.heap.size with h'|h'
    ·exact h'
    ·simp[ϴ h']at h2
   have hh:w'.heap[b]? =some (.cells (z.flatten++ex).toArray ty (0,0)):=by rw[B6 b vj];exact h2
   have zI:((z.drop i).take n).flatten=(z.flatten.drop (i*s)).take (n*s):=by
    rw[cL (s:=s) _ _ (λu hu=>zw u (Ψ hu)),gO (s:=s) _ _ zw]
   have hlen:(((z.drop i).take n).flatten).length=n*s:=by
    rw[aO (s:=s) _ (λu hu=>zw u (Ψ (Θ hu))),ψ,ϗ];congr 1;omega
   refine run_firstCells_some (P:=P) w' s n _ n cap _ hlen ?_;intro j u hj;have hZ:(⟨b,i*s,none⟩:Addr).add j=⟨b,i*s+j,none⟩:=by unfold Addr.add;split<;>simp_all
   rw[hZ,cell_of_row w' b (i*s+j) _ ty (0,0) hh];have h6:=nI zI j u hj;have aE:i*s+j<z.flatten.length:=(Ϩ.1 h6).1;simp only[ό];rw[ϳ aE];exact h6
  ·rw[e1]at h1;cases h1
 ·refine⟨λw' _=> ?_,rfl⟩;cases a with
  |none=>simp[Ω]
  |some a=>simp[Ω,loadCells,loadCellsFrom]
theorem By {P:Program} {o:Oper} {fr:List (Nat×SV)} {fk:List (Nat×aC)} {t t2 e:TypeId} {x y:Operand} {xs:Array Operand} {ts:Array TypeId} {ti IE te:TI} {k k2 kn n i2 m:Nat} {cs cs2:List SV} {ty2:TypeId} {wr2:Bool} (ho:o.op= .call ⟨.builtin .append,xs,ts⟩) (hxs:xs= #[x,y]) (po:ts= #[t,t2])
  (hx:bg fr x (.aM k te.size 0 n)) (hy:bg fr y (.aM k2 te.size i2 m)) (ht:b6 P t ti) (hk:ti.kind= .aM e) (FI:b6 P t2 IE) (KA:IE.kind= .aM e) (he:b6 P e te)
  (hf:(k,⟨e,true,.one cs⟩)∈fk) (KC:(k2,⟨ty2,wr2,.one cs2⟩)∈fk) (UO:qO te.size cs=true) (pq:qO te.size cs2=true) (jh:0<m) (YI:i2=0)
  (hn:n=cs.length) (hm:m=cs2.length) (hbytes:(n+m)*te.bytes<=140737488355328) (h63:n+m<=9223372036854775807):
  bR P o fr fk (.aM kn te.size 0 (n+m)) [(kn,⟨e,true,.one (cs++cs2)⟩)] [(k,⟨e,true,.dead⟩)]:=
 dU λρ a w hp=>by
  have Gb:=hx ρ a hp.dR;have ML:=hy ρ a hp.dR;obtain⟨i,zv,i1,i2',i3,i4,i5,i6,i7,_⟩:=he.info;have hu:=ht.kind;rw[hk]at hu;have B7:=FI.kind;rw[KA]at B7;obtain⟨z,hz,Z0⟩:=Dw (hp.oq k _ hf) UO;obtain⟨z2,nu,gw,eg⟩:=uX (P:=P) ML (hp.oq k2 _ KC) pq aa;obtain⟨zl,zw⟩:=hz.len;obtain⟨zl2,zw2⟩:=nu.len;have ct:=hz.app nu hn YI hm;have dN:=hp.fresh kn _ (η ..);have jn:∀u∈(z2.drop i2).take m,u.length=te.size:=λu hu=>zw2 u (Ψ (Θ hu))
  have ij:((z2.drop i2).take m).length=m:=by rw[ψ,ϗ];omega
  have qP:(((z2.drop i2).take m).flatten).length=m*te.size:=by rw[aO _ jn,ij]
  have kU:∀u∈(((z2.drop i2).take m).flatten),u.oneCell'=true:=λu hu=>by
   obtain⟨q,hq,hu⟩:=afQ.1 hu;exact nu.zA q (Ψ (Θ hq)) u hu
  have gr:∀v w',(abn ts o.type #[a.eval x,a.eval y]).run P w= .ok v w'->(execOp a.eval o).run P w= .ok (.value v) w':=by
   intro v w' h;simp only[execOp,ho,resolve,invoke,builtin,hxs,Β,Ε,ν,aie,ϲ,af6];rw[h];rfl
  have D3:∀v∈zv.cells.toList,v.oneCell'=true:=by
   have h1:=(aw.len (ρ:=ρ) te.zero _ (eE i6)).2;rw[i5,ϸ];exact h1
  have D4:¬((n+m:Nat):Int)>ε.max:=by
   have:ε.max=9223372036854775807:=ax;omega
  have grow:∀(base:Option Addr) (cap:Nat),a.eval x= .slice base n cap->cap<n+m->(∀w',(∀b,b<w.heap.size->w'.heap[b]? =w.heap[b]?)->(Ω te.size n (.slice base n cap)).run P w'= .ok ((z.take n).flatten).toArray w')->
    ∃v w' ρ',(execOp a.eval o).run P w= .ok (.value v) w'/\kN ρ w (.aM kn te.size 0 (n+m)) [(kn,⟨e,true,.one (cs++cs2)⟩)] [(k,⟨e,true,.dead⟩)] v ρ' w':=by
   intro base cap hbx hcap hfirst;have zJ:¬aif (n+m) cap*i.bytes>2^48:=by
    have:=growslice_fits (bytes:=te.bytes) hcap hbytes;rw[i3];simpa using this
   have UY:n+m<=grownCap w (n+m) cap e:=by
    simp only[grownCap,ajp];omega
   have cq:=kR (hL:=ct.eS) (ρ:=ρ) (w:=w.drew) (k:=kn) (s:=te.size) (n:=n+m) (cap:=grownCap w (n+m) cap e) (ty:=e) (d:=.one (cs++cs2)) (vs:=(z.take n++(z2.drop i2).take m).flatten) (ex:=(Τ zv.cells (grownCap w (n+m) cap e - (n+m))).toList) dN ct.data UY
    (by
     have h1:((z.take n++(z2.drop i2).take m).flatten).length=(n+m)*te.size:=by
      rw[aO (s:=te.size) _ (λu hu=>(ϖ.1 hu).elim (λh=>zw u (Θ h)) (jn u)),ξ,ij,ψ];congr 1;omega
     rw[ξ,h1,ϭ];have h2:(Τ zv.cells (grownCap w (n+m) cap e - (n+m))).size=(grownCap w (n+m) cap e - (n+m))*te.size:=by simp[Τ,i7]
     rw[h2,<-gx,show n+m+(grownCap w (n+m) cap e - (n+m))=grownCap w (n+m) cap e from by omega]
     exact ζ _) (ig D3 _)
   refine⟨_,_,_,gr _ _ ?_,{cq with
    bE:=⟨cq.bE.os,cq.bE.tape,cq.bE.output,cq.bE.size,λb hb hn=>cq.bE.block b hb (λhh=>by obtain⟨_,_,_,hh,_⟩:=hh;cases hh)⟩
    blk:=λj b hj=>by
     rcases hj with hj|hj
     ·simp only[μ,ς]at hj;obtain⟨rfl,rfl⟩:=hj;exact .inl rfl
     ·exact cq.blk j b (.inr hj)
    once:=λj b b' h1 h2 h3 h4=>by
     simp only[μ,ς]at h1 h2;rw[h2.2]at h4;cases h4
    B0:=λj b q hj hq=>.inl ((cq.B0 j b q hj hq).elim id (λhh=>by obtain⟨_,_,_,hh,_⟩:=hh;cases hh))}⟩
   have Cy:(if false=true then(ajP 0:Sem Nat)else ahl (a.eval y)).run P w= .ok m w:=by rw[eg];rfl
   have vk:¬n+m<=cap:=aa;have hnb:(w.drew).heap=w.heap:=rfl;have Cz:=hfirst w.drew (λb _=>rfl);have wY:=gw w.drew (λb _=>rfl);simp only[abn,po,hbx,ό,ϑ,ϥ,Β,run_underlying hu,run_underlying B7,ν,he.sizeOf,Ε,Κ,if_false,eg];have vl:∀w',(typeInfo e).run P w'= .ok i w':=λw'=>by simp[typeInfo,i1]
   have DY:∀w',(abc e).run P w'= .ok zv w':=λw'=>by simp[abc,typeInfo,i1,i4]
   have vm:¬(((n+m:Nat):Int)>ε.max/\(False\/i.bytes=0)):=λh=>D4 h.1
   have lU:(aik (n+m) cap e).forced=false:=rfl;simp only[vk,if_false,Β,vl,ν,vm,zJ,run_choose,lU,Κ,ajS,run_askRoom,Cz,acP,if_true,wY,DY,newRow,run_newObj,Ε,aeE];have jL:((z.take n).flatten.toArray++((z2.drop i2).take m).flatten.toArray++Τ zv.cells (grownCap w (n+m) cap e - (n+m)))=((z.take n++(z2.drop i2).take m).flatten++(Τ zv.cells (grownCap w (n+m) cap e - (n+m))).toList).toArray:=by
    apply ac0;simp
   show ak2 (aky (some ⟨w.drew.heap.size,0,none⟩) (n+m) (grownCap w (n+m) cap e)) (w.drew.alloc (.cells ((z.take n).flatten.toArray++((z2.drop i2).take m).flatten.toArray++Τ zv.cells (grownCap w (n+m) cap e - (n+m))) e))=_;rw[jL]
  rcases gN Gb with⟨b,tt,cap,e1,e2,e3,e4⟩|⟨rfl,ad,e4⟩
  ·rcases Z0 with⟨b',tt',ex,c1,c2,c3,c4⟩|⟨c1,_⟩
   ·rw[e1]at c1;cases c1;rcases Ϝ cap (n+m)with aE|KD
    ·refine grow _ cap e4 aE ?_;obtain⟨z3,hz3,hrun3,_⟩:=uX (P:=P) Gb (hp.oq k _ hf) UO aa;intro w' B6
     have h0:=run_firstCells_some (P:=P) w' te.size n ⟨b,0*te.size,none⟩ n cap ((z.take n).flatten) (by
      rw[aO (s:=te.size) _ (λu hu=>zw u (Θ hu)),ψ];congr 1;omega) (by
      intro j u hj;have vj:b<w.heap.size:=by
       rcases Ϝ b w.heap.size with h'|h'
       ·exact h'
       ·simp[ϴ h']at c2
      have hh:w'.heap[b]? =some (.cells (z.flatten++ex).toArray e (0,0)):=by rw[B6 b vj];exact c2
      have hZ:(⟨b,0*te.size,none⟩:Addr).add j=⟨b,j,none⟩:=mr b te.size j;rw[hZ,cell_of_row w' b j _ e (0,0) hh];rw[cL (s:=te.size) _ _ zw]at hj;have h6:z.flatten[j]? =some u:=by
       rw[ahL]at hj;split at hj
       ·exact hj
       ·cases hj
      have MN:j<z.flatten.length:=(Ϩ.1 h6).1;simp only[ό];rw[ϳ MN]
      exact h6)
     exact h0
    ·-- in place
     have vj:b<w.heap.size:=by
      rcases Ϝ b w.heap.size with h'|h'
      ·exact h'
      ·simp[ϴ h']at c2
     have wY:=gw w (λb _=>rfl);have xV:0*te.size+n*te.size+(((z2.drop i2).take m).flatten).length<=(z.flatten++ex).length:=by
      rw[qP,c3,Nat.zero_mul,υ,<-gx];exact Nat.le_trans (ο _ KD) (by simpa using e3)
     have Ky:=run_storeCells_at (P:=P) b (n*te.size) e (((z2.drop i2).take m).flatten) 0 (z.flatten++ex).toArray w c2 (by simp only[af5];simpa using xV) kU;have hZ:(⟨b,0*te.size,none⟩:Addr).add (n*te.size)=⟨b,n*te.size,none⟩:=mr b te.size _
     have fP:((z.flatten++ex).take (n*te.size+0)++(((z2.drop i2).take m).flatten)++(z.flatten++ex).drop (n*te.size+0+(((z2.drop i2).take m).flatten).length))=
       (z.take n++(z2.drop i2).take m).flatten++(z.flatten++ex).drop (n*te.size+m*te.size):=by
      rw[abC,qP,ϝ,cL (s:=te.size) _ _ zw,adn (by rw[aO (s:=te.size) _ zw];exact ο _ aa)]
     rw[fP]at Ky
     let ρ':bY:=⟨λj=>if j=kn then some (b,tt)else ρ.key j,ρ.aW,ρ.cA⟩
     have hle:ρ.Le ρ':=⟨λj q hq=>by
      show(if j=kn then _ else _)=_;by_cases hj:j=kn
      ·subst hj;rw[dN]at hq;cases hq
      ·rw[if_neg hj];exact hq,λb o hb=>hb⟩
     refine⟨.slice (some ⟨b,0*te.size,none⟩) (n+m) cap,w.setRow b ((z.take n++(z2.drop i2).take m).flatten++(z.flatten++ex).drop (n*te.size+m*te.size)).toArray,ρ',gr _ _ ?_, ?_⟩
     ·simp only[abn,po,e4,ό,ϑ,ϥ,Β,run_underlying hu,run_underlying B7,ν,he.sizeOf,Ε,Κ,if_false,eg,KD,if_true,acP,wY,hZ,Ky]
     ·refine⟨hle,iE (.inl ⟨b,tt,cap, ?_,KD,e3,rfl⟩), ?_,⟨rfl,rfl,rfl,by simp[ah9], ?_⟩, ?_, ?_, ?_, ?_,λb o hb=>.inl hb⟩
      ·show(if kn=kn then _ else _)=_;rw[if_pos rfl]
      ·intro j hj;show(if j=kn then _ else _)=_;rw[if_neg];rintro rfl;exact hj _ (η ..)
      ·intro q hq hnq;refine dh λZ1=>hnq ⟨k,_,tt,η .., ?_⟩
       rw[Z1];exact e1
      ·intro j bj hj;rcases hj with hj|hj
       ·simp only[μ,ς]at hj;obtain⟨rfl,rfl⟩:=hj;exact .inl rfl
       ·simp only[μ,ς]at hj;obtain⟨rfl,rfl⟩:=hj;refine .inr (.inl ⟨b,tt,_,(z.flatten++ex).drop (n*te.size+m*te.size), ?_,by rw[Data.cK ct.eS];exact dC c2,ct.data.mono hle, ?_, ?_⟩)
        ·show(if j=j then _ else _)=_;rw[if_pos rfl]
        ·have h1:((z.take n++(z2.drop i2).take m).flatten).length=(n+m)*te.size:=by
          rw[aO (s:=te.size) _ (λu hu=>(ϖ.1 hu).elim (λh=>zw u (Θ h)) (jn u)),ξ,ij,ψ];congr 1;omega
         rw[ξ,h1,ϗ,c3,gx];rw[qP,c3]at xV;omega
        ·intro u hu;have:=Ψ hu;rcases ϖ.1 this with h|h
         ·obtain⟨q,hq,hu'⟩:=afQ.1 h;exact hz.zA q hq u hu'
         ·exact c4 u h
      ·intro j c c' h1 h2 h3 h4;simp only[μ,ς]at h1 h2;rw[h2.2]at h4;cases h4
      ·intro j bj q hj hq;simp only[μ,ς]at hj;obtain⟨rfl,rfl⟩:=hj;have uA:(if j=j then some (b,tt)else ρ.key j)=some q:=hq;rw[if_pos rfl]at uA;cases uA;exact .inr ⟨k,_,tt,η ..,rfl,e1⟩
      ·intro j bj j' bj' q q' hj qm a8;simp only[μ,ς]at hj qm;exact absurd (hj.1.trans qm.1.symm) a8
   ·rw[e1]at c1;cases c1
  ·rcases acX m with rfl|Ux
   ·exact absurd jh (afU 0)
   ·refine grow ad 0 e4 aa ?_;intro w' _;cases ad with
    |none=>simp[Ω]
    |some q=>simp[Ω,loadCells,loadCellsFrom]
theorem yo {P:Program} {o:Oper} {fr:List (Nat×SV)} {fk:List (Nat×aC)} {t t2 e:TypeId} {x y:Operand} {xs:Array Operand} {ts:Array TypeId} {ti IE te:TI} {k2 kn i2 m:Nat} {cs2:List SV} {ty2:TypeId} {wr2:Bool} (ho:o.op= .call ⟨.builtin .append,xs,ts⟩) (hxs:xs= #[x,y]) (po:ts= #[t,t2])
  (hx:bg fr x (.val (.slice none 0 0))) (hy:bg fr y (.aM k2 te.size i2 m)) (ht:b6 P t ti) (hk:ti.kind= .aM e) (FI:b6 P t2 IE) (KA:IE.kind= .aM e) (he:b6 P e te)
  (KC:(k2,⟨ty2,wr2,.one cs2⟩)∈fk) (pq:qO te.size cs2=true) (jh:0<m) (YI:i2=0)
  (hm:m=cs2.length) (hbytes:m*te.bytes<=140737488355328) (h63:m<=9223372036854775807):
  bR P o fr fk (.aM kn te.size 0 m) [(kn,⟨e,true,.one cs2⟩)] []:=
 dU λρ a w hp=>by
  have Gb:=aK (hx ρ a hp.dR);have ML:=hy ρ a hp.dR;obtain⟨i,zv,i1,i2',i3,i4,i5,i6,i7,_⟩:=he.info;have hu:=ht.kind;rw[hk]at hu;have B7:=FI.kind;rw[KA]at B7;obtain⟨z2,nu,gw,eg⟩:=uX (P:=P) ML (hp.oq k2 _ KC) pq aa;obtain⟨zl2,zw2⟩:=nu.len;have ct:R1 ρ te.size cs2 ((z2.drop i2).take m):=by
   rw[YI,afg,hm,<-nu.len.1,adi];exact nu
  have dN:=hp.fresh kn _ (η ..);have jn:∀u∈(z2.drop i2).take m,u.length=te.size:=λu hu=>zw2 u (Ψ (Θ hu))
  have ij:((z2.drop i2).take m).length=m:=by rw[ψ,ϗ];omega
  have gr:∀v w',(abn ts o.type #[a.eval x,a.eval y]).run P w= .ok v w'->(execOp a.eval o).run P w= .ok (.value v) w':=by
   intro v w' h;simp only[execOp,ho,resolve,invoke,builtin,hxs,Β,Ε,ν,aie,ϲ,af6];rw[h];rfl
  have D3:∀v∈zv.cells.toList,v.oneCell'=true:=by
   have h1:=(aw.len (ρ:=ρ) te.zero _ (eE i6)).2;rw[i5,ϸ];exact h1
  rcases acX m with rfl|Ux
  ·exact absurd jh (afU 0)
  ·have D4:¬((0+m:Nat):Int)>ε.max:=by
    have:ε.max=9223372036854775807:=ax;omega
   have zJ:¬aif (0+m) 0*i.bytes>2^48:=by
    have:=growslice_fits (bytes:=te.bytes) (show 0<0+m by omega) (by rw[υ];exact hbytes);rw[i3];simpa using this
   have UY:m<=grownCap w (0+m) 0 e:=by
    simp only[grownCap,ajp];omega
   have cq:=kR (hL:=ct.eS) (ρ:=ρ) (w:=w.drew) (k:=kn) (s:=te.size) (n:=m) (cap:=grownCap w (0+m) 0 e) (ty:=e) (d:=.one cs2) (vs:=((z2.drop i2).take m).flatten) (ex:=(Τ zv.cells (grownCap w (0+m) 0 e - (0+m))).toList) dN ct.data UY
    (by
     have h1:(((z2.drop i2).take m).flatten).length=m*te.size:=by rw[aO (s:=te.size) _ jn,ij]
     rw[ξ,h1,ϭ];have h2:(Τ zv.cells (grownCap w (0+m) 0 e - (0+m))).size=(grownCap w (0+m) 0 e - (0+m))*te.size:=by simp[Τ,i7]
     rw[h2,<-gx,show m+(grownCap w (0+m) 0 e - (0+m))=grownCap w (0+m) 0 e from by omega]
     exact ζ _) (ig D3 _)
   refine⟨_,_,_,gr _ _ ?_,{cq with bE:=⟨cq.bE.os,cq.bE.tape,cq.bE.output,cq.bE.size,cq.bE.block⟩}⟩;have vk:¬0+m<=0:=aa;have wY:=gw w.drew (λb _=>rfl);have vl:∀w',(typeInfo e).run P w'= .ok i w':=λw'=>by simp[typeInfo,i1]
   have DY:∀w',(abc e).run P w'= .ok zv w':=λw'=>by simp[abc,typeInfo,i1,i4]
   have vm:¬(((0+m:Nat):Int)>ε.max/\(False\/i.bytes=0)):=λh=>D4 h.1
   have lU:(aik (0+m) 0 e).forced=false:=rfl;have Cz:∀w',(Ω te.size 0 (.slice none 0 0)).run P w'= .ok #[] w':=λw'=>by simp[Ω]
   simp only[abn,po,Gb,ό,ϑ,ϥ,Β,run_underlying hu,run_underlying B7,ν,he.sizeOf,Ε,Κ,if_false,eg];simp only[vk,if_false,Β,vl,ν,vm,zJ,run_choose,lU,Κ,ajS,run_askRoom,Cz,acP,if_true,wY,DY,newRow,run_newObj,Ε,aeE];have jL:((#[]:Array Value)++((z2.drop i2).take m).flatten.toArray++Τ zv.cells (grownCap w (0+m) 0 e - (0+m)))=(((z2.drop i2).take m).flatten++(Τ zv.cells (grownCap w (0+m) 0 e - (0+m))).toList).toArray:=by
    apply ac0;simp
   show ak2 (aky (some ⟨w.drew.heap.size,0,none⟩) (0+m) (grownCap w (0+m) 0 e)) (w.drew.alloc (.cells ((#[]:Array Value)++((z2.drop i2).take m).flatten.toArray++Τ zv.cells (grownCap w (0+m) 0 e - (0+m))) e))=_;rw[jL,υ]
theorem rI {P:Program} {o:Oper} {fr:List (Nat×SV)} {fk:List (Nat×aC)} {t e:TypeId} {len k:Nat} {parts:Array (Nat×Operand)} {ti te:TI} {ps:List (Nat×List SV)} {l:List SV} (ho:o.op= .buildSlice t len parts) (ht:b6 P t ti) (hk:ti.kind= .aM e) (he:b6 P e te)
  (FH:iF fr parts.toList=some ps) (hb:lH 64 (λi=>some (i*te.size,te.size)) (F9 len te.zero) ps=some l) (hw:qO te.size l=true) (D0:l.length=len) (gM:len*te.size<=16777216):
  bR P o fr fk (.aM k te.size 0 len) [(k,⟨e,true,.one l⟩)] []:=
 dU λρ a w hp=>by
  obtain⟨i,z,i1,i2,i3,i4,i5,i6,i7,_⟩:=he.info;have hu:=ht.kind;rw[hk]at hu;obtain⟨p1,p2⟩:=jK FH ρ a hp.dR;have Cy:=vi (eE (ρ:=ρ) i6) len;have Ga:(madeCells z.cells (len*te.size)).toList=((θ len (te.zero.map gj)).flatten).flatten:=by
   rw[gv z.cells te.size i7 len,i5];have:∀n,(θ n (te.zero.flatMap gj)).flatten=((θ n (te.zero.map gj)).flatten).flatten:=by
    intro n;induction n with
    |zero=>rfl
    |succ n ih=>rw[acT,acT,ϐ,ϐ,ϝ,<-ih,ϸ]
   exact this len
  obtain⟨L',z',e1,e2,e3⟩:=ow (ρ:=ρ) ps _ l (parts.toList.map λp=>(p.1,acV a p.2)) (madeCells z.cells (len*te.size)) _ hb Cy Ga p1 p2;have ct:R1 ρ te.size l z':=⟨e2,mq hw⟩;have hlen:=ct.len;have lI:(parts.map λ(i,x)=>(i,acV a x)).toList=parts.toList.map λp=>(p.1,acV a p.2):=by simp
  have Uw:L'=(z'.flatten++[]).toArray:=by rw[ϣ,<-e3]
  refine⟨_,_,_, ?_,kR (hL:=ct.eS) (ty:=e) (d:=.one l) (s:=te.size) (n:=len) (cap:=len) (vs:=z'.flatten) (ex:=[]) (hp.fresh k _ (η ..)) ct.data (ζ _) ?_ (by simp)⟩
  ·have OA:¬len*te.size>16777216:=aa;by_cases h0:len*te.size=0
   ·have hm:(aiC 0).map (λx=>(#[]:Array Value)[x % (#[]:Array Value).size]!)=madeCells z.cells (len*te.size):=by simp[h0,madeCells]
    simp only[execOp,ho,agn,Β,run_underlying hu,ν,he.sizeOf,h0,lI];rw[h0]at hm;simp only[ahy,Nat.not_lt_zero,gt_iff_lt,if_false,if_true,Β,Ε,ν,hm];rw[h0]at e1;simp only[e1,Β,newRow,run_newObj,Ε,ν,Uw,aeE]
   ·have hm:(aiC (len*te.size)).map (λx=>z.cells[x % z.cells.size]!)=madeCells z.cells (len*te.size):=rfl;have DY:(abc e).run P w= .ok z w:=by simp[abc,typeInfo,i1,i4]
    simp only[execOp,ho,agn,Β,run_underlying hu,ν,he.sizeOf,h0,lI,ahy,OA,if_false,DY,Ε,hm,e1,newRow,run_newObj,Uw,aeE]
  ·rw[ϣ,aO _ hlen.2,da e2,D0];exact ζ _
theorem HI {P:Program} {ρ:bY} {w:World} {s n:Nat} {vs:List SV} {d:Data} {v:Value} (hv:Has ρ (fh s vs) v) (himm:∀b o,ρ.aW b=some o->w.heap[b]? =some o)
  (hr:∀z,aw (cW ρ.aW ρ.cA) vs z->(∀x∈vs,x.width=s)->Rows ρ s d z) (hn:n=vs.length):
  ∃z,Rows ρ s d z/\(∀c,c<=n->(Ω s c v).run P w= .ok (((z.drop 0).take c).flatten).toArray w)/\ahl v=ajP n:=by
 subst hn;rcases vn hv with⟨rfl,a,rfl⟩|⟨b,cap,z,pre,ex,ty,fz,h1,h2,h3,h4,h5,h6⟩
 ·refine⟨[],hr [] (by simp only[aw]) (λx hx=>by cases hx),λc hc=> ?_,rfl⟩;obtain rfl:c=0:=by simpa using hc
  cases a with
  |none=>simp[Ω]
  |some a=>simp[Ω,loadCells,loadCellsFrom]
 ·have hzr:=hr z h2 h3;obtain⟨zl,zw⟩:=hzr.len;have rR:z.length=vs.length:=da h2;subst h6;refine⟨z,hzr,λc hc=> ?_,rfl⟩;have hh:=himm _ _ h1;rw[afg];have zI:(z.take c).flatten=z.flatten.take (c*s):=cL (s:=s) _ _ zw;have hlen:(z.take c).flatten.length=c*s:=by
   rw[aO (s:=s) _ (λu hu=>zw u (Θ hu)),ψ];congr 1;omega
  refine run_firstCells_some (P:=P) w s c _ vs.length cap _ hlen ?_;intro j u hj;have hZ:(⟨b,pre.length,none⟩:Addr).add j=⟨b,pre.length+j,none⟩:=by unfold Addr.add;split<;>simp_all
  rw[hZ,cell_of_row w b (pre.length+j) _ ty fz hh];rw[zI,ahL]at hj;split at hj
  ·have aE:j<z.flatten.length:=(Ϩ.1 hj).1;simp only[ό];rw[List.getElem?_append_right aa,Nat.add_sub_cancel_left,ϳ aE];exact hj
  ·cases hj
theorem RM {P:Program} {o:Oper} {fr:List (Nat×SV)} {fk:List (Nat×aC)} {t t2 e ty:TypeId} {x y:Operand} {xs:Array Operand} {ts:Array TypeId} {ti te:TI} {k i n m c:Nat} {d d' d2:Data} {vs:List SV} (ho:o.op= .call ⟨.builtin .copy,xs,ts⟩) (hxs:xs= #[x,y]) (po:ts= #[t,t2])
  (hx:bg fr x (.aM k te.size i n)) (hy:bg fr y (fh te.size vs)) (wY:∀(ρ:bY) z,aw (cW ρ.aW ρ.cA) vs z->(∀x∈vs,x.width=te.size)->Rows ρ te.size d2 z) (ht:b6 P t ti) (hk:ti.kind= .aM e) (he:b6 P e te)
  (hf:(k,⟨ty,true,d⟩)∈fk) (hl:d.live=true) (hw:dx d=some te.size)
  (hn:i+n<=gu d) (hmv:m=vs.length) (hm:0+m<=gu d2) (hc:c=Nat.min m n) (hd:x7 d i d2 0 c=some d'):
  bR P o fr fk (.val (.int .i64 (c:Nat))) [] [(k,⟨ty,true,d'⟩)]:=
 dU λρ a w hp=>by
  have Gb:=hx ρ a hp.dR;have ML:=hy ρ a hp.dR;have hu:=ht.kind;rw[hk]at hu;have hcm:c<=m:=hc▸Nat.min_le_left _ _;have hcn:c<=n:=hc▸Nat.min_le_right _ _;obtain⟨z2,nu,gw,eg⟩:=HI (P:=P) (d:=d2) ML hp.aW (wY ρ) hmv;have Gu:=gw c hcm;obtain⟨zl2,zw2⟩:=nu.len;have jn:∀u∈(z2.drop 0).take c,u.length=te.size:=λu hu=>zw2 u (Ψ (Θ hu))
  have ij:((z2.drop 0).take c).length=c:=by rw[ψ,ϗ];omega
  have gr:∀v w',(ahr ts o.type #[a.eval x,a.eval y]).run P w= .ok v w'->(execOp a.eval o).run P w= .ok (.value v) w':=by
   intro v w' h;simp only[execOp,ho,resolve,invoke,builtin,hxs,Β,Ε,ν,aie,ϲ,af6];rw[h];rfl
  have w9:∀v∈(((z2.drop 0).take c).flatten),v.oneCell'=true:=λu hu=>by
   obtain⟨q,hq,hu⟩:=afQ.1 hu;exact nu.zA q (Ψ (Θ hq)) u hu
  rcases gN Gb with⟨b,t',cap,e1,e2,e3,hv⟩|⟨rfl,a',hv⟩
  ·obtain⟨z,ex,hz,g1,g2,g3⟩:=KP (hp.oq k _ hf) hl hw e1;obtain⟨zl,zw⟩:=hz.len;simp only at zl;have ct:=(pE hd hz nu).1;have FF:(((z2.drop 0).take c).flatten).length=c*te.size:=by rw[aO _ jn,ij]
   have zJ:i*te.size+c*te.size<=(z.flatten++ex).length:=by
    have:=ο te.size (show i+c<=i+cap by omega);rw[gx]at this;omega
   have nv:=run_storeCells_at (P:=P) b (i*te.size) ty (((z2.drop 0).take c).flatten) 0 (z.flatten++ex).toArray w g1 (by simp only[af5];omega) w9;have rR:z.flatten.length=z.length*te.size:=aO _ zw;have aao:(i+c)*te.size<=z.flatten.length:=by
    rw[rR];exact ο _ aa
   have hiz:i*te.size<=z.flatten.length:=by
    rw[rR];exact ο _ aa
   have hL:(z.flatten++ex).take (i*te.size)++((z2.drop 0).take c).flatten++(z.flatten++ex).drop (i*te.size+(((z2.drop 0).take c).flatten).length)=(z.take i++((z2.drop 0).take c++z.drop (i+c))).flatten++ex:=by
    rw[FF,<-gx,adn hiz,List.drop_append_of_le_length aao,ϝ,ϝ,cL _ _ zw,gO _ _ zw];simp only[List.append_assoc]
   simp only[abC,hL]at nv;refine⟨goInt c,w.setRow b ((z.take i++((z2.drop 0).take c++z.drop (i+c))).flatten++ex).toArray,ρ,gr _ _ ?_, ?_⟩
   ·simp only[ahr,po,hv,ό,ϑ,ϥ,Β,run_underlying hu,ν,eg,Ε,he.sizeOf];rw[<-hc,Gu];simp only[ν,nv]
   ·refine⟨.refl ρ,ck rfl,λ_ _=>rfl,⟨rfl,rfl,rfl,by simp[ah9],λj hj hnj=> ?_⟩,λj bj hj=> ?_,(λj c1 c2 h1 h2 h3 h4=> ?_),(λ_ _ _ h=>by cases h),(λ_ _ _ _ _ _ h=>by cases h),λb o h=>.inl h⟩
    ·refine dh λX0=>hnj ⟨k,_,t',η .., ?_⟩
     rw[X0];exact e1
    ·rcases hj with hj|hj
     ·simp only[μ,ς]at hj;obtain⟨rfl,rfl⟩:=hj;refine .inr (.inl ⟨b,t',_,ex,e1,by rw[Data.cK ct.eS];exact dC g1,ct.data, ?_,g3⟩);rw[<-g2,ξ,ξ,aO _ ct.len.2,rR];congr 2;rw[ξ,ξ,ψ,ϗ,ij];omega
     ·cases hj
    ·simp only[μ,ς]at h1 h2;obtain⟨_,rfl⟩:=h1;obtain⟨_,rfl⟩:=h2;rw[h3]at h4;cases h4
  ·obtain rfl:c=0:=aa;obtain⟨z,hz,hcase⟩:=kT (hp.oq k _ hf) hl hw;have ct:=(pE hd hz nu).1;have CQ:z.take i++((z2.drop 0).take 0++z.drop (i+0))=z:=by simp
   rw[CQ]at ct;refine⟨goInt 0,w,ρ,gr _ _ ?_, ?_⟩
   ·simp only[ahr,po,hv,ό,ϑ,ϥ,Β,run_underlying hu,ν,eg,Ε,he.sizeOf];rw[<-hc,Gu];cases a' with
    |none=>simp[goInt]
    |some a'=>simp[goInt,storeCells]
   ·refine⟨.refl ρ,ck rfl,λ_ _=>rfl,.refl _ _,λj bj hj=> ?_,(λj c1 c2 h1 h2 h3 h4=> ?_),(λ_ _ _ h=>by cases h),(λ_ _ _ _ _ _ h=>by cases h),λb o h=>.inl h⟩
    ·rcases hj with hj|hj
     ·simp only[μ,ς]at hj;obtain⟨rfl,rfl⟩:=hj;rcases hcase with⟨b',t',ex,h1,h2,h3,h4⟩|⟨h1,h2⟩
      ·exact .inr (.inl ⟨b',t',_,ex,h1,by rw[Data.cK ct.eS];exact h2,ct.data,h3,h4⟩)
      ·refine .inr (.inr ⟨h1, ?_⟩);exact Gt ct (by rw[h2];rfl)
     ·cases hj
    ·simp only[μ,ς]at h1 h2;obtain⟨_,rfl⟩:=h1;obtain⟨_,rfl⟩:=h2;rw[h3]at h4;cases h4
