/- The texts Qf, Ng, Qh. -/
import Derived.Test.YtbopchpncgdaaaaGreatDoorQsA6
namespace Go.Sx
set_option linter.unusedSimpArgs false
set_option linter.unusedVariables false
set_option maxRecDepth 100000
set_option maxHeartbeats 4000000
structure ShapeOKD (args:List SV) (fk:List (Nat×Blk)) (c:SV) (new upd:List (Nat×Blk)):Prop where
 argr:subN (refsL args) (keysOf fk)=true
 fkr:subN (refsB fk) (keysOf fk)=true
 nd:nodupN (keysOf fk++keysOf new)=true
 newW:allWr new=true
 updW:∀k b,(k,b)∈upd→b.wr=true
 updK:∀k b,(k,b)∈upd→∃b0,(k,b0)∈fk∧b0.wr=true∧b0.data.live=true
 updAll:∀k b,(k,b)∈fk→b.wr=true→b.data.live=true→∃b',(k,b')∈upd
 cr:subN (refs c) (keysOf fk++keysOf new)=true
 nr:subN (refsB new) (keysOf fk++keysOf new)=true
 ur:subN (refsB upd) (keysOf fk++keysOf new)=true
 pass:args.all passable=true
theorem ShapeOKD.of {args:List SV} {fk:List (Nat×Blk)} {c:SV} {new upd:List (Nat×Blk)} (h1:subN (refsL args) (keysOf fk)=true) (h2:subN (refsB fk) (keysOf fk)=true) (h3:nodupN (keysOf fk++keysOf new)=true)
  (h4:allWr new=true) (h5:(upd.all fun x=>x.2.wr)=true) (h6:updKB fk upd=true) (h7:updAllB upd fk=true) (h8:subN (refs c) (keysOf fk++keysOf new)=true) (h9:subN (refsB new) (keysOf fk++keysOf new)=true)
  (h10:subN (refsB upd) (keysOf fk++keysOf new)=true) (h11:args.all passable=true):ShapeOKD args fk c new upd:=
 ⟨h1,h2,h3,h4,fun k b hm=>List.all_eq_true.1 h5 _ hm,updKB_spec h6,updAllB_spec h7,h8,h9,h10,h11⟩
theorem callKD {P:Program} {T:List (TypeId×TI)} {Z:List Nat} (hT:TabOK P T) (hm:P.follows .mixedOrders=true) {f:FuncId} {fn':Func} {code:Code} (hf:P.funcs[f]? =some fn') (hb:fn'.body=some code)
  (hn:(fn'.name== "runtime.NumGoroutine")=false) {args:List SV} {fk:List (Nat×Blk)} {c:SV} {new upd:List (Nat×Blk)} (hs:ShapeOKD args fk c new upd) (hnt:Nat.ble args.length fn'.ntmps=true)
  (σ:Nat→Nat) (hσ:NamesOK fk new σ)
  (h:∀W0 w0 ρ0,Env.OK ⟨P,T,W0,w0,fn'.ntmps,ρ0,keysOf fk,Z,none⟩→cwp ⟨P,T,W0,w0,fn'.ntmps,ρ0,keysOf fk,Z,none⟩ code (Ret T fn'.results.toList (Fin c new upd)) (enum 0 args) fk):
  CallOK P f (renL σ args) (renH σ fk) (renS σ c) (renH σ new) (renH σ upd):=by
 have hnt':=Nat.le_of_ble_eq_true hnt
 refine .inl ⟨⟨fn',hf,hn,by rw[hb];rfl⟩,fun ρ w z hz hpw=> ?_⟩
 have hnd:=nodupN_spec hs.nd
 have hndf:(keysOf fk).Nodup:=(List.nodup_append.1 hnd).1
 have hndn:(keysOf new).Nodup:=(List.nodup_append.1 hnd).2.1
 have hdisj:∀m∈keysOf new,m∉keysOf fk:=fun m hm hq=>(List.nodup_append.1 hnd).2.2 m hq m hm rfl
 let ρ1:Rho:=⟨fun q=>if q∈keysOf fk then ρ.key (σ q)else none,ρ.imm,ρ.glob⟩
 have hρ1:∀q∈keysOf fk,ρ.key (σ q)=ρ1.key q:=fun q hq=>by
  show _=if q∈keysOf fk then _ else _
  rw[if_pos hq]
 have hρ1':∀q x,ρ1.key q=some x→q∈keysOf fk:=fun q x hx=>by
  have hx:(if q∈keysOf fk then ρ.key (σ q)else none)=some x:=hx
  by_cases hq:q∈keysOf fk
  ·exact hq
  ·rw[if_neg hq]at hx;cases hx
 let W0:Nat→Prop:=fun b=>∃q blk t,(q,blk)∈upd∧ρ1.key q=some (b,t)
 let E:Env:=⟨P,T,W0,w,fn'.ntmps,ρ1,keysOf fk,Z,none⟩
 have hE:E.OK:=⟨hT,hm,hρ1'⟩
 have hargr:=subN_spec hs.argr
 have hz1:HasZ ρ1 args z:=(renL_iff (ρ:=ρ1) (ρ':=ρ) (σ:=σ) rfl args z (fun k hk=>hρ1 k (hargr k hk))).1 hz
 have hzl:z.length=args.length:=HasZ_length hz1
 have hget:∀(l:List SV) (y:List (List Value)),HasZ ρ1 l y→l.all passable=true→∀(j:Nat) (c:SV),l[j]? =some c→∃v,(List.zipWith mkV l y)[j]? =some v∧Has ρ1 c v:=by
  intro l
  induction l with
  |nil=>intro y _ _ j c h;simp at h
  |cons d l ih=>
   intro y hy hp j c hj
   simp only[HasZ]at hy
   obtain⟨x,r,rfl,g1,g2⟩:=hy
   simp only[List.all_cons,Bool.and_eq_true]at hp
   cases j with
   |zero=>
    simp at hj
    subst hj
    exact⟨mkV d x,by simp,(Has_iff hp.1).2 ⟨x,g1,rfl⟩⟩
   |succ j=>simpa using ih r g2 hp.2 j c (by simpa using hj)
 have hsize:((List.zipWith mkV args z).toArray++Array.replicate (fn'.ntmps - (List.zipWith mkV args z).toArray.size) undef).size=fn'.ntmps:=by
  simp[hzl]
  omega
 have hfkr:=subN_spec hs.fkr
 have hmemf:∀k b,find fk k=some b→(k,b)∈fk:=fun k b hb=>find_mem hb
 have hR:R E.W0 E.w0 E.n ρ1 (fn (enum 0 args) fk) {tmps:=(List.zipWith mkV args z).toArray++Array.replicate (fn'.ntmps - (List.zipWith mkV args z).toArray.size) undef,defers:=[]} w:={
  defers:=.nil
  size:=hsize
  fr:=fun t sv ht=>by
   simp only[fn,LV.sv]at ht
   obtain⟨_,h2⟩:=lk_enum args 0 t sv ht
   obtain⟨v,h3,h4⟩:=hget args z hz1 hs.pass t sv (by simpa using h2)
   have hlt:t<(List.zipWith mkV args z).length:=(List.getElem?_eq_some_iff.1 h3).1
   have:((List.zipWith mkV args z).toArray++Array.replicate (fn'.ntmps - (List.zipWith mkV args z).toArray.size) undef).getD t undef=v:=by
    rw[Array.getD_eq_getD_getElem?,Array.getElem?_append_left (by simpa using hlt)]
    simp[h3]
   rw[this];exact h4
  pres:=.refl _ _
  hp:={
   blk:=fun k b hb=>by
    have hm:=hmemf k b hb
    have:=hpw.hfk (σ k) (renB σ b) (renH_mem.2 ⟨k,b,hm,rfl,rfl⟩)
    exact(renB_iff (ρ:=ρ1) (ρ':=ρ) (σ:=σ) rfl k b (hρ1 k (keysOf_mem.2 ⟨b,hm⟩)) (fun j hj=>hρ1 j (hfkr j (refsB_mem hm j hj)))).1 this
   sep:=fun k k' x x' b b' hx hx' hne he hb hb' hl hl'=>by
    have hm:=hmemf k b hb
    have hm':=hmemf k' b' hb'
    have hkx:ρ.key (σ k)=some x:=by rw[hρ1 k (keysOf_mem.2 ⟨b,hm⟩)];exact hx
    have hkx':ρ.key (σ k')=some x':=by rw[hρ1 k' (keysOf_mem.2 ⟨b',hm'⟩)];exact hx'
    cases hw:b.wr with
    |false=>rfl
    |true=>
     have:=hpw.sep (σ k) (σ k') x x' (renB σ b) (renB σ b') (renH_mem.2 ⟨k,b,hm,rfl,rfl⟩) (renH_mem.2 ⟨k',b',hm',rfl,rfl⟩) hkx hkx' (hσ.inj k k' b b' hm hm' hne hw) he (by rw[renB,renD_live];exact hl) (by rw[renB,renD_live];exact hl')
     rw[renB]at this
     rw[hw]at this;exact this
   own:=fun k b x hb hw hl hx=>by
    have hm:=hmemf k b hb
    obtain⟨b',hu⟩:=hs.updAll k b hm hw hl
    exact .inr ⟨k,b',x.2,hu,hx⟩
   dom:=fun k x hx=>by
    obtain⟨b,hb⟩:=keysOf_mem.1 (hρ1' k x hx)
    exact⟨b,by simp only[fn,LV.blk];exact find_of_mem hndf hb⟩
   imm:=hpw.imm
   immw:=fun k b x hb hw hl hx=>by
    have hm:=hmemf k b hb
    have hkx:ρ.key (σ k)=some x:=by rw[hρ1 k (keysOf_mem.2 ⟨b,hm⟩)];exact hx
    exact hpw.immw (σ k) (renB σ b) x (renH_mem.2 ⟨k,b,hm,rfl,rfl⟩) hw (by rw[renB,renD_live];exact hl) hkx}}
 have hwp:=cwp_sound hE code _ _ _ (h E.W0 w ρ1 hE) _ w ⟨ρ1,⟨.refl _,(fun b o hb=>.inl hb),(fun _ _=>rfl)⟩,(fun k hk=>by
  obtain⟨b,hb⟩:=keysOf_mem.1 hk
  simp only[fn,LV.blk,find_of_mem hndf hb]
  simp),hR⟩
 rw[zip_ren]
 refine calls_of_run (E:=E) rfl hf hb (fun _ _ _ h=>h) (fun _ _ h=>h) hwp ?_
 rintro e a' w' hdf ⟨fr',hp',hK,ρ',hext,_,hR'⟩
 have fin:∀ob l,retAll T fr' hp' fn'.results.toList=some (ob,l)→obP ob→Fin c new upd (retSV l) hp'→a'.defers=[]∧∃v,(results fn' a'.tmps).run P w'= .ok v w'∧∃v' ρ'',Ending.returned v= .returned v'∧Post ρ w (renS σ c) (renH σ new) (renH σ upd) v' ρ'' w':=by
  rintro ob l h1 h2 ⟨h3,hnew,hupd⟩
  obtain⟨v,r1,r2⟩:=results_run hE hR' h1 h2
  let ρ2:Rho:=⟨fun k=>match (keysOf new).find? (fun m=>σ m==k)with
   |some m=>ρ'.key m
   |none=>ρ.key k,ρ'.imm,ρ'.glob⟩
  have k2new:∀m∈keysOf new,ρ2.key (σ m)=ρ'.key m:=by
   intro m hm
   show(match (keysOf new).find? (fun j=>σ j==σ m)with|some m=>ρ'.key m|none=>ρ.key (σ m))=ρ'.key m
   cases hfd:(keysOf new).find? (fun j=>σ j==σ m)with
   |none=>have:=List.find?_eq_none.1 hfd m hm;simp at this
   |some j=>
    have hj:=List.mem_of_find?_eq_some hfd
    have hjs:=List.find?_some hfd
    have:j=m:=Classical.byContradiction fun hne=>hσ.newInj j m hj hm hne (by simpa using hjs)
    rw[this]
  have k2old:∀k,(∀m∈keysOf new,σ m≠k)→ρ2.key k=ρ.key k:=by
   intro k hk
   show(match (keysOf new).find? (fun j=>σ j==k)with|some m=>ρ'.key m|none=>ρ.key k)=ρ.key k
   cases hfd:(keysOf new).find? (fun j=>σ j==k)with
   |none=>rfl
   |some j=>exact absurd (by simpa using List.find?_some hfd) (hk j (List.mem_of_find?_eq_some hfd))
  have k2:∀q∈keysOf fk++keysOf new,ρ2.key (σ q)=ρ'.key q:=by
   intro q hq
   rcases List.mem_append.1 hq with hq|hq
   ·rw[k2old (σ q) (fun m hm=>hσ.newOld m q hm hq),hρ1 q hq,hext.fix q hq]
   ·exact k2new q hq
  have hfresh:∀m∈keysOf new,ρ.key (σ m)=none:=by
   intro m hm
   obtain⟨b,hb⟩:=keysOf_mem.1 hm
   exact hpw.fresh (σ m) (renB σ b) (renH_mem.2 ⟨m,b,hb,rfl,rfl⟩)
  have hnewW:=allWr_spec hs.newW
  have hupdW:=hs.updW
  have hnr:=subN_spec hs.nr
  have hur:=subN_spec hs.ur
  have hcr:=subN_spec hs.cr
  have updlive:∀q b,(q,b)∈upd→q∈keysOf fk:=fun q b hq=>by
   obtain⟨b0,h1,_⟩:=hs.updK q b hq
   exact keysOf_mem.2 ⟨b0,h1⟩
  refine⟨hdf,v,r1,v,ρ2,rfl,⟨⟨fun k x hx=> ?_,fun b o hb=>hext.le.imm b o hb⟩, ?_,fun k hk=> ?_, ?_, ?_, ?_, ?_, ?_, ?_⟩⟩
  ·rw[k2old k]
   ·exact hx
   ·rintro m hm rfl
    rw[hfresh m hm]at hx;cases hx
  ·exact(ren_has (ρ:=ρ') (ρ':=ρ2) (σ:=σ) rfl c v (fun k hk=>k2 k (hcr k hk))).2 (h3 ρ' v r2)
  ·refine k2old k fun m hm he=> ?_
   obtain⟨b,hb⟩:=keysOf_mem.1 hm
   exact hk (renB σ b) (renH_mem.2 ⟨m,b,hb,he.symm,rfl⟩)
  ·refine hR'.pres.mono (fun b _ hb=> ?_)
   obtain⟨q,blk,t,hq,hx⟩:=hb
   refine⟨σ q,renB σ blk,t,renH_mem.2 ⟨q,blk,hq,rfl,rfl⟩, ?_⟩
   rw[hρ1 q (updlive q blk hq)];exact hx
  ·intro k b hk
   rcases hk with hk|hk
   ·obtain⟨q,b0,hq,rfl,rfl⟩:=renH_mem.1 hk
    exact(renB_iff (ρ:=ρ') (ρ':=ρ2) (σ:=σ) rfl q b0 (k2 q (List.mem_append.2 (.inl (updlive q b0 hq)))) (fun j hj=>k2 j (hur j (refsB_mem hq j hj)))).2 (hR'.hp.blk q b0 (by simp only[fn,LV.blk];exact hupd q b0 hq))
   ·obtain⟨q,b0,hq,rfl,rfl⟩:=renH_mem.1 hk
    exact(renB_iff (ρ:=ρ') (ρ':=ρ2) (σ:=σ) rfl q b0 (k2 q (List.mem_append.2 (.inr (keysOf_mem.2 ⟨b0,hq⟩)))) (fun j hj=>k2 j (hnr j (refsB_mem hq j hj)))).2 (hR'.hp.blk q b0 (by simp only[fn,LV.blk];exact hnew q b0 hq))
  ·intro k b b' hk hk' hl hl'
   obtain⟨q,b0,hq,hqk,rfl⟩:=renH_mem.1 hk
   obtain⟨q',b0',hq',hqk',rfl⟩:=renH_mem.1 hk'
   rw[renB,renD_live]at hl hl'
   by_cases he:q=q'
   ·have h1:=hupd q b0 hq
    rw[he,hupd q' b0' hq']at h1
    rw[←Option.some.inj h1,hl']at hl;cases hl
   ·obtain⟨f,hf1,hf2,_⟩:=hs.updK q b0 hq
    obtain⟨f',hf1',_⟩:=hs.updK q' b0' hq'
    exact hσ.inj q q' f f' hf1 hf1' he hf2 (hqk.symm.trans hqk')
  ·intro k b x hk hx
   obtain⟨m,b0,hm,rfl,rfl⟩:=renH_mem.1 hk
   rw[k2new m (keysOf_mem.2 ⟨b0,hm⟩)]at hx
   have hfm:(fn fr' hp' (.k m)).blk=some b0:=by simp only[fn,LV.blk];exact hnew m b0 hm
   rcases hR'.hp.own m b0 x hfm (hnewW m b0 hm).1 (hnewW m b0 hm).2 hx with h4|⟨q,bu,t,hq,hxq⟩
   ·exact .inl h4
   ·have hqf:=updlive q bu hq
    have hne:m≠q:=fun he=>hdisj m (keysOf_mem.2 ⟨b0,hm⟩) (he▸hqf)
    have hxq':ρ'.key q=some (x.1,t):=by rw[hext.fix q hqf];exact hxq
    cases hbl:bu.data.live with
    |true=>
     have:=hR'.hp.sep m q x (x.1,t) b0 bu hx hxq' hne rfl hfm (by simp only[fn,LV.blk];exact hupd q bu hq) (hnewW m b0 hm).2 hbl
     rw[(hnewW m b0 hm).1]at this;cases this
    |false=>
     refine .inr ⟨σ q,renB σ bu,t,renH_mem.2 ⟨q,bu,hq,rfl,rfl⟩,by rw[renB,renD_live];exact hbl, ?_⟩
     rw[hρ1 q hqf];exact hxq
  ·intro k b k' b' x x' hk hk' hne hx hx' he
   obtain⟨m,b0,hm,rfl,rfl⟩:=renH_mem.1 hk
   obtain⟨m',b0',hm',rfl,rfl⟩:=renH_mem.1 hk'
   rw[k2new m (keysOf_mem.2 ⟨b0,hm⟩)]at hx
   rw[k2new m' (keysOf_mem.2 ⟨b0',hm'⟩)]at hx'
   have:=hR'.hp.sep m m' x x' b0 b0' hx hx' (fun h=>hne (by rw[h])) he (by simp only[fn,LV.blk];exact hnew m b0 hm) (by simp only[fn,LV.blk];exact hnew m' b0' hm') (hnewW m b0 hm).2 (hnewW m' b0' hm').2
   rw[(hnewW m b0 hm).1]at this;cases this
  ·intro b o hb
   rcases hext.imm b o hb with h4|h4
   ·exact .inl h4
   ·refine .inr ⟨h4,hR'.hp.imm b o hb,fun k blk x hk hx he=> ?_⟩
    obtain⟨m,b0,hm,rfl,rfl⟩:=renH_mem.1 hk
    rw[k2new m (keysOf_mem.2 ⟨b0,hm⟩)]at hx
    have:=hR'.hp.immw m b0 x (by simp only[fn,LV.blk];exact hnew m b0 hm) (hnewW m b0 hm).1 (hnewW m b0 hm).2 hx
    rw[he]at this
    have hb':ρ'.imm b=some o:=hb
    rw[hb']at this;cases this
 cases e<;>simp only[Ret]at hK<;>simp only[bodyPost]
 ·split at hK
  ·rename_i ob l hl;exact fin ob l hl (req_spec hK).1 (req_spec hK).2
  ·exact hK.elim
 ·split at hK
  ·rename_i ob l hl;exact fin ob l hl (req_spec hK).1 (req_spec hK).2
  ·exact hK.elim
theorem reseq_RR {E:Env} {j:Nat} {ty:TypeId} {wr:Bool} {cs:List SV} {fr:List (Nat×SV)} {hp:List (Nat×Blk)} (hj:find hp j=some ⟨ty,wr,.one cs⟩) (hkl:keylessL cs=true) (hws:allW 1 cs=true) {a:Act} {w:World} (hR:RR E (fn fr hp) a w):
  RR E (fn fr ((j,⟨ty,wr,.seq 1 cs⟩)::hp)) a w:=by
 obtain⟨ρ,hext,hfx,hR⟩:=hR
 have hblk:∀i b,(fn fr ((j,⟨ty,wr,.seq 1 cs⟩)::hp) (.k i)).blk=some b→∃b0,(fn fr hp (.k i)).blk=some b0∧b0.wr=b.wr∧b0.data.live=b.data.live∧(b0=b∨(i=j∧b0=⟨ty,wr,.one cs⟩∧b=⟨ty,wr,.seq 1 cs⟩)):=by
  intro i b hb
  simp only[fn,LV.blk,find]at hb ⊢
  cases hi:Nat.beq j i with
  |true=>
   rw[hi]at hb
   simp only[Option.some.injEq]at hb
   obtain rfl:=Nat.eq_of_beq_eq_true hi
   subst hb
   exact⟨_,hj,rfl,rfl,.inr ⟨rfl,rfl,rfl⟩⟩
  |false=>rw[hi]at hb;exact⟨b,hb,rfl,rfl,.inl rfl⟩
 refine⟨ρ,hext,fun i hi=> ?_,{defers:=hR.defers,size:=hR.size,fr:=fun u sv hu=>hR.fr u sv hu,pres:=hR.pres,hp:= ?_}⟩
 ·have:=hfx i hi
  simp only[fn,LV.blk,find]at this ⊢
  cases hb:Nat.beq j i with
  |true=>simp
  |false=>exact this
 ·constructor
  ·intro i b hb
   obtain⟨b0,h1,h2,h3,rfl|⟨rfl,rfl,rfl⟩⟩:=hblk i b hb
   ·exact hR.hp.blk i b0 h1
   ·rcases hR.hp.blk i _ h1 with h4|⟨b',t,vs,ex,g1,g2,g3,g4,g5⟩|⟨_,h4⟩
    ·cases h4
    ·refine .inr (.inl ⟨b',t,vs,ex,g1,g2, ?_,g4,g5⟩)
     simp only[DataC]at g3 ⊢
     obtain⟨z,g6,g7⟩:=g3
     exact⟨z,keylessL_has (ρ:=ρ) (ρ':=bareR ρ.imm ρ.glob) (fun _ _ h=>h) cs z hkl g6,g7,allW_spec hws⟩
    ·exact h4.elim
  ·intro i i' x x' b b' hx hx' hn hxe hb hb' hl hl'
   obtain⟨b0,h1,h2,h3,_⟩:=hblk i b hb
   obtain⟨b0',h1',h2',h3',_⟩:=hblk i' b' hb'
   rw[←h2]
   exact hR.hp.sep i i' x x' b0 b0' hx hx' hn hxe h1 h1' (h3.trans hl) (h3'.trans hl')
  ·intro i b x hb hw hl hx
   obtain⟨b0,h1,h2,h3,_⟩:=hblk i b hb
   exact hR.hp.own i b0 x h1 (h2.trans hw) (h3.trans hl) hx
  ·intro i x hx
   obtain⟨b,hb⟩:=hR.hp.dom i x hx
   simp only[fn,LV.blk,find]at hb ⊢
   cases hi:Nat.beq j i with
   |true=>exact⟨_,rfl⟩
   |false=>exact⟨b,hb⟩
  ·exact hR.hp.imm
  ·intro i b x hb hw hl hx
   obtain⟨b0,h1,h2,h3,_⟩:=hblk i b hb
   exact hR.hp.immw i b0 x h1 (h2.trans hw) (h3.trans hl) hx
theorem HasZ_at {ρ:Rho}:∀{cs:List SV} {z:List (List Value)} {p:Nat} {c:SV},HasZ ρ cs z→cs[p]? =some c→∃x,z[p]? =some x∧HasC ρ c x
 |[],_,_,_,_,h=>by simp at h
 |d::cs,z,0,c,hz,h=>by
  simp only[HasZ]at hz
  obtain⟨x,r,rfl,h1,_⟩:=hz
  simp only[List.getElem?_cons_zero,Option.some.injEq]at h
  subst h
  exact⟨x,rfl,h1⟩
 |d::cs,z,p+1,c,hz,h=>by
  simp only[HasZ]at hz
  obtain⟨x,r,rfl,_,h2⟩:=hz
  obtain⟨y,h3,h4⟩:=HasZ_at h2 (by simpa using h)
  exact⟨y,by simpa using h3,h4⟩
theorem HasZ_put {ρ:Rho} {v:SV} {x:List Value}:∀{cs:List SV} {z:List (List Value)} {p:Nat},HasZ ρ cs z→z[p]? =some x→HasC ρ v x→HasZ ρ (cs.set p v) z
 |[],z,p,hz,_,_=>by simpa using hz
 |d::cs,z,0,hz,h,hv=>by
  simp only[HasZ]at hz
  obtain⟨y,r,rfl,_,h2⟩:=hz
  simp only[List.getElem?_cons_zero,Option.some.injEq]at h
  subst h
  simp only[List.set_cons_zero,HasZ]
  exact⟨_,_,rfl,hv,h2⟩
 |d::cs,z,p+1,hz,h,hv=>by
  simp only[HasZ]at hz
  obtain⟨y,r,rfl,h1,h2⟩:=hz
  simp only[List.set_cons_succ,HasZ]
  exact⟨y,r,rfl,h1,HasZ_put h2 (by simpa using h) hv⟩
theorem nil_vec' {ρ:Rho} {w:Nat} {a:Option Addr} {l:List SV} (h:l=[]):HasC ρ (vecA w l) [.slice a 0 0]:=by
 subst h;exact nil_vec (by simp only[HasC];exact⟨rfl,rfl⟩)
theorem freezeC_RR {E:Env} (jj pp k:Nat) {tj:TypeId} {wj:Bool} {cs:List SV} {fr:List (Nat×SV)} {hp:List (Nat×Blk)} {ty:TypeId} {d:Data} {w i n:Nat} {xs:List SV} (hW:∀b,¬E.W0 b) (hjf:find hp jj=some ⟨tj,wj,.one cs⟩) (hjk:jj≠k) (hpc:cs[pp]? =some (.slc k w i n)) (hk:find hp k=some ⟨ty,true,d⟩)
  (he:elemsOf d=some xs) (hw:dwidth d=some w) (hkl:keylessL xs=true) (hn:i+n≤xs.length) {a:Act} {W:World} (hR:RR E (fn fr hp) a W):RR E (fn fr ((jj,⟨tj,wj,.one (cs.set pp (vecA w (cutL xs i (i+n))))⟩)::setB hp k ⟨ty,true,.dead⟩)) a W:=by
 have hl:d.live=true:=by cases d<;>simp[elemsOf]at he<;>rfl
 obtain⟨ρ,hext,hfx,hR⟩:=hR
 have hkb:(fn fr hp (.k k)).blk=some ⟨ty,true,d⟩:=by simp only[fn,LV.blk];exact hk
 have hjb:(fn fr hp (.k jj)).blk=some ⟨tj,wj,.one cs⟩:=by simp only[fn,LV.blk];exact hjf
 obtain⟨bj,nj,exj,zj,hj1,hj2,hj3,hj4,hj5⟩:∃bj nj exj zj,ρ.key jj=some (bj,nj)∧W.heap[bj]? =some ((Data.one cs).obj (zj.flatten++exj) tj)∧HasZ ρ cs zj∧(zj.flatten++exj).length=nj∧∀v∈exj,v.oneCell'=true:=by
  rcases hR.hp.blk jj _ hjb with g0|⟨b',t',vs,ex,g1,g2,⟨z,g3,rfl⟩,g4,g5⟩|⟨_,g2⟩
  ·cases g0
  ·exact⟨b',t',ex,z,g1,g2,g3,g4,g5⟩
  ·exact g2.elim
 obtain⟨x,hzx,hx⟩:=HasZ_at hj3 hpc
 have hlayk:∀q b,(fn fr ((jj,⟨tj,wj,.one (cs.set pp (vecA w (cutL xs i (i+n))))⟩)::setB hp k ⟨ty,true,.dead⟩) (.k q)).blk=some b→(q=jj∧b=⟨tj,wj,.one (cs.set pp (vecA w (cutL xs i (i+n))))⟩)∨(q=k∧b=⟨ty,true,.dead⟩)∨(q≠jj∧q≠k∧(fn fr hp (.k q)).blk=some b):=by
  intro q b hb
  simp only[fn,LV.blk,find]at hb ⊢
  cases hq:Nat.beq jj q with
  |true=>
   rw[hq]at hb
   exact .inl ⟨(Nat.eq_of_beq_eq_true hq).symm,(Option.some.inj hb).symm⟩
  |false=>
   rw[hq]at hb
   simp only[find_setB]at hb
   have hne:q≠jj:=by rintro rfl;simp[Nat.beq_refl]at hq
   by_cases hj:q=k
   ·rw[if_pos hj]at hb;exact .inr (.inl ⟨hj,(Option.some.inj hb).symm⟩)
   ·rw[if_neg hj]at hb;exact .inr (.inr ⟨hne,hj,hb⟩)
 have fin:∀ρ':Rho,ρ'.key=ρ.key→(∀b o,ρ.imm b=some o→ρ'.imm b=some o)→(∀b o,ρ'.imm b=some o→ρ.imm b=some o∨E.w0.heap.size≤b)→(∀b o,ρ'.imm b=some o→W.heap[b]? =some o)→
   (∀j b x,j≠k→(fn fr hp (.k j)).blk=some b→b.wr=true→b.data.live=true→ρ.key j=some x→ρ'.imm x.1=none)→(∀D,W.heap[D]? =some (.deferred (some []))→ρ.imm D=none→ρ'.imm D=none)→HasC ρ' (vecA w (cutL xs i (i+n))) x→
   RR E (fn fr ((jj,⟨tj,wj,.one (cs.set pp (vecA w (cutL xs i (i+n))))⟩)::setB hp k ⟨ty,true,.dead⟩)) a W:=by
  intro ρ' hkey himm hnew hheap hnone hmark hhas
  have hle:ρ.Le ρ':=⟨fun j y hy=>by rw[hkey];exact hy,himm⟩
  refine⟨ρ',⟨hext.le.trans hle,fun b o hb=>(hnew b o hb).elim (fun h=>hext.imm b o h) .inr,fun j hj=>by rw[hkey];exact hext.fix j hj⟩,fun j hj=> ?_,{defers:= ?_,size:=hR.size,fr:= ?_,pres:=hR.pres,hp:= ?_}⟩
  ·have:=hfx j hj
   simp only[fn,LV.blk,find]at this ⊢
   cases hq:Nat.beq jj j with
   |true=>simp
   |false=>
    simp only[find_setB]
    split
    ·simp
    ·exact this
  ·obtain⟨Ds,d1,d2,d3⟩:=hR.defers
   refine⟨Ds,d1,d2,fun D hD=> ?_⟩
   obtain⟨e1,e2,e3⟩:=d3 D hD
   refine⟨e1,e2, ?_⟩
   exact hmark D e2 e3
  ·intro u sv hu
   exact Has.mono hle _ _ (hR.fr u sv hu)
  ·have hmap:∀q b,(fn fr ((jj,⟨tj,wj,.one (cs.set pp (vecA w (cutL xs i (i+n))))⟩)::setB hp k ⟨ty,true,.dead⟩) (.k q)).blk=some b→b.data.live=true→∃b0,(fn fr hp (.k q)).blk=some b0∧b0.wr=b.wr∧b0.data.live=true∧q≠k:=by
    intro q b hb hlv
    rcases hlayk q b hb with⟨rfl,rfl⟩|⟨_,rfl⟩|⟨_,h2,h3⟩
    ·exact⟨_,hjb,rfl,rfl,hjk⟩
    ·cases hlv
    ·exact⟨b,h3,rfl,hlv,h2⟩
   constructor
   ·intro q b hb
    rcases hlayk q b hb with⟨rfl,rfl⟩|⟨rfl,rfl⟩|⟨_,_,hb⟩
    ·refine .inr (.inl ⟨bj,nj,zj.flatten,exj,by rw[hkey];exact hj1,hj2,⟨zj, ?_,rfl⟩,hj4,hj5⟩)
     exact HasZ_put (HasZ.mono hle cs zj hj3) hzx hhas
    ·exact .inl rfl
    ·rcases hR.hp.blk q b hb with g0|⟨b',t',vs,ex,g1,g2,g3,g4⟩|⟨g1,g2⟩
     ·exact .inl g0
     ·exact .inr (.inl ⟨b',t',vs,ex,by rw[hkey];exact g1,g2,g3.mono hle,g4⟩)
     ·exact .inr (.inr ⟨by rw[hkey];exact g1,g2⟩)
   ·intro j j' y y' b b' hy hy' hne hyy hb hb' hl1 hl2
    rw[hkey]at hy hy'
    obtain⟨c0,h1,h2,h3,_⟩:=hmap j b hb hl1
    obtain⟨c0',h1',h2',h3',_⟩:=hmap j' b' hb' hl2
    rw[←h2]
    exact hR.hp.sep j j' y y' c0 c0' hy hy' hne hyy h1 h1' h3 h3'
   ·intro j b y hb hwr hl1 hy
    rw[hkey]at hy
    obtain⟨c0,h1,h2,h3,_⟩:=hmap j b hb hl1
    exact hR.hp.own j c0 y h1 (h2.trans hwr) h3 hy
   ·intro j y hy
    rw[hkey]at hy
    obtain⟨b,hb⟩:=hR.hp.dom j y hy
    simp only[fn,LV.blk,find]at hb ⊢
    cases hq:Nat.beq jj j with
    |true=>exact⟨_,rfl⟩
    |false=>
     simp only[find_setB]
     split
     ·exact⟨_,rfl⟩
     ·exact⟨b,hb⟩
   ·exact hheap
   ·intro j b y hb hwr hl1 hy
    rw[hkey]at hy
    obtain⟨c0,h1,h2,h3,h4⟩:=hmap j b hb hl1
    exact hnone j c0 y h4 h1 (h2.trans hwr) h3 hy
 rcases vec_of_blk (hR.hp.blk k _ hkb) he hw hkl hn hx with⟨rfl,ad,rfl⟩|⟨b,t',o,h1,h2,h3⟩
 ·refine fin ρ rfl (fun _ _ h=>h) (fun _ _ h=>.inl h) hR.hp.imm (fun j b y _ hb hwr hl1 hy=>hR.hp.immw j b y hb hwr hl1 hy) (fun _ _ h=>h) ?_
  exact nil_vec' (by simp[cutL])
 ·have hB:E.w0.heap.size≤b:=(hR.hp.own k _ _ hkb rfl hl h1).resolve_right (hW _)
  obtain⟨u,hup⟩:=(Up.refl ρ W E.w0.heap.size).add hR.hp.imm hB h2
  refine fin ⟨ρ.key,_,u.glob⟩ rfl u.le (fun b o hb=>(u.new b o hb).imp id (fun h=>h.1)) (fun c p hc=> ?_) (fun j blk y hj hb hwr hl1 hy=> ?_) (fun D hD1 hD2=> ?_) ?_
  ·rcases u.new c p hc with h|h
   ·exact hR.hp.imm c p h
   ·exact h.2
  ·show(if y.1=b then some o else ρ.imm y.1)=none
   rw[if_neg]
   ·exact hR.hp.immw j blk y hb hwr hl1 hy
   ·intro he2
    have:=hR.hp.sep k j (b,t') y _ _ h1 hy (fun h=>hj h.symm) he2.symm hkb hb hl hl1
    cases this
  ·show(if D=b then some o else ρ.imm D)=none
   rw[if_neg,hD2]
   rintro rfl
   rcases hR.hp.blk k _ hkb with g0|⟨b',t'',vs,ex,g1,g2,_⟩|⟨g1,_⟩
   ·rw[show Data.live d=false from g0]at hl;cases hl
   ·rw[h1]at g1;cases g1;rw[hD1]at g2;exact Data.obj_deferred (Option.some.inj g2).symm
   ·rw[h1]at g1;cases g1
  ·exact HasC.mono (bareR_up ⟨ρ.key,_,u.glob⟩ u.glob) _ _ (h3 _ u.glob u.le (by simp))
theorem freezeP_RR {E:Env} (t k:Nat) {fr:List (Nat×SV)} {hp:List (Nat×Blk)} {ty:TypeId} {cs:List SV} (hW:∀b,¬E.W0 b) (ht:lk fr t=some (.ptr k 0 0 0)) (hk:find hp k=some ⟨ty,true,.one cs⟩)
  (hkl:keylessL cs=true) {a:Act} {W:World} (hR:RR E (fn fr hp) a W):RR E (fn ((t,ptrA cs)::fr) (setB hp k ⟨ty,true,.dead⟩)) a W:=by
 have hl:(Data.one cs).live=true:=rfl
 obtain⟨ρ,hext,hfx,hR⟩:=hR
 have hkb:(fn fr hp (.k k)).blk=some ⟨ty,true,.one cs⟩:=by simp only[fn,LV.blk];exact hk
 have hv:=hR.fr t _ (by simp only[fn,LV.sv];exact ht)
 obtain⟨x,hx,hxv⟩:=(Has_iff (c:=.ptr k 0 0 0) rfl).1 hv
 have hlayk:∀j b,(fn ((t,ptrA cs)::fr) (setB hp k ⟨ty,true,.dead⟩) (.k j)).blk=some b→(j=k∧b=⟨ty,true,.dead⟩)∨(j≠k∧(fn fr hp (.k j)).blk=some b):=by
  intro j b hb
  simp only[fn,LV.blk,find_setB]at hb ⊢
  by_cases hj:j=k
  ·rw[if_pos hj]at hb;exact .inl ⟨hj,(Option.some.inj hb).symm⟩
  ·rw[if_neg hj]at hb;exact .inr ⟨hj,hb⟩
 have fin:∀ρ':Rho,ρ'.key=ρ.key→(∀b o,ρ.imm b=some o→ρ'.imm b=some o)→(∀b o,ρ'.imm b=some o→ρ.imm b=some o∨E.w0.heap.size≤b)→(∀b o,ρ'.imm b=some o→W.heap[b]? =some o)→
   (∀j b x,j≠k→(fn fr hp (.k j)).blk=some b→b.wr=true→b.data.live=true→ρ.key j=some x→ρ'.imm x.1=none)→(∀D,W.heap[D]? =some (.deferred (some []))→ρ.imm D=none→ρ'.imm D=none)→Has ρ' (ptrA cs) (a.tmps.getD t undef)→
   RR E (fn ((t,ptrA cs)::fr) (setB hp k ⟨ty,true,.dead⟩)) a W:=by
  intro ρ' hkey himm hnew hheap hnone hmark hhas
  have hle:ρ.Le ρ':=⟨fun j y hy=>by rw[hkey];exact hy,himm⟩
  refine⟨ρ',⟨hext.le.trans hle,fun b o hb=>(hnew b o hb).elim (fun h=>hext.imm b o h) .inr,fun j hj=>by rw[hkey];exact hext.fix j hj⟩,fun j hj=> ?_,{defers:= ?_,size:=hR.size,fr:= ?_,pres:=hR.pres,hp:= ?_}⟩
  ·have:=hfx j hj
   simp only[fn,LV.blk,find_setB]at this ⊢
   split
   ·simp
   ·exact this
  ·obtain⟨Ds,d1,d2,d3⟩:=hR.defers
   refine⟨Ds,d1,d2,fun D hD=> ?_⟩
   obtain⟨e1,e2,e3⟩:=d3 D hD
   refine⟨e1,e2, ?_⟩
   exact hmark D e2 e3
  ·intro u sv hu
   simp only[fn,LV.sv,lk]at hu
   cases hb:Nat.beq t u with
   |true=>
    rw[hb]at hu
    simp only[Option.some.injEq]at hu
    subst hu
    rw[←Nat.eq_of_beq_eq_true hb]
    exact hhas
   |false=>rw[hb]at hu;exact Has.mono hle _ _ (hR.fr u sv (by simp only[fn,LV.sv];exact hu))
  ·constructor
   ·intro j b hb
    rcases hlayk j b hb with⟨rfl,rfl⟩|⟨hj,hb⟩
    ·exact .inl rfl
    ·rcases hR.hp.blk j b hb with g0|⟨b',t',vs,ex,g1,g2,g3,g4⟩|⟨g1,g2⟩
     ·exact .inl g0
     ·exact .inr (.inl ⟨b',t',vs,ex,by rw[hkey];exact g1,g2,g3.mono hle,g4⟩)
     ·exact .inr (.inr ⟨by rw[hkey];exact g1,g2⟩)
   ·intro j j' y y' b b' hy hy' hne hyy hb hb' hl1 hl2
    rw[hkey]at hy hy'
    rcases hlayk j b hb with⟨_,rfl⟩|⟨_,hb⟩
    ·cases hl1
    rcases hlayk j' b' hb' with⟨_,rfl⟩|⟨_,hb'⟩
    ·cases hl2
    exact hR.hp.sep j j' y y' b b' hy hy' hne hyy hb hb' hl1 hl2
   ·intro j b y hb hwr hl1 hy
    rw[hkey]at hy
    rcases hlayk j b hb with⟨_,rfl⟩|⟨_,hb⟩
    ·cases hl1
    exact hR.hp.own j b y hb hwr hl1 hy
   ·intro j y hy
    rw[hkey]at hy
    obtain⟨b,hb⟩:=hR.hp.dom j y hy
    simp only[fn,LV.blk,find_setB]at hb ⊢
    split
    ·exact⟨_,rfl⟩
    ·exact⟨b,hb⟩
   ·exact hheap
   ·intro j b y hb hwr hl1 hy
    rw[hkey]at hy
    rcases hlayk j b hb with⟨_,rfl⟩|⟨hj,hb⟩
    ·cases hl1
    exact hnone j b y hj hb hwr hl1 hy
 simp only[HasC]at hx
 obtain⟨b,t',h1,rfl⟩:=hx
 rcases hR.hp.blk k _ hkb with g0|⟨b',t'',vs,ex,g1,g2,g3,g4,g5⟩|⟨g1,_⟩
 ·cases g0
 ·rw[h1]at g1
  cases g1
  rw[Data.obj_cells rfl]at g2
  have h2:W.heap[b]? =some (.cells (vs++ex).toArray ty (0,0)):=g2
  simp only[DataC]at g3
  obtain⟨z,z1,rfl⟩:=g3
  have hB:E.w0.heap.size≤b:=(hR.hp.own k _ _ hkb rfl hl h1).resolve_right (hW _)
  obtain⟨u,hup⟩:=(Up.refl ρ W E.w0.heap.size).add hR.hp.imm hB h2
  refine fin ⟨ρ.key,_,u.glob⟩ rfl u.le (fun b o hb=>(u.new b o hb).imp id (fun h=>h.1)) (fun c p hc=> ?_) (fun j blk y hj hb hwr hl1 hy=> ?_) (fun D hD1 hD2=> ?_) ?_
  ·rcases u.new c p hc with h|h
   ·exact hR.hp.imm c p h
   ·exact h.2
  ·show(if y.1=b then some _ else ρ.imm y.1)=none
   rw[if_neg]
   ·exact hR.hp.immw j blk y hb hwr hl1 hy
   ·intro he2
    have:=hR.hp.sep k j (b,t') y _ _ h1 hy (fun h=>hj h.symm) he2.symm hkb hb hl hl1
    cases this
  ·show(if D=b then some _ else ρ.imm D)=none
   rw[if_neg,hD2]
   rintro rfl
   rw[hD1]at h2;cases h2
  ·rw[hxv]
   have hz:HasZ (bareR (fun x=>if x=b then some (.cells (z.flatten++ex).toArray ty (0,0))else ρ.imm x) u.glob) cs z:=keylessL_has (ρ:=ρ) u.le cs z hkl z1
   refine ptrA_has ⟨b,z,[],ex,ty,(0,0),if_pos rfl,hz, ?_⟩
   simp[mkV,SV.isOne]
 ·rw[h1]at g1;cases g1
theorem runs_list2 {E:Env} {ops:Array Oper} {l2:List Oper} {Q:Exit→Act→World→Prop}:∀(l:List Oper) (fr:List (Nat×SV)) (hp:List (Nat×Blk)) (recs:List Rec) (fr':List (Nat×SV)) (hp':List (Nat×Blk)),Runs E ops l fr hp recs fr' hp'→
  (∀a w,RR E (fn fr' hp') a w→wpListIn (fen E.ro) 0 E.P ops Q l2 a w)→∀a w,RR E (fn fr hp) a w→wpListIn (fen E.ro) 0 E.P ops Q (l++l2) a w
 |[],fr,hp,recs,fr',hp',h,hQ,a,w,hR=>by
  obtain⟨_,rfl,rfl⟩:=h
  exact hQ a w hR
 |o::l,fr,hp,recs,fr',hp',h,hQ,a,w,hR=>by
  obtain⟨rc,rest,rfl,_,_,_,⟨_,_,hs⟩,h2⟩:=h
  have ih:=runs_list2 l _ _ _ _ _ h2 hQ
  have:=hs (fn fr hp) (fun _ _=>rfl) (fun _ _=>rfl) a w hR
  rw[List.cons_append]
  unfold wpListIn
  split
  ·rename_i hw
   rw[if_pos hw]at this
   refine goes_wpIn (goes_mono ?_ this)
   intro a' w' hR'
   rw[fn_lay]at hR'
   exact ih a' w' hR'
  ·rename_i hw
   rw[if_neg hw,fn_lay]at this
   exact⟨fun _ _=>trivial,ih _ _ this⟩
theorem SWx_cut {E:Env} (hE:E.OK) (n:Nat) {id:Nat} {ops:Array Oper} {K:Post'} {fr:List (Nat×SV)} {hp:List (Nat×Blk)}
  (h:lex E ops.toList (ops.toList.take n) fr hp [] fun fr1 hp1 _=>∃fr2 hp2,(∀a w,RR E (fn fr1 hp1) a w→RR E (fn fr2 hp2) a w)∧lex E ops.toList (ops.toList.drop n) fr2 hp2 [] fun fr3 hp3 _=>K .normal fr3 hp3):SWx E (.region id ops false) K fr hp:=⟨by
 intro a w hR
 obtain⟨recs,fr1,hp1,h1,fr2,hp2,hRR,h2⟩:=lex_runs hE.tab _ _ _ _ h
 obtain⟨recs2,fr3,hp3,h3,h4⟩:=lex_runs hE.tab _ _ _ _ h2
 have e2:=runs_list (Q:=liftQ E K) _ _ _ _ _ _ h3 (fun a w hR=>⟨fr3,hp3,h4,hR⟩)
 have e1:=runs_list2 (Q:=liftQ E K) (l2:=ops.toList.drop n) _ _ _ _ _ _ h1 (fun a w hR=>by simpa using e2 a w (hRR a w hR)) a w hR
 rw[List.take_append_drop]at e1
 exact wpIn_region_list (by simpa using e1)⟩
end Go.Sx
namespace Go.Proofs.YtbopchpncgdaaaaGreatDoor
open Go.Sx
set_option linter.unusedSimpArgs false
set_option linter.unusedVariables false
set_option maxRecDepth 100000
set_option maxHeartbeats 4000000
structure RE (r c:Nat) (w:Mx) (piv:List Nat):Prop where
 len:piv.length≤r
 lt:∀j,j<piv.length→piv.getD j 0<c
 inc:∀i j,i<j→j<piv.length→piv.getD i 0<piv.getD j 0
 unit:∀j,j<piv.length→∀i,i<r→w i (piv.getD j 0)=if i=j then 1 else 0
 left:∀i,i<piv.length→∀q,q<piv.getD i 0→w i q=0
 low:∀i,piv.length≤i→i<r→∀q,q<c→w i q=0
theorem Inv.re {r c:Nat} {W:Mx} {s:St} (h:Inv r W c s):RE r c s.w s.piv:=⟨h.len,h.lt,h.inc,h.unit,h.left,h.low⟩
def Ker (r c:Nat) (w:Mx) (x:Nat→Rat):Prop:=∀i,i<r→sumR c (fun q=>w i q*x q)=0
theorem prd_ker {r c:Nat} {P W w:Mx} (hP:det r P≠0) (hw:∀i,i<r→∀q,w i q=pr r P W i q) (x:Nat→Rat):Ker r c w x↔Ker r c W x:=by
 have e:∀i,i<r→sumR c (fun q=>w i q*x q)=sumR r fun p=>P i p*sumR c fun q=>W p q*x q:=fun i hi=>by
  rw[sum_congr c (g:=fun q=>sumR r fun p=>P i p*(W p q*x q)) fun q _=>by rw[hw i hi,pr,sum_mulR];exact sum_congr r fun p _=>by grind,sum_swap]
  exact sum_congr r fun p _=>(sum_mulL _ _).symm
 constructor
 ·intro h i hi
  have h1:sumR r (fun j=>adj r P i j*sumR c fun q=>w j q*x q)=0:=sum_zeros fun j hj=>by rw[h j hj];grind
  rw[sum_congr r (g:=fun j=>sumR r fun p=>adj r P i j*P j p*sumR c fun q=>W p q*x q) fun j hj=>by rw[e j hj,sum_mulL];exact sum_congr r fun p _=>by grind,sum_swap]at h1
  rw[sum_congr r (g:=fun p=>det r P*(delta i p*sumR c fun q=>W p q*x q)) fun p hp=>by
   rw[←sum_mulR]
   have:=adj_mul P hi hp
   unfold pr at this
   rw[this,delta];split<;>grind,←sum_mulL,sum_deltaL,if_pos hi]at h1
  rcases Rat.mul_eq_zero.1 h1 with g|g
  ·exact absurd g hP
  ·exact g
 ·intro h i hi
  rw[e i hi];exact sum_zeros fun p hp=>by rw[h p hp];grind
theorem det_ne {a b:Rat} (h:a*b=1):a≠0:=by intro g;rw[g]at h;grind
theorem Inv.ker {r c k:Nat} {W:Mx} {s:St} (h:Inv r W k s) (x:Nat→Rat):Ker r c s.w x↔Ker r c W x:=by
 obtain⟨P,h1,h2⟩:=h.by_
 exact prd_ker (det_ne h1) h2 x
section
variable {r c:Nat} {w:Mx} {piv:List Nat}
theorem piv_inj (h:RE r c w piv) {i j:Nat} (hi:i<piv.length) (hj:j<piv.length) (e:piv.getD i 0=piv.getD j 0):i=j:=by
 rcases Nat.lt_trichotomy i j with g|g|g
 ·have:=h.inc i j g hj;omega
 ·exact g
 ·have:=h.inc j i g hi;omega
theorem mem_getDN {l:List Nat} {q:Nat}:q∈l↔∃j,j<l.length∧l.getD j 0=q:=by
 constructor
 ·intro h
  obtain⟨j,hj,e⟩:=List.getElem_of_mem h
  exact⟨j,hj,by rw[List.getD_eq_getElem?_getD,List.getElem?_eq_getElem hj];exact e⟩
 ·rintro⟨j,hj,rfl⟩
  rw[List.getD_eq_getElem?_getD,List.getElem?_eq_getElem hj];exact List.getElem_mem hj
def kv (w:Mx) (piv:List Nat) (k q:Nat):Rat:=delta q k - sumR piv.length fun j=>delta q (piv.getD j 0)*w j k
theorem sum_kv (h:RE r c w piv) (u:Mx) {k:Nat} (hk:k<c) (i:Nat):sumR c (fun q=>u i q*kv w piv k q)=u i k - sumR piv.length fun j=>u i (piv.getD j 0)*w j k:=by
 rw[sum_congr c (g:=fun q=>u i q*delta q k+(-1)*sumR piv.length fun j=>u i q*delta q (piv.getD j 0)*w j k) fun q _=>by
  unfold kv;rw[sum_congr piv.length (f:=fun j=>u i q*delta q (piv.getD j 0)*w j k) (g:=fun j=>u i q*(delta q (piv.getD j 0)*w j k)) fun j _=>by grind,←sum_mulL];grind]
 rw[sum_add,sum_deltaR,if_pos hk,←sum_mulL,sum_swap,sum_congr piv.length (f:=fun j=>sumR c fun q=>u i q*delta q (piv.getD j 0)*w j k) (g:=fun j=>u i (piv.getD j 0)*w j k) fun j hj=>by
  rw[←sum_mulR,sum_deltaR,if_pos (h.lt j hj)]]
 grind
theorem kv_ker (h:RE r c w piv) {k:Nat} (hk:k<c):Ker r c w (kv w piv k):=by
 intro i hi
 rw[sum_kv h w hk]
 rw[sum_congr piv.length (g:=fun j=>delta i j*w j k) fun j hj=>by rw[h.unit j hj i hi,delta],sum_deltaL]
 by_cases g:i<piv.length
 ·rw[if_pos g];grind
 ·rw[if_neg g,h.low i (by omega) hi k hk];grind
theorem kv_self (h:RE r c w piv) {k:Nat} (hn:k∉piv):kv w piv k k=1:=by
 unfold kv
 rw[sum_zeros fun j hj=>by rw[delta,if_neg fun e=>hn (mem_getDN.2 ⟨j,hj,e.symm⟩)];grind,delta,if_pos rfl];grind
theorem kv_other {k q:Nat} (hq:q∉piv) (hne:q≠k):kv w piv k q=0:=by
 unfold kv
 rw[sum_zeros fun j hj=>by rw[delta,if_neg fun e=>hq (mem_getDN.2 ⟨j,hj,e.symm⟩)];grind,delta,if_neg hne];grind
theorem kv_piv (h:RE r c w piv) {k j:Nat} (hn:k∉piv) (hj:j<piv.length):kv w piv k (piv.getD j 0)= - w j k:=by
 unfold kv
 rw[sum_one (j:=j) piv.length hj fun i hi hne=>by rw[delta,if_neg fun e=>hne (piv_inj h hi hj e.symm)];grind,delta,if_neg fun e=>hn (mem_getDN.2 ⟨j,hj,e⟩),delta,if_pos rfl];grind
theorem kv_after (h:RE r c w piv) {k q:Nat} (hn:k∉piv) (hq:k<q):kv w piv k q=0:=by
 by_cases g:q∈piv
 ·obtain⟨j,hj,rfl⟩:=mem_getDN.1 g
  rw[kv_piv h hn hj,h.left j hj k hq];grind
 ·exact kv_other g (by omega)
theorem piv_iff (h:RE r c w piv) {k:Nat} (hk:k<c):k∉piv↔∃x,Ker r c w x∧x k≠0∧∀q,k<q→q<c→x q=0:=by
 constructor
 ·intro hn
  exact⟨kv w piv k,kv_ker h hk,by rw[kv_self h hn];decide,fun q h1 _=>kv_after h hn h1⟩
 ·rintro⟨x,h1,h2,h3⟩ hm
  obtain⟨j,hj,rfl⟩:=mem_getDN.1 hm
  have:=h1 j (by have:=h.len;omega)
  rw[sum_one (j:=piv.getD j 0) c hk fun q hq hne=>by
   rcases Nat.lt_or_gt_of_ne hne with g|g
   ·rw[h.left j hj q g];grind
   ·rw[h3 q g hq];grind,h.unit j hj j (by have:=h.len;omega),if_pos rfl]at this
  exact h2 (by grind)
end
theorem inc_ext:∀{l m:List Nat},(∀i j,i<j→j<l.length→l.getD i 0<l.getD j 0)→(∀i j,i<j→j<m.length→m.getD i 0<m.getD j 0)→(∀k,k∈l↔k∈m)→l=m
 |[],[],_,_,_=>rfl
 |[],b::m,_,_,h=>by have:=(h b).2 (List.mem_cons_self ..);cases this
 |a::l,[],_,_,h=>by have:=(h a).1 (List.mem_cons_self ..);cases this
 |a::l,b::m,h1,h2,h=>by
  have gl:∀x,x∈l→a<x:=fun x hx=>by
   obtain⟨j,hj,rfl⟩:=mem_getDN.1 hx
   exact h1 0 (j+1) (by omega) (by simp;omega)
  have gm:∀x,x∈m→b<x:=fun x hx=>by
   obtain⟨j,hj,rfl⟩:=mem_getDN.1 hx
   exact h2 0 (j+1) (by omega) (by simp;omega)
  have hab:a=b:=by
   rcases List.mem_cons.1 ((h a).1 (List.mem_cons_self ..))with e|e
   ·exact e
   ·rcases List.mem_cons.1 ((h b).2 (List.mem_cons_self ..))with f|f
    ·exact f.symm
    ·have:=gl b f;have:=gm a e;omega
  subst hab
  rw[inc_ext (l:=l) (m:=m) (fun i j hij hj=>h1 (i+1) (j+1) (by omega) (by simp;omega)) (fun i j hij hj=>h2 (i+1) (j+1) (by omega) (by simp;omega)) fun k=>by
   constructor
   ·intro hk
    rcases List.mem_cons.1 ((h k).1 (List.mem_cons_of_mem _ hk))with e|e
    ·have:=gl k hk;omega
    ·exact e
   ·intro hk
    rcases List.mem_cons.1 ((h k).2 (List.mem_cons_of_mem _ hk))with e|e
    ·have:=gm k hk;omega
    ·exact e]
theorem RE.unique {r c:Nat} {w w':Mx} {piv piv':List Nat} (h:RE r c w piv) (h':RE r c w' piv') (hk:∀x,Ker r c w x↔Ker r c w' x):piv=piv'∧∀i q,i<r→q<c→w i q=w' i q:=by
 have e:piv=piv':=by
  refine inc_ext h.inc h'.inc fun k=> ?_
  have hlt:k<c→(k∈piv↔k∈piv'):=fun hc=>by
   have a:=piv_iff h hc;have b:=piv_iff h' hc
   constructor
   ·intro hm;refine Classical.byContradiction fun g=> ?_
    obtain⟨x,h1,h2⟩:=b.1 g
    exact a.2 ⟨x,(hk x).2 h1,h2⟩ hm
   ·intro hm;refine Classical.byContradiction fun g=> ?_
    obtain⟨x,h1,h2⟩:=a.1 g
    exact b.2 ⟨x,(hk x).1 h1,h2⟩ hm
  constructor
  ·intro hm
   obtain⟨j,hj,e⟩:=mem_getDN.1 hm
   exact(hlt (by rw[←e];exact h.lt j hj)).1 hm
  ·intro hm
   obtain⟨j,hj,e⟩:=mem_getDN.1 hm
   exact(hlt (by rw[←e];exact h'.lt j hj)).2 hm
 subst e
 refine⟨rfl,fun i q hi hq=> ?_⟩
 by_cases g:q∈piv
 ·obtain⟨j,hj,rfl⟩:=mem_getDN.1 g
  rw[h.unit j hj i hi,h'.unit j hj i hi]
 ·by_cases hp:i<piv.length
  ·have h1:=(hk _).1 (kv_ker h hq) i hi
   rw[sum_kv h w' hq,sum_congr piv.length (g:=fun j=>delta i j*w j q) fun j hj=>by rw[h'.unit j hj i hi,delta],sum_deltaL,if_pos hp]at h1
   grind
  ·rw[h.low i (by omega) hi q hq,h'.low i (by omega) hi q hq]
theorem RE.full {r c:Nat} {w:Mx} {piv:List Nat} (h:RE r c w piv) (hc:piv.length=c):∀j,j<c→piv.getD j 0=j:=by
 have h1:∀j,j<c→j≤piv.getD j 0:=by
  intro j
  induction j with
  |zero=>intro _;exact Nat.zero_le _
  |succ j ih=>intro hj;have:=ih (by omega);have:=h.inc j (j+1) (by omega) (by omega);omega
 have h2:∀d j,j+d+1=c→piv.getD j 0≤j:=by
  intro d
  induction d with
  |zero=>intro j hj;have:=h.lt j (by omega);omega
  |succ d ih=>intro j hj;have:=ih (j+1) (by omega);have:=h.inc j (j+1) (by omega) (by omega);omega
 intro j hj
 have:=h1 j hj;have:=h2 (c - j - 1) j (by omega);omega
theorem RE.le {r c:Nat} {w:Mx} {piv:List Nat} (h:RE r c w piv):piv.length≤c:=by
 have h1:∀j,j<piv.length→j≤piv.getD j 0:=by
  intro j
  induction j with
  |zero=>intro _;exact Nat.zero_le _
  |succ j ih=>intro hj;have:=ih (by omega);have:=h.inc j (j+1) (by omega) hj;omega
 rcases Nat.eq_zero_or_pos piv.length with e|e
 ·omega
 ·have:=h1 (piv.length - 1) (by omega);have:=h.lt (piv.length - 1) (by omega);omega
theorem det_congr_rows {n:Nat} {A B:Mx} (h:∀i,i<n→∀k,A i k=B i k):det n A=det n B:=det_congr fun i k hi _=>h i hi k
theorem red_det (n:Nat) (W:Mx):(if (redF n n ⟨W,[],1⟩).piv.length<n then 0 else(redF n n ⟨W,[],1⟩).d)=det n W:=by
 have h:=Inv.red (r:=n) (W:=W) n
 generalize redF n n ⟨W,[],1⟩=s at*
 obtain⟨P,h1,h2⟩:=h.by_
 have h3:det n s.w=det n P*det n W:=by rw[det_congr_rows h2,det_mul]
 by_cases g:s.piv.length<n
 ·rw[if_pos g]
  have h4:det n s.w=0:=by
   rw[(det_Alt n).congr s.w (setRow s.w s.piv.length fun _=>0) fun i q hi hq=>by
    by_cases e:i=s.piv.length
    ·rw[e,setRow_at];exact h.low _ (Nat.le_refl _) g q hq
    ·rw[setRow_ne _ _ e],(det_Alt n).zero _ g]
  rw[h4]at h3
  rcases Rat.mul_eq_zero.1 h3.symm with e|e
  ·exact absurd e (det_ne h1)
  ·exact e.symm
 ·rw[if_neg g]
  have hl:=h.len
  have hf:=h.re.full (by omega)
  have h4:det n s.w=1:=by
   rw[det_congr (B:=delta) fun i q hi hq=>by
    have:=h.unit q (by omega) i hi
    rw[hf q hq]at this;rw[this,delta],det_one]
  rw[h4]at h3
  grind
def rnk (r c:Nat) (W:Mx):Nat:=(redF r c ⟨W,[],1⟩).piv.length
end Go.Proofs.YtbopchpncgdaaaaGreatDoor
namespace Go.Sx
set_option linter.unusedSimpArgs false
set_option linter.unusedVariables false
theorem callID {P:Program} {T:List (TypeId×TI)} {Z:List Nat} (hT:TabOK P T) (hm:P.follows .mixedOrders=true) {f:FuncId} {fn':Func} {code:Code} (hf:P.funcs[f]? =some fn') (hb:fn'.body=some code)
  (hn:(fn'.name== "runtime.NumGoroutine")=false) {args:List SV} {fk:List (Nat×Blk)} {c:SV} {new upd:List (Nat×Blk)} (hs:ShapeOKD args fk c new upd) (hnt:Nat.ble args.length fn'.ntmps=true) (hσ:NamesOK fk new fun k=>k)
  (h:∀W0 w0 ρ0,Env.OK ⟨P,T,W0,w0,fn'.ntmps,ρ0,keysOf fk,Z,none⟩→cwp ⟨P,T,W0,w0,fn'.ntmps,ρ0,keysOf fk,Z,none⟩ code (Ret T fn'.results.toList (Fin c new upd)) (enum 0 args) fk):
  CallOK P f args fk c new upd:=by
 have:=callKD hT hm hf hb hn hs hnt (fun k=>k) hσ h
 rwa [renL_id,renH_id,renS_id,renH_id new,renH_id upd]at this
theorem NamesOK.id {fk new:List (Nat×Blk)} (h:nodupN (keysOf fk++keysOf new)=true):NamesOK fk new fun k=>k:=
 ⟨fun _ _ _ _ _ _ h _=>h,fun _ _ _ _ h=>h,fun m q hm hq e=>(List.nodup_append.1 (nodupN_spec h)).2.2 q hq m hm e.symm⟩
end Go.Sx
namespace Go.Proofs.YtbopchpncgdaaaaGreatDoor
open Go.Sx
set_option linter.unusedSimpArgs false
set_option linter.unusedVariables false
set_option maxRecDepth 100000
set_option maxHeartbeats 40000000
theorem pickF_first {w:Mx} {k:Nat}:∀{m i j:Nat},i≤j→j<i+m→(∀a,i≤a→a<j→w a k=0)→w j k≠0→pickF w k m i=some j
 |0,i,j,h1,h2,_,_=>by omega
 |m+1,i,j,h1,h2,h3,h4=>by
  rw[pickF]
  by_cases e:i=j
  ·rw[e,if_neg h4]
  ·rw[if_pos (h3 i (Nat.le_refl _) (by omega))]
   exact pickF_first (by omega) (by omega) (fun a ha hb=>h3 a (by omega) hb) h4
theorem pickF_none {w:Mx} {k:Nat}:∀{m i:Nat},(∀a,i≤a→a<i+m→w a k=0)→pickF w k m i=none
 |0,i,_=>rfl
 |m+1,i,h=>by
  rw[pickF,if_pos (h i (Nat.le_refl _) (by omega))]
  exact pickF_none fun a ha hb=>h a (by omega) (by omega)
def colStep2 (r:Nat) (s:St) (k:Nat):St:=
 match pickF s.w k (r - s.piv.length) s.piv.length with
 |none=>s
 |some i=>⟨clW (swapRow s.w i s.piv.length) s.piv.length k r,s.piv++[k],(if i=s.piv.length then s.d else - s.d)*swapRow s.w i s.piv.length s.piv.length k⟩
def red2F (r c:Nat) (s:St):St:=(List.range c).foldl (colStep2 r) s
theorem red2F_succ (r c:Nat) (s:St):red2F r (c+1) s=colStep2 r (red2F r c s) c:=by
 rw[red2F,List.range_succ,List.foldl_append];rfl
theorem swap_agree {r i p:Nat} {w v:Mx} (h:∀a,a<r→w a=v a) (hi:i<r) (hp:p<r):∀a,a<r→swapRow w i p a=swapRow v i p a:=by
 intro a ha
 unfold swapRow
 by_cases e:a=i
 ·rw[if_pos e,if_pos e];exact h p hp
 ·rw[if_neg e,if_neg e]
  by_cases g:a=p
  ·rw[if_pos g,if_pos g];exact h i hi
  ·rw[if_neg g,if_neg g];exact h a ha
theorem pick_agree {k r:Nat} {w v:Mx} (h:∀a,a<r→w a=v a):∀{m i:Nat},i+m≤r→pickF w k m i=pickF v k m i
 |0,_,_=>rfl
 |m+1,i,hm=>by
  rw[pickF,pickF,h i (by omega),pick_agree h (i:=i+1) (by omega)]
structure Agree (r:Nat) (s t:St):Prop where
 piv:s.piv=t.piv
 d:s.d=t.d
 w:∀a,a<r→s.w a=t.w a
 le:s.piv.length≤r
theorem step_agree {r k:Nat} {s t:St} (h:Agree r s t):Agree r (colStep2 r s k) (colStep r t k):=by
 obtain⟨sw,sp,sd⟩:=s
 obtain⟨tw,tp,td⟩:=t
 obtain⟨rfl,rfl,hw,hl⟩:=h
 simp only at hw hl
 unfold colStep2 colStep
 simp only
 rw[pick_agree hw (by omega)]
 cases hq:pickF tw k (r - sp.length) sp.length with
 |none=>exact⟨rfl,rfl,hw,hl⟩
 |some i=>
  have hs:=pick_some hq
  have hi:i<r:=by omega
  have hp:sp.length<r:=by omega
  have hsw:=swap_agree hw hi hp
  refine⟨rfl, ?_,fun a ha=> ?_, ?_⟩
  ·show _*_=_*_
   rw[hsw _ hp]
  ·show clW (swapRow sw i sp.length) sp.length k r a=clearM (swapRow tw i sp.length) sp.length k a
   rw[clW_end _ ha]
   funext q
   unfold clearM
   rw[hsw a ha,hsw _ hp]
  ·show(sp++[k]).length≤r
   rw[List.length_append];simp;omega
theorem red_agree (r:Nat) (w:Mx):∀c,Agree r (red2F r c ⟨w,[],1⟩) (redF r c ⟨w,[],1⟩)
 |0=>⟨rfl,rfl,fun _ _=>rfl,Nat.zero_le _⟩
 |c+1=>by rw[red2F_succ,redF_succ];exact step_agree (red_agree r w c)
structure Siz (r c A:Nat) (s:St):Prop where
 w:∀a q,a<r→q<c→fs (s.w a q)≤4^s.piv.length*A
 d:fs s.d≤4^s.piv.length*A
theorem swap_siz {r c i p B:Nat} {w:Mx} (h:∀a q,a<r→q<c→fs (w a q)≤B) (hi:i<r) (hp:p<r):∀a q,a<r→q<c→fs (swapRow w i p a q)≤B:=by
 intro a q ha hq
 unfold swapRow
 by_cases e:a=i
 ·rw[if_pos e];exact h p q hp hq
 ·rw[if_neg e]
  by_cases g:a=p
  ·rw[if_pos g];exact h i q hi hq
  ·rw[if_neg g];exact h a q ha hq
theorem Siz.step {r c A k i:Nat} {sw:Mx} {sp:List Nat} {sd:Rat} (h:Siz r c A ⟨sw,sp,sd⟩) (hk:k<c) (hi:i<r) (hp:sp.length<r):Siz r c A ⟨clW (swapRow sw i sp.length) sp.length k r,sp++[k],(if i=sp.length then sd else - sd)*swapRow sw i sp.length sp.length k⟩:=by
 obtain⟨h1,h2⟩:=h
 simp only at h1 h2
 have hs:=swap_siz h1 hi hp
 have hl:(sp++[k]).length=sp.length+1:=by simp
 have h4:4^(sp.length+1)*A=4*(4^sp.length*A):=by rw[Nat.pow_succ,Nat.mul_comm (4^_) 4,Nat.mul_assoc]
 generalize 4^sp.length*A=B at h1 h2 hs h4
 refine⟨fun a q ha hq=> ?_, ?_⟩
 ·simp only
  rw[hl,h4]
  have a1:=hs _ q hp hq
  have a2:=hs _ k hp hk
  have a3:=hs a q ha hq
  have a4:=hs a k ha hk
  unfold clW
  have b1:=fs_div (swapRow sw i sp.length sp.length q) (swapRow sw i sp.length sp.length k)
  by_cases e:a=sp.length
  ·rw[if_pos e];omega
  ·rw[if_neg e,if_pos ha]
   have b2:=fs_mul (swapRow sw i sp.length a k) (swapRow sw i sp.length sp.length q/swapRow sw i sp.length sp.length k)
   have b3:=fs_sub (swapRow sw i sp.length a q) (swapRow sw i sp.length a k*(swapRow sw i sp.length sp.length q/swapRow sw i sp.length sp.length k))
   omega
 ·simp only
  rw[hl,h4]
  have a2:=hs _ k hp hk
  have b1:=fs_mul (if i=sp.length then sd else - sd) (swapRow sw i sp.length sp.length k)
  have b2:fs (if i=sp.length then sd else - sd)=fs sd:=by split<;>simp[fs_neg]
  omega
theorem step_some {r k i:Nat} {sw:Mx} {sp:List Nat} {sd:Rat} (h1:sp.length≤i) (h2:i<r) (h3:∀a,sp.length≤a→a<i→sw a k=0) (h4:sw i k≠0):
  colStep2 r ⟨sw,sp,sd⟩ k=⟨clW (swapRow sw i sp.length) sp.length k r,sp++[k],(if i=sp.length then sd else - sd)*swapRow sw i sp.length sp.length k⟩:=by
 unfold colStep2
 simp only
 rw[pickF_first h1 (by omega) h3 h4]
theorem step_none {r k:Nat} {sw:Mx} {sp:List Nat} {sd:Rat} (hl:sp.length≤r) (h:∀a,sp.length≤a→a<r→sw a k=0):colStep2 r ⟨sw,sp,sd⟩ k=⟨sw,sp,sd⟩:=by
 unfold colStep2
 simp only
 rw[pickF_none fun a ha hb=>h a ha (by omega)]
end Go.Proofs.YtbopchpncgdaaaaGreatDoor
