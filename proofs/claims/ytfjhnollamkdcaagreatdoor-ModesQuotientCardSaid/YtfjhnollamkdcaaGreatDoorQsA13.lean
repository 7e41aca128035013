/- The texts Qf, Qh, Qe. -/
import Derived.Test.YtfjhnollamkdcaaGreatDoorQsA12
namespace Go.Sx
set_option linter.unusedSimpArgs false
set_option linter.unusedVariables false
set_option maxRecDepth 100000
set_option maxHeartbeats 4000000
structure ShapeOKD (args:List SV) (fk:List (Nat×Blk)) (c:SV) (new upd:List (Nat×Blk)):Prop where
 argr:subN (refsL args) (keysOf fk)=true
 fkr:subN (refsB fk) (keysOf fk)=true
 nd:nodupN (keysOf fk++keysOf new)=true
 newW:allWr new=true
 updW:∀k b,(k,b)∈upd→b.wr=true
 updK:∀k b,(k,b)∈upd→∃b0,(k,b0)∈fk∧b0.wr=true∧b0.data.live=true
 updAll:∀k b,(k,b)∈fk→b.wr=true→b.data.live=true→∃b',(k,b')∈upd
 cr:subN (refs c) (keysOf fk++keysOf new)=true
 nr:subN (refsB new) (keysOf fk++keysOf new)=true
 ur:subN (refsB upd) (keysOf fk++keysOf new)=true
 pass:args.all passable=true
theorem ShapeOKD.of {args:List SV} {fk:List (Nat×Blk)} {c:SV} {new upd:List (Nat×Blk)} (h1:subN (refsL args) (keysOf fk)=true) (h2:subN (refsB fk) (keysOf fk)=true) (h3:nodupN (keysOf fk++keysOf new)=true)
  (h4:allWr new=true) (h5:(upd.all fun x=>x.2.wr)=true) (h6:updKB fk upd=true) (h7:updAllB upd fk=true) (h8:subN (refs c) (keysOf fk++keysOf new)=true) (h9:subN (refsB new) (keysOf fk++keysOf new)=true)
  (h10:subN (refsB upd) (keysOf fk++keysOf new)=true) (h11:args.all passable=true):ShapeOKD args fk c new upd:=
 ⟨h1,h2,h3,h4,fun k b hm=>List.all_eq_true.1 h5 _ hm,updKB_spec h6,updAllB_spec h7,h8,h9,h10,h11⟩
theorem callKD {P:Program} {T:List (TypeId×TI)} {Z:List Nat} (hT:TabOK P T) (hm:P.follows .mixedOrders=true) {f:FuncId} {fn':Func} {code:Code} (hf:P.funcs[f]? =some fn') (hb:fn'.body=some code)
  (hn:(fn'.name== "runtime.NumGoroutine")=false) {args:List SV} {fk:List (Nat×Blk)} {c:SV} {new upd:List (Nat×Blk)} (hs:ShapeOKD args fk c new upd) (hnt:Nat.ble args.length fn'.ntmps=true)
  (σ:Nat→Nat) (hσ:NamesOK fk new σ)
  (h:∀W0 w0 ρ0,Env.OK ⟨P,T,W0,w0,fn'.ntmps,ρ0,keysOf fk,Z,none⟩→cwp ⟨P,T,W0,w0,fn'.ntmps,ρ0,keysOf fk,Z,none⟩ code (Ret T fn'.results.toList (Fin c new upd)) (enum 0 args) fk):
  CallOK P f (renL σ args) (renH σ fk) (renS σ c) (renH σ new) (renH σ upd):=by
 have hnt':=Nat.le_of_ble_eq_true hnt
 refine .inl ⟨⟨fn',hf,hn,by rw[hb];rfl⟩,fun ρ w z hz hpw=> ?_⟩
 have hnd:=nodupN_spec hs.nd
 have hndf:(keysOf fk).Nodup:=(List.nodup_append.1 hnd).1
 have hndn:(keysOf new).Nodup:=(List.nodup_append.1 hnd).2.1
 have hdisj:∀m∈keysOf new,m∉keysOf fk:=fun m hm hq=>(List.nodup_append.1 hnd).2.2 m hq m hm rfl
 let ρ1:Rho:=⟨fun q=>if q∈keysOf fk then ρ.key (σ q)else none,ρ.imm,ρ.glob⟩
 have hρ1:∀q∈keysOf fk,ρ.key (σ q)=ρ1.key q:=fun q hq=>by
  show _=if q∈keysOf fk then _ else _
  rw[if_pos hq]
 have hρ1':∀q x,ρ1.key q=some x→q∈keysOf fk:=fun q x hx=>by
  have hx:(if q∈keysOf fk then ρ.key (σ q)else none)=some x:=hx
  by_cases hq:q∈keysOf fk
  ·exact hq
  ·rw[if_neg hq]at hx;cases hx
 let W0:Nat→Prop:=fun b=>∃q blk t,(q,blk)∈upd∧ρ1.key q=some (b,t)
 let E:Env:=⟨P,T,W0,w,fn'.ntmps,ρ1,keysOf fk,Z,none⟩
 have hE:E.OK:=⟨hT,hm,hρ1'⟩
 have hargr:=subN_spec hs.argr
 have hz1:HasZ ρ1 args z:=(renL_iff (ρ:=ρ1) (ρ':=ρ) (σ:=σ) rfl args z (fun k hk=>hρ1 k (hargr k hk))).1 hz
 have hzl:z.length=args.length:=HasZ_length hz1
 have hget:∀(l:List SV) (y:List (List Value)),HasZ ρ1 l y→l.all passable=true→∀(j:Nat) (c:SV),l[j]? =some c→∃v,(List.zipWith mkV l y)[j]? =some v∧Has ρ1 c v:=by
  intro l
  induction l with
  |nil=>intro y _ _ j c h;simp at h
  |cons d l ih=>
   intro y hy hp j c hj
   simp only[HasZ]at hy
   obtain⟨x,r,rfl,g1,g2⟩:=hy
   simp only[List.all_cons,Bool.and_eq_true]at hp
   cases j with
   |zero=>
    simp at hj
    subst hj
    exact⟨mkV d x,by simp,(Has_iff hp.1).2 ⟨x,g1,rfl⟩⟩
   |succ j=>simpa using ih r g2 hp.2 j c (by simpa using hj)
 have hsize:((List.zipWith mkV args z).toArray++Array.replicate (fn'.ntmps - (List.zipWith mkV args z).toArray.size) undef).size=fn'.ntmps:=by
  simp[hzl]
  omega
 have hfkr:=subN_spec hs.fkr
 have hmemf:∀k b,find fk k=some b→(k,b)∈fk:=fun k b hb=>find_mem hb
 have hR:R E.W0 E.w0 E.n ρ1 (fn (enum 0 args) fk) {tmps:=(List.zipWith mkV args z).toArray++Array.replicate (fn'.ntmps - (List.zipWith mkV args z).toArray.size) undef,defers:=[]} w:={
  defers:=.nil
  size:=hsize
  fr:=fun t sv ht=>by
   simp only[fn,LV.sv]at ht
   obtain⟨_,h2⟩:=lk_enum args 0 t sv ht
   obtain⟨v,h3,h4⟩:=hget args z hz1 hs.pass t sv (by simpa using h2)
   have hlt:t<(List.zipWith mkV args z).length:=(List.getElem?_eq_some_iff.1 h3).1
   have:((List.zipWith mkV args z).toArray++Array.replicate (fn'.ntmps - (List.zipWith mkV args z).toArray.size) undef).getD t undef=v:=by
    rw[Array.getD_eq_getD_getElem?,Array.getElem?_append_left (by simpa using hlt)]
    simp[h3]
   rw[this];exact h4
  pres:=.refl _ _
  hp:={
   blk:=fun k b hb=>by
    have hm:=hmemf k b hb
    have:=hpw.hfk (σ k) (renB σ b) (renH_mem.2 ⟨k,b,hm,rfl,rfl⟩)
    exact(renB_iff (ρ:=ρ1) (ρ':=ρ) (σ:=σ) rfl k b (hρ1 k (keysOf_mem.2 ⟨b,hm⟩)) (fun j hj=>hρ1 j (hfkr j (refsB_mem hm j hj)))).1 this
   sep:=fun k k' x x' b b' hx hx' hne he hb hb' hl hl'=>by
    have hm:=hmemf k b hb
    have hm':=hmemf k' b' hb'
    have hkx:ρ.key (σ k)=some x:=by rw[hρ1 k (keysOf_mem.2 ⟨b,hm⟩)];exact hx
    have hkx':ρ.key (σ k')=some x':=by rw[hρ1 k' (keysOf_mem.2 ⟨b',hm'⟩)];exact hx'
    cases hw:b.wr with
    |false=>rfl
    |true=>
     have:=hpw.sep (σ k) (σ k') x x' (renB σ b) (renB σ b') (renH_mem.2 ⟨k,b,hm,rfl,rfl⟩) (renH_mem.2 ⟨k',b',hm',rfl,rfl⟩) hkx hkx' (hσ.inj k k' b b' hm hm' hne hw) he (by rw[renB,renD_live];exact hl) (by rw[renB,renD_live];exact hl')
     rw[renB]at this
     rw[hw]at this;exact this
   own:=fun k b x hb hw hl hx=>by
    have hm:=hmemf k b hb
    obtain⟨b',hu⟩:=hs.updAll k b hm hw hl
    exact .inr ⟨k,b',x.2,hu,hx⟩
   dom:=fun k x hx=>by
    obtain⟨b,hb⟩:=keysOf_mem.1 (hρ1' k x hx)
    exact⟨b,by simp only[fn,LV.blk];exact find_of_mem hndf hb⟩
   imm:=hpw.imm
   immw:=fun k b x hb hw hl hx=>by
    have hm:=hmemf k b hb
    have hkx:ρ.key (σ k)=some x:=by rw[hρ1 k (keysOf_mem.2 ⟨b,hm⟩)];exact hx
    exact hpw.immw (σ k) (renB σ b) x (renH_mem.2 ⟨k,b,hm,rfl,rfl⟩) hw (by rw[renB,renD_live];exact hl) hkx}}
 have hwp:=cwp_sound hE code _ _ _ (h E.W0 w ρ1 hE) _ w ⟨ρ1,⟨.refl _,(fun b o hb=>.inl hb),(fun _ _=>rfl)⟩,(fun k hk=>by
  obtain⟨b,hb⟩:=keysOf_mem.1 hk
  simp only[fn,LV.blk,find_of_mem hndf hb]
  simp),hR⟩
 rw[zip_ren]
 refine calls_of_run (E:=E) rfl hf hb (fun _ _ _ h=>h) (fun _ _ h=>h) hwp ?_
 rintro e a' w' hdf ⟨fr',hp',hK,ρ',hext,_,hR'⟩
 have fin:∀ob l,retAll T fr' hp' fn'.results.toList=some (ob,l)→obP ob→Fin c new upd (retSV l) hp'→a'.defers=[]∧∃v,(results fn' a'.tmps).run P w'= .ok v w'∧∃v' ρ'',Ending.returned v= .returned v'∧Post ρ w (renS σ c) (renH σ new) (renH σ upd) v' ρ'' w':=by
  rintro ob l h1 h2 ⟨h3,hnew,hupd⟩
  obtain⟨v,r1,r2⟩:=results_run hE hR' h1 h2
  let ρ2:Rho:=⟨fun k=>match (keysOf new).find? (fun m=>σ m==k)with
   |some m=>ρ'.key m
   |none=>ρ.key k,ρ'.imm,ρ'.glob⟩
  have k2new:∀m∈keysOf new,ρ2.key (σ m)=ρ'.key m:=by
   intro m hm
   show(match (keysOf new).find? (fun j=>σ j==σ m)with|some m=>ρ'.key m|none=>ρ.key (σ m))=ρ'.key m
   cases hfd:(keysOf new).find? (fun j=>σ j==σ m)with
   |none=>have:=List.find?_eq_none.1 hfd m hm;simp at this
   |some j=>
    have hj:=List.mem_of_find?_eq_some hfd
    have hjs:=List.find?_some hfd
    have:j=m:=Classical.byContradiction fun hne=>hσ.newInj j m hj hm hne (by simpa using hjs)
    rw[this]
  have k2old:∀k,(∀m∈keysOf new,σ m≠k)→ρ2.key k=ρ.key k:=by
   intro k hk
   show(match (keysOf new).find? (fun j=>σ j==k)with|some m=>ρ'.key m|none=>ρ.key k)=ρ.key k
   cases hfd:(keysOf new).find? (fun j=>σ j==k)with
   |none=>rfl
   |some j=>exact absurd (by simpa using List.find?_some hfd) (hk j (List.mem_of_find?_eq_some hfd))
  have k2:∀q∈keysOf fk++keysOf new,ρ2.key (σ q)=ρ'.key q:=by
   intro q hq
   rcases List.mem_append.1 hq with hq|hq
   ·rw[k2old (σ q) (fun m hm=>hσ.newOld m q hm hq),hρ1 q hq,hext.fix q hq]
   ·exact k2new q hq
  have hfresh:∀m∈keysOf new,ρ.key (σ m)=none:=by
   intro m hm
   obtain⟨b,hb⟩:=keysOf_mem.1 hm
   exact hpw.fresh (σ m) (renB σ b) (renH_mem.2 ⟨m,b,hb,rfl,rfl⟩)
  have hnewW:=allWr_spec hs.newW
  have hupdW:=hs.updW
  have hnr:=subN_spec hs.nr
  have hur:=subN_spec hs.ur
  have hcr:=subN_spec hs.cr
  have updlive:∀q b,(q,b)∈upd→q∈keysOf fk:=fun q b hq=>by
   obtain⟨b0,h1,_⟩:=hs.updK q b hq
   exact keysOf_mem.2 ⟨b0,h1⟩
  refine⟨hdf,v,r1,v,ρ2,rfl,⟨⟨fun k x hx=> ?_,fun b o hb=>hext.le.imm b o hb⟩, ?_,fun k hk=> ?_, ?_, ?_, ?_, ?_, ?_, ?_⟩⟩
  ·rw[k2old k]
   ·exact hx
   ·rintro m hm rfl
    rw[hfresh m hm]at hx;cases hx
  ·exact(ren_has (ρ:=ρ') (ρ':=ρ2) (σ:=σ) rfl c v (fun k hk=>k2 k (hcr k hk))).2 (h3 ρ' v r2)
  ·refine k2old k fun m hm he=> ?_
   obtain⟨b,hb⟩:=keysOf_mem.1 hm
   exact hk (renB σ b) (renH_mem.2 ⟨m,b,hb,he.symm,rfl⟩)
  ·refine hR'.pres.mono (fun b _ hb=> ?_)
   obtain⟨q,blk,t,hq,hx⟩:=hb
   refine⟨σ q,renB σ blk,t,renH_mem.2 ⟨q,blk,hq,rfl,rfl⟩, ?_⟩
   rw[hρ1 q (updlive q blk hq)];exact hx
  ·intro k b hk
   rcases hk with hk|hk
   ·obtain⟨q,b0,hq,rfl,rfl⟩:=renH_mem.1 hk
    exact(renB_iff (ρ:=ρ') (ρ':=ρ2) (σ:=σ) rfl q b0 (k2 q (List.mem_append.2 (.inl (updlive q b0 hq)))) (fun j hj=>k2 j (hur j (refsB_mem hq j hj)))).2 (hR'.hp.blk q b0 (by simp only[fn,LV.blk];exact hupd q b0 hq))
   ·obtain⟨q,b0,hq,rfl,rfl⟩:=renH_mem.1 hk
    exact(renB_iff (ρ:=ρ') (ρ':=ρ2) (σ:=σ) rfl q b0 (k2 q (List.mem_append.2 (.inr (keysOf_mem.2 ⟨b0,hq⟩)))) (fun j hj=>k2 j (hnr j (refsB_mem hq j hj)))).2 (hR'.hp.blk q b0 (by simp only[fn,LV.blk];exact hnew q b0 hq))
  ·intro k b b' hk hk' hl hl'
   obtain⟨q,b0,hq,hqk,rfl⟩:=renH_mem.1 hk
   obtain⟨q',b0',hq',hqk',rfl⟩:=renH_mem.1 hk'
   rw[renB,renD_live]at hl hl'
   by_cases he:q=q'
   ·have h1:=hupd q b0 hq
    rw[he,hupd q' b0' hq']at h1
    rw[←Option.some.inj h1,hl']at hl;cases hl
   ·obtain⟨f,hf1,hf2,_⟩:=hs.updK q b0 hq
    obtain⟨f',hf1',_⟩:=hs.updK q' b0' hq'
    exact hσ.inj q q' f f' hf1 hf1' he hf2 (hqk.symm.trans hqk')
  ·intro k b x hk hx
   obtain⟨m,b0,hm,rfl,rfl⟩:=renH_mem.1 hk
   rw[k2new m (keysOf_mem.2 ⟨b0,hm⟩)]at hx
   have hfm:(fn fr' hp' (.k m)).blk=some b0:=by simp only[fn,LV.blk];exact hnew m b0 hm
   rcases hR'.hp.own m b0 x hfm (hnewW m b0 hm).1 (hnewW m b0 hm).2 hx with h4|⟨q,bu,t,hq,hxq⟩
   ·exact .inl h4
   ·have hqf:=updlive q bu hq
    have hne:m≠q:=fun he=>hdisj m (keysOf_mem.2 ⟨b0,hm⟩) (he▸hqf)
    have hxq':ρ'.key q=some (x.1,t):=by rw[hext.fix q hqf];exact hxq
    cases hbl:bu.data.live with
    |true=>
     have:=hR'.hp.sep m q x (x.1,t) b0 bu hx hxq' hne rfl hfm (by simp only[fn,LV.blk];exact hupd q bu hq) (hnewW m b0 hm).2 hbl
     rw[(hnewW m b0 hm).1]at this;cases this
    |false=>
     refine .inr ⟨σ q,renB σ bu,t,renH_mem.2 ⟨q,bu,hq,rfl,rfl⟩,by rw[renB,renD_live];exact hbl, ?_⟩
     rw[hρ1 q hqf];exact hxq
  ·intro k b k' b' x x' hk hk' hne hx hx' he
   obtain⟨m,b0,hm,rfl,rfl⟩:=renH_mem.1 hk
   obtain⟨m',b0',hm',rfl,rfl⟩:=renH_mem.1 hk'
   rw[k2new m (keysOf_mem.2 ⟨b0,hm⟩)]at hx
   rw[k2new m' (keysOf_mem.2 ⟨b0',hm'⟩)]at hx'
   have:=hR'.hp.sep m m' x x' b0 b0' hx hx' (fun h=>hne (by rw[h])) he (by simp only[fn,LV.blk];exact hnew m b0 hm) (by simp only[fn,LV.blk];exact hnew m' b0' hm') (hnewW m b0 hm).2 (hnewW m' b0' hm').2
   rw[(hnewW m b0 hm).1]at this;cases this
  ·intro b o hb
   rcases hext.imm b o hb with h4|h4
   ·exact .inl h4
   ·refine .inr ⟨h4,hR'.hp.imm b o hb,fun k blk x hk hx he=> ?_⟩
    obtain⟨m,b0,hm,rfl,rfl⟩:=renH_mem.1 hk
    rw[k2new m (keysOf_mem.2 ⟨b0,hm⟩)]at hx
    have:=hR'.hp.immw m b0 x (by simp only[fn,LV.blk];exact hnew m b0 hm) (hnewW m b0 hm).1 (hnewW m b0 hm).2 hx
    rw[he]at this
    have hb':ρ'.imm b=some o:=hb
    rw[hb']at this;cases this
 cases e<;>simp only[Ret]at hK<;>simp only[bodyPost]
 ·split at hK
  ·rename_i ob l hl;exact fin ob l hl (req_spec hK).1 (req_spec hK).2
  ·exact hK.elim
 ·split at hK
  ·rename_i ob l hl;exact fin ob l hl (req_spec hK).1 (req_spec hK).2
  ·exact hK.elim
theorem reseq_RR {E:Env} {j:Nat} {ty:TypeId} {wr:Bool} {cs:List SV} {fr:List (Nat×SV)} {hp:List (Nat×Blk)} (hj:find hp j=some ⟨ty,wr,.one cs⟩) (hkl:keylessL cs=true) (hws:allW 1 cs=true) {a:Act} {w:World} (hR:RR E (fn fr hp) a w):
  RR E (fn fr ((j,⟨ty,wr,.seq 1 cs⟩)::hp)) a w:=by
 obtain⟨ρ,hext,hfx,hR⟩:=hR
 have hblk:∀i b,(fn fr ((j,⟨ty,wr,.seq 1 cs⟩)::hp) (.k i)).blk=some b→∃b0,(fn fr hp (.k i)).blk=some b0∧b0.wr=b.wr∧b0.data.live=b.data.live∧(b0=b∨(i=j∧b0=⟨ty,wr,.one cs⟩∧b=⟨ty,wr,.seq 1 cs⟩)):=by
  intro i b hb
  simp only[fn,LV.blk,find]at hb ⊢
  cases hi:Nat.beq j i with
  |true=>
   rw[hi]at hb
   simp only[Option.some.injEq]at hb
   obtain rfl:=Nat.eq_of_beq_eq_true hi
   subst hb
   exact⟨_,hj,rfl,rfl,.inr ⟨rfl,rfl,rfl⟩⟩
  |false=>rw[hi]at hb;exact⟨b,hb,rfl,rfl,.inl rfl⟩
 refine⟨ρ,hext,fun i hi=> ?_,{defers:=hR.defers,size:=hR.size,fr:=fun u sv hu=>hR.fr u sv hu,pres:=hR.pres,hp:= ?_}⟩
 ·have:=hfx i hi
  simp only[fn,LV.blk,find]at this ⊢
  cases hb:Nat.beq j i with
  |true=>simp
  |false=>exact this
 ·constructor
  ·intro i b hb
   obtain⟨b0,h1,h2,h3,rfl|⟨rfl,rfl,rfl⟩⟩:=hblk i b hb
   ·exact hR.hp.blk i b0 h1
   ·rcases hR.hp.blk i _ h1 with h4|⟨b',t,vs,ex,g1,g2,g3,g4,g5⟩|⟨_,h4⟩
    ·cases h4
    ·refine .inr (.inl ⟨b',t,vs,ex,g1,g2, ?_,g4,g5⟩)
     simp only[DataC]at g3 ⊢
     obtain⟨z,g6,g7⟩:=g3
     exact⟨z,keylessL_has (ρ:=ρ) (ρ':=bareR ρ.imm ρ.glob) (fun _ _ h=>h) cs z hkl g6,g7,allW_spec hws⟩
    ·exact h4.elim
  ·intro i i' x x' b b' hx hx' hn hxe hb hb' hl hl'
   obtain⟨b0,h1,h2,h3,_⟩:=hblk i b hb
   obtain⟨b0',h1',h2',h3',_⟩:=hblk i' b' hb'
   rw[←h2]
   exact hR.hp.sep i i' x x' b0 b0' hx hx' hn hxe h1 h1' (h3.trans hl) (h3'.trans hl')
  ·intro i b x hb hw hl hx
   obtain⟨b0,h1,h2,h3,_⟩:=hblk i b hb
   exact hR.hp.own i b0 x h1 (h2.trans hw) (h3.trans hl) hx
  ·intro i x hx
   obtain⟨b,hb⟩:=hR.hp.dom i x hx
   simp only[fn,LV.blk,find]at hb ⊢
   cases hi:Nat.beq j i with
   |true=>exact⟨_,rfl⟩
   |false=>exact⟨b,hb⟩
  ·exact hR.hp.imm
  ·intro i b x hb hw hl hx
   obtain⟨b0,h1,h2,h3,_⟩:=hblk i b hb
   exact hR.hp.immw i b0 x h1 (h2.trans hw) (h3.trans hl) hx
theorem HasZ_at {ρ:Rho}:∀{cs:List SV} {z:List (List Value)} {p:Nat} {c:SV},HasZ ρ cs z→cs[p]? =some c→∃x,z[p]? =some x∧HasC ρ c x
 |[],_,_,_,_,h=>by simp at h
 |d::cs,z,0,c,hz,h=>by
  simp only[HasZ]at hz
  obtain⟨x,r,rfl,h1,_⟩:=hz
  simp only[List.getElem?_cons_zero,Option.some.injEq]at h
  subst h
  exact⟨x,rfl,h1⟩
 |d::cs,z,p+1,c,hz,h=>by
  simp only[HasZ]at hz
  obtain⟨x,r,rfl,_,h2⟩:=hz
  obtain⟨y,h3,h4⟩:=HasZ_at h2 (by simpa using h)
  exact⟨y,by simpa using h3,h4⟩
theorem HasZ_put {ρ:Rho} {v:SV} {x:List Value}:∀{cs:List SV} {z:List (List Value)} {p:Nat},HasZ ρ cs z→z[p]? =some x→HasC ρ v x→HasZ ρ (cs.set p v) z
 |[],z,p,hz,_,_=>by simpa using hz
 |d::cs,z,0,hz,h,hv=>by
  simp only[HasZ]at hz
  obtain⟨y,r,rfl,_,h2⟩:=hz
  simp only[List.getElem?_cons_zero,Option.some.injEq]at h
  subst h
  simp only[List.set_cons_zero,HasZ]
  exact⟨_,_,rfl,hv,h2⟩
 |d::cs,z,p+1,hz,h,hv=>by
  simp only[HasZ]at hz
  obtain⟨y,r,rfl,h1,h2⟩:=hz
  simp only[List.set_cons_succ,HasZ]
  exact⟨y,r,rfl,h1,HasZ_put h2 (by simpa using h) hv⟩
theorem nil_vec' {ρ:Rho} {w:Nat} {a:Option Addr} {l:List SV} (h:l=[]):HasC ρ (vecA w l) [.slice a 0 0]:=by
 subst h;exact nil_vec (by simp only[HasC];exact⟨rfl,rfl⟩)
theorem freezeC_RR {E:Env} (jj pp k:Nat) {tj:TypeId} {wj:Bool} {cs:List SV} {fr:List (Nat×SV)} {hp:List (Nat×Blk)} {ty:TypeId} {d:Data} {w i n:Nat} {xs:List SV} (hW:∀b,¬E.W0 b) (hjf:find hp jj=some ⟨tj,wj,.one cs⟩) (hjk:jj≠k) (hpc:cs[pp]? =some (.slc k w i n)) (hk:find hp k=some ⟨ty,true,d⟩)
  (he:elemsOf d=some xs) (hw:dwidth d=some w) (hkl:keylessL xs=true) (hn:i+n≤xs.length) {a:Act} {W:World} (hR:RR E (fn fr hp) a W):RR E (fn fr ((jj,⟨tj,wj,.one (cs.set pp (vecA w (cutL xs i (i+n))))⟩)::setB hp k ⟨ty,true,.dead⟩)) a W:=by
 have hl:d.live=true:=by cases d<;>simp[elemsOf]at he<;>rfl
 obtain⟨ρ,hext,hfx,hR⟩:=hR
 have hkb:(fn fr hp (.k k)).blk=some ⟨ty,true,d⟩:=by simp only[fn,LV.blk];exact hk
 have hjb:(fn fr hp (.k jj)).blk=some ⟨tj,wj,.one cs⟩:=by simp only[fn,LV.blk];exact hjf
 obtain⟨bj,nj,exj,zj,hj1,hj2,hj3,hj4,hj5⟩:∃bj nj exj zj,ρ.key jj=some (bj,nj)∧W.heap[bj]? =some ((Data.one cs).obj (zj.flatten++exj) tj)∧HasZ ρ cs zj∧(zj.flatten++exj).length=nj∧∀v∈exj,v.oneCell'=true:=by
  rcases hR.hp.blk jj _ hjb with g0|⟨b',t',vs,ex,g1,g2,⟨z,g3,rfl⟩,g4,g5⟩|⟨_,g2⟩
  ·cases g0
  ·exact⟨b',t',ex,z,g1,g2,g3,g4,g5⟩
  ·exact g2.elim
 obtain⟨x,hzx,hx⟩:=HasZ_at hj3 hpc
 have hlayk:∀q b,(fn fr ((jj,⟨tj,wj,.one (cs.set pp (vecA w (cutL xs i (i+n))))⟩)::setB hp k ⟨ty,true,.dead⟩) (.k q)).blk=some b→(q=jj∧b=⟨tj,wj,.one (cs.set pp (vecA w (cutL xs i (i+n))))⟩)∨(q=k∧b=⟨ty,true,.dead⟩)∨(q≠jj∧q≠k∧(fn fr hp (.k q)).blk=some b):=by
  intro q b hb
  simp only[fn,LV.blk,find]at hb ⊢
  cases hq:Nat.beq jj q with
  |true=>
   rw[hq]at hb
   exact .inl ⟨(Nat.eq_of_beq_eq_true hq).symm,(Option.some.inj hb).symm⟩
  |false=>
   rw[hq]at hb
   simp only[find_setB]at hb
   have hne:q≠jj:=by rintro rfl;simp[Nat.beq_refl]at hq
   by_cases hj:q=k
   ·rw[if_pos hj]at hb;exact .inr (.inl ⟨hj,(Option.some.inj hb).symm⟩)
   ·rw[if_neg hj]at hb;exact .inr (.inr ⟨hne,hj,hb⟩)
 have fin:∀ρ':Rho,ρ'.key=ρ.key→(∀b o,ρ.imm b=some o→ρ'.imm b=some o)→(∀b o,ρ'.imm b=some o→ρ.imm b=some o∨E.w0.heap.size≤b)→(∀b o,ρ'.imm b=some o→W.heap[b]? =some o)→
   (∀j b x,j≠k→(fn fr hp (.k j)).blk=some b→b.wr=true→b.data.live=true→ρ.key j=some x→ρ'.imm x.1=none)→(∀D,W.heap[D]? =some (.deferred (some []))→ρ.imm D=none→ρ'.imm D=none)→HasC ρ' (vecA w (cutL xs i (i+n))) x→
   RR E (fn fr ((jj,⟨tj,wj,.one (cs.set pp (vecA w (cutL xs i (i+n))))⟩)::setB hp k ⟨ty,true,.dead⟩)) a W:=by
  intro ρ' hkey himm hnew hheap hnone hmark hhas
  have hle:ρ.Le ρ':=⟨fun j y hy=>by rw[hkey];exact hy,himm⟩
  refine⟨ρ',⟨hext.le.trans hle,fun b o hb=>(hnew b o hb).elim (fun h=>hext.imm b o h) .inr,fun j hj=>by rw[hkey];exact hext.fix j hj⟩,fun j hj=> ?_,{defers:= ?_,size:=hR.size,fr:= ?_,pres:=hR.pres,hp:= ?_}⟩
  ·have:=hfx j hj
   simp only[fn,LV.blk,find]at this ⊢
   cases hq:Nat.beq jj j with
   |true=>simp
   |false=>
    simp only[find_setB]
    split
    ·simp
    ·exact this
  ·obtain⟨Ds,d1,d2,d3⟩:=hR.defers
   refine⟨Ds,d1,d2,fun D hD=> ?_⟩
   obtain⟨e1,e2,e3⟩:=d3 D hD
   refine⟨e1,e2, ?_⟩
   exact hmark D e2 e3
  ·intro u sv hu
   exact Has.mono hle _ _ (hR.fr u sv hu)
  ·have hmap:∀q b,(fn fr ((jj,⟨tj,wj,.one (cs.set pp (vecA w (cutL xs i (i+n))))⟩)::setB hp k ⟨ty,true,.dead⟩) (.k q)).blk=some b→b.data.live=true→∃b0,(fn fr hp (.k q)).blk=some b0∧b0.wr=b.wr∧b0.data.live=true∧q≠k:=by
    intro q b hb hlv
    rcases hlayk q b hb with⟨rfl,rfl⟩|⟨_,rfl⟩|⟨_,h2,h3⟩
    ·exact⟨_,hjb,rfl,rfl,hjk⟩
    ·cases hlv
    ·exact⟨b,h3,rfl,hlv,h2⟩
   constructor
   ·intro q b hb
    rcases hlayk q b hb with⟨rfl,rfl⟩|⟨rfl,rfl⟩|⟨_,_,hb⟩
    ·refine .inr (.inl ⟨bj,nj,zj.flatten,exj,by rw[hkey];exact hj1,hj2,⟨zj, ?_,rfl⟩,hj4,hj5⟩)
     exact HasZ_put (HasZ.mono hle cs zj hj3) hzx hhas
    ·exact .inl rfl
    ·rcases hR.hp.blk q b hb with g0|⟨b',t',vs,ex,g1,g2,g3,g4⟩|⟨g1,g2⟩
     ·exact .inl g0
     ·exact .inr (.inl ⟨b',t',vs,ex,by rw[hkey];exact g1,g2,g3.mono hle,g4⟩)
     ·exact .inr (.inr ⟨by rw[hkey];exact g1,g2⟩)
   ·intro j j' y y' b b' hy hy' hne hyy hb hb' hl1 hl2
    rw[hkey]at hy hy'
    obtain⟨c0,h1,h2,h3,_⟩:=hmap j b hb hl1
    obtain⟨c0',h1',h2',h3',_⟩:=hmap j' b' hb' hl2
    rw[←h2]
    exact hR.hp.sep j j' y y' c0 c0' hy hy' hne hyy h1 h1' h3 h3'
   ·intro j b y hb hwr hl1 hy
    rw[hkey]at hy
    obtain⟨c0,h1,h2,h3,_⟩:=hmap j b hb hl1
    exact hR.hp.own j c0 y h1 (h2.trans hwr) h3 hy
   ·intro j y hy
    rw[hkey]at hy
    obtain⟨b,hb⟩:=hR.hp.dom j y hy
    simp only[fn,LV.blk,find]at hb ⊢
    cases hq:Nat.beq jj j with
    |true=>exact⟨_,rfl⟩
    |false=>
     simp only[find_setB]
     split
     ·exact⟨_,rfl⟩
     ·exact⟨b,hb⟩
   ·exact hheap
   ·intro j b y hb hwr hl1 hy
    rw[hkey]at hy
    obtain⟨c0,h1,h2,h3,h4⟩:=hmap j b hb hl1
    exact hnone j c0 y h4 h1 (h2.trans hwr) h3 hy
 rcases vec_of_blk (hR.hp.blk k _ hkb) he hw hkl hn hx with⟨rfl,ad,rfl⟩|⟨b,t',o,h1,h2,h3⟩
 ·refine fin ρ rfl (fun _ _ h=>h) (fun _ _ h=>.inl h) hR.hp.imm (fun j b y _ hb hwr hl1 hy=>hR.hp.immw j b y hb hwr hl1 hy) (fun _ _ h=>h) ?_
  exact nil_vec' (by simp[cutL])
 ·have hB:E.w0.heap.size≤b:=(hR.hp.own k _ _ hkb rfl hl h1).resolve_right (hW _)
  obtain⟨u,hup⟩:=(Up.refl ρ W E.w0.heap.size).add hR.hp.imm hB h2
  refine fin ⟨ρ.key,_,u.glob⟩ rfl u.le (fun b o hb=>(u.new b o hb).imp id (fun h=>h.1)) (fun c p hc=> ?_) (fun j blk y hj hb hwr hl1 hy=> ?_) (fun D hD1 hD2=> ?_) ?_
  ·rcases u.new c p hc with h|h
   ·exact hR.hp.imm c p h
   ·exact h.2
  ·show(if y.1=b then some o else ρ.imm y.1)=none
   rw[if_neg]
   ·exact hR.hp.immw j blk y hb hwr hl1 hy
   ·intro he2
    have:=hR.hp.sep k j (b,t') y _ _ h1 hy (fun h=>hj h.symm) he2.symm hkb hb hl hl1
    cases this
  ·show(if D=b then some o else ρ.imm D)=none
   rw[if_neg,hD2]
   rintro rfl
   rcases hR.hp.blk k _ hkb with g0|⟨b',t'',vs,ex,g1,g2,_⟩|⟨g1,_⟩
   ·rw[show Data.live d=false from g0]at hl;cases hl
   ·rw[h1]at g1;cases g1;rw[hD1]at g2;exact Data.obj_deferred (Option.some.inj g2).symm
   ·rw[h1]at g1;cases g1
  ·exact HasC.mono (bareR_up ⟨ρ.key,_,u.glob⟩ u.glob) _ _ (h3 _ u.glob u.le (by simp))
theorem freezeP_RR {E:Env} (t k:Nat) {fr:List (Nat×SV)} {hp:List (Nat×Blk)} {ty:TypeId} {cs:List SV} (hW:∀b,¬E.W0 b) (ht:lk fr t=some (.ptr k 0 0 0)) (hk:find hp k=some ⟨ty,true,.one cs⟩)
  (hkl:keylessL cs=true) {a:Act} {W:World} (hR:RR E (fn fr hp) a W):RR E (fn ((t,ptrA cs)::fr) (setB hp k ⟨ty,true,.dead⟩)) a W:=by
 have hl:(Data.one cs).live=true:=rfl
 obtain⟨ρ,hext,hfx,hR⟩:=hR
 have hkb:(fn fr hp (.k k)).blk=some ⟨ty,true,.one cs⟩:=by simp only[fn,LV.blk];exact hk
 have hv:=hR.fr t _ (by simp only[fn,LV.sv];exact ht)
 obtain⟨x,hx,hxv⟩:=(Has_iff (c:=.ptr k 0 0 0) rfl).1 hv
 have hlayk:∀j b,(fn ((t,ptrA cs)::fr) (setB hp k ⟨ty,true,.dead⟩) (.k j)).blk=some b→(j=k∧b=⟨ty,true,.dead⟩)∨(j≠k∧(fn fr hp (.k j)).blk=some b):=by
  intro j b hb
  simp only[fn,LV.blk,find_setB]at hb ⊢
  by_cases hj:j=k
  ·rw[if_pos hj]at hb;exact .inl ⟨hj,(Option.some.inj hb).symm⟩
  ·rw[if_neg hj]at hb;exact .inr ⟨hj,hb⟩
 have fin:∀ρ':Rho,ρ'.key=ρ.key→(∀b o,ρ.imm b=some o→ρ'.imm b=some o)→(∀b o,ρ'.imm b=some o→ρ.imm b=some o∨E.w0.heap.size≤b)→(∀b o,ρ'.imm b=some o→W.heap[b]? =some o)→
   (∀j b x,j≠k→(fn fr hp (.k j)).blk=some b→b.wr=true→b.data.live=true→ρ.key j=some x→ρ'.imm x.1=none)→(∀D,W.heap[D]? =some (.deferred (some []))→ρ.imm D=none→ρ'.imm D=none)→Has ρ' (ptrA cs) (a.tmps.getD t undef)→
   RR E (fn ((t,ptrA cs)::fr) (setB hp k ⟨ty,true,.dead⟩)) a W:=by
  intro ρ' hkey himm hnew hheap hnone hmark hhas
  have hle:ρ.Le ρ':=⟨fun j y hy=>by rw[hkey];exact hy,himm⟩
  refine⟨ρ',⟨hext.le.trans hle,fun b o hb=>(hnew b o hb).elim (fun h=>hext.imm b o h) .inr,fun j hj=>by rw[hkey];exact hext.fix j hj⟩,fun j hj=> ?_,{defers:= ?_,size:=hR.size,fr:= ?_,pres:=hR.pres,hp:= ?_}⟩
  ·have:=hfx j hj
   simp only[fn,LV.blk,find_setB]at this ⊢
   split
   ·simp
   ·exact this
  ·obtain⟨Ds,d1,d2,d3⟩:=hR.defers
   refine⟨Ds,d1,d2,fun D hD=> ?_⟩
   obtain⟨e1,e2,e3⟩:=d3 D hD
   refine⟨e1,e2, ?_⟩
   exact hmark D e2 e3
  ·intro u sv hu
   simp only[fn,LV.sv,lk]at hu
   cases hb:Nat.beq t u with
   |true=>
    rw[hb]at hu
    simp only[Option.some.injEq]at hu
    subst hu
    rw[←Nat.eq_of_beq_eq_true hb]
    exact hhas
   |false=>rw[hb]at hu;exact Has.mono hle _ _ (hR.fr u sv (by simp only[fn,LV.sv];exact hu))
  ·constructor
   ·intro j b hb
    rcases hlayk j b hb with⟨rfl,rfl⟩|⟨hj,hb⟩
    ·exact .inl rfl
    ·rcases hR.hp.blk j b hb with g0|⟨b',t',vs,ex,g1,g2,g3,g4⟩|⟨g1,g2⟩
     ·exact .inl g0
     ·exact .inr (.inl ⟨b',t',vs,ex,by rw[hkey];exact g1,g2,g3.mono hle,g4⟩)
     ·exact .inr (.inr ⟨by rw[hkey];exact g1,g2⟩)
   ·intro j j' y y' b b' hy hy' hne hyy hb hb' hl1 hl2
    rw[hkey]at hy hy'
    rcases hlayk j b hb with⟨_,rfl⟩|⟨_,hb⟩
    ·cases hl1
    rcases hlayk j' b' hb' with⟨_,rfl⟩|⟨_,hb'⟩
    ·cases hl2
    exact hR.hp.sep j j' y y' b b' hy hy' hne hyy hb hb' hl1 hl2
   ·intro j b y hb hwr hl1 hy
    rw[hkey]at hy
    rcases hlayk j b hb with⟨_,rfl⟩|⟨_,hb⟩
    ·cases hl1
    exact hR.hp.own j b y hb hwr hl1 hy
   ·intro j y hy
    rw[hkey]at hy
    obtain⟨b,hb⟩:=hR.hp.dom j y hy
    simp only[fn,LV.blk,find_setB]at hb ⊢
    split
    ·exact⟨_,rfl⟩
    ·exact⟨b,hb⟩
   ·exact hheap
   ·intro j b y hb hwr hl1 hy
    rw[hkey]at hy
    rcases hlayk j b hb with⟨_,rfl⟩|⟨hj,hb⟩
    ·cases hl1
    exact hnone j b y hj hb hwr hl1 hy
 simp only[HasC]at hx
 obtain⟨b,t',h1,rfl⟩:=hx
 rcases hR.hp.blk k _ hkb with g0|⟨b',t'',vs,ex,g1,g2,g3,g4,g5⟩|⟨g1,_⟩
 ·cases g0
 ·rw[h1]at g1
  cases g1
  rw[Data.obj_cells rfl]at g2
  have h2:W.heap[b]? =some (.cells (vs++ex).toArray ty (0,0)):=g2
  simp only[DataC]at g3
  obtain⟨z,z1,rfl⟩:=g3
  have hB:E.w0.heap.size≤b:=(hR.hp.own k _ _ hkb rfl hl h1).resolve_right (hW _)
  obtain⟨u,hup⟩:=(Up.refl ρ W E.w0.heap.size).add hR.hp.imm hB h2
  refine fin ⟨ρ.key,_,u.glob⟩ rfl u.le (fun b o hb=>(u.new b o hb).imp id (fun h=>h.1)) (fun c p hc=> ?_) (fun j blk y hj hb hwr hl1 hy=> ?_) (fun D hD1 hD2=> ?_) ?_
  ·rcases u.new c p hc with h|h
   ·exact hR.hp.imm c p h
   ·exact h.2
  ·show(if y.1=b then some _ else ρ.imm y.1)=none
   rw[if_neg]
   ·exact hR.hp.immw j blk y hb hwr hl1 hy
   ·intro he2
    have:=hR.hp.sep k j (b,t') y _ _ h1 hy (fun h=>hj h.symm) he2.symm hkb hb hl hl1
    cases this
  ·show(if D=b then some _ else ρ.imm D)=none
   rw[if_neg,hD2]
   rintro rfl
   rw[hD1]at h2;cases h2
  ·rw[hxv]
   have hz:HasZ (bareR (fun x=>if x=b then some (.cells (z.flatten++ex).toArray ty (0,0))else ρ.imm x) u.glob) cs z:=keylessL_has (ρ:=ρ) u.le cs z hkl z1
   refine ptrA_has ⟨b,z,[],ex,ty,(0,0),if_pos rfl,hz, ?_⟩
   simp[mkV,SV.isOne]
 ·rw[h1]at g1;cases g1
end Go.Sx
namespace Go.Sx
set_option linter.unusedSimpArgs false
set_option linter.unusedVariables false
theorem callID {P:Program} {T:List (TypeId×TI)} {Z:List Nat} (hT:TabOK P T) (hm:P.follows .mixedOrders=true) {f:FuncId} {fn':Func} {code:Code} (hf:P.funcs[f]? =some fn') (hb:fn'.body=some code)
  (hn:(fn'.name== "runtime.NumGoroutine")=false) {args:List SV} {fk:List (Nat×Blk)} {c:SV} {new upd:List (Nat×Blk)} (hs:ShapeOKD args fk c new upd) (hnt:Nat.ble args.length fn'.ntmps=true) (hσ:NamesOK fk new fun k=>k)
  (h:∀W0 w0 ρ0,Env.OK ⟨P,T,W0,w0,fn'.ntmps,ρ0,keysOf fk,Z,none⟩→cwp ⟨P,T,W0,w0,fn'.ntmps,ρ0,keysOf fk,Z,none⟩ code (Ret T fn'.results.toList (Fin c new upd)) (enum 0 args) fk):
  CallOK P f args fk c new upd:=by
 have:=callKD hT hm hf hb hn hs hnt (fun k=>k) hσ h
 rwa [renL_id,renH_id,renS_id,renH_id new,renH_id upd]at this
theorem NamesOK.id {fk new:List (Nat×Blk)} (h:nodupN (keysOf fk++keysOf new)=true):NamesOK fk new fun k=>k:=
 ⟨fun _ _ _ _ _ _ h _=>h,fun _ _ _ _ h=>h,fun m q hm hq e=>(List.nodup_append.1 (nodupN_spec h)).2.2 q hq m hm e.symm⟩
end Go.Sx
namespace Go.Proofs.YtfjhnollamkdcaaGreatDoor
open Go.Sx
set_option linter.unusedSimpArgs false
set_option linter.unusedVariables false
set_option maxRecDepth 100000
set_option maxHeartbeats 40000000
theorem pickF_first {w:Mx} {k:Nat}:∀{m i j:Nat},i≤j→j<i+m→(∀a,i≤a→a<j→w a k=0)→w j k≠0→pickF w k m i=some j
 |0,i,j,h1,h2,_,_=>by omega
 |m+1,i,j,h1,h2,h3,h4=>by
  rw[pickF]
  by_cases e:i=j
  ·rw[e,if_neg h4]
  ·rw[if_pos (h3 i (Nat.le_refl _) (by omega))]
   exact pickF_first (by omega) (by omega) (fun a ha hb=>h3 a (by omega) hb) h4
theorem pickF_none {w:Mx} {k:Nat}:∀{m i:Nat},(∀a,i≤a→a<i+m→w a k=0)→pickF w k m i=none
 |0,i,_=>rfl
 |m+1,i,h=>by
  rw[pickF,if_pos (h i (Nat.le_refl _) (by omega))]
  exact pickF_none fun a ha hb=>h a (by omega) (by omega)
def colStep2 (r:Nat) (s:St) (k:Nat):St:=
 match pickF s.w k (r - s.piv.length) s.piv.length with
 |none=>s
 |some i=>⟨clW (swapRow s.w i s.piv.length) s.piv.length k r,s.piv++[k],(if i=s.piv.length then s.d else - s.d)*swapRow s.w i s.piv.length s.piv.length k⟩
def red2F (r c:Nat) (s:St):St:=(List.range c).foldl (colStep2 r) s
theorem red2F_succ (r c:Nat) (s:St):red2F r (c+1) s=colStep2 r (red2F r c s) c:=by
 rw[red2F,List.range_succ,List.foldl_append];rfl
theorem swap_agree {r i p:Nat} {w v:Mx} (h:∀a,a<r→w a=v a) (hi:i<r) (hp:p<r):∀a,a<r→swapRow w i p a=swapRow v i p a:=by
 intro a ha
 unfold swapRow
 by_cases e:a=i
 ·rw[if_pos e,if_pos e];exact h p hp
 ·rw[if_neg e,if_neg e]
  by_cases g:a=p
  ·rw[if_pos g,if_pos g];exact h i hi
  ·rw[if_neg g,if_neg g];exact h a ha
theorem pick_agree {k r:Nat} {w v:Mx} (h:∀a,a<r→w a=v a):∀{m i:Nat},i+m≤r→pickF w k m i=pickF v k m i
 |0,_,_=>rfl
 |m+1,i,hm=>by
  rw[pickF,pickF,h i (by omega),pick_agree h (i:=i+1) (by omega)]
structure Agree (r:Nat) (s t:St):Prop where
 piv:s.piv=t.piv
 d:s.d=t.d
 w:∀a,a<r→s.w a=t.w a
 le:s.piv.length≤r
theorem step_agree {r k:Nat} {s t:St} (h:Agree r s t):Agree r (colStep2 r s k) (colStep r t k):=by
 obtain⟨sw,sp,sd⟩:=s
 obtain⟨tw,tp,td⟩:=t
 obtain⟨rfl,rfl,hw,hl⟩:=h
 simp only at hw hl
 unfold colStep2 colStep
 simp only
 rw[pick_agree hw (by omega)]
 cases hq:pickF tw k (r - sp.length) sp.length with
 |none=>exact⟨rfl,rfl,hw,hl⟩
 |some i=>
  have hs:=pick_some hq
  have hi:i<r:=by omega
  have hp:sp.length<r:=by omega
  have hsw:=swap_agree hw hi hp
  refine⟨rfl, ?_,fun a ha=> ?_, ?_⟩
  ·show _*_=_*_
   rw[hsw _ hp]
  ·show clW (swapRow sw i sp.length) sp.length k r a=clearM (swapRow tw i sp.length) sp.length k a
   rw[clW_end _ ha]
   funext q
   unfold clearM
   rw[hsw a ha,hsw _ hp]
  ·show(sp++[k]).length≤r
   rw[List.length_append];simp;omega
theorem red_agree (r:Nat) (w:Mx):∀c,Agree r (red2F r c ⟨w,[],1⟩) (redF r c ⟨w,[],1⟩)
 |0=>⟨rfl,rfl,fun _ _=>rfl,Nat.zero_le _⟩
 |c+1=>by rw[red2F_succ,redF_succ];exact step_agree (red_agree r w c)
structure Siz (r c A:Nat) (s:St):Prop where
 w:∀a q,a<r→q<c→fs (s.w a q)≤4^s.piv.length*A
 d:fs s.d≤4^s.piv.length*A
theorem swap_siz {r c i p B:Nat} {w:Mx} (h:∀a q,a<r→q<c→fs (w a q)≤B) (hi:i<r) (hp:p<r):∀a q,a<r→q<c→fs (swapRow w i p a q)≤B:=by
 intro a q ha hq
 unfold swapRow
 by_cases e:a=i
 ·rw[if_pos e];exact h p q hp hq
 ·rw[if_neg e]
  by_cases g:a=p
  ·rw[if_pos g];exact h i q hi hq
  ·rw[if_neg g];exact h a q ha hq
theorem Siz.step {r c A k i:Nat} {sw:Mx} {sp:List Nat} {sd:Rat} (h:Siz r c A ⟨sw,sp,sd⟩) (hk:k<c) (hi:i<r) (hp:sp.length<r):Siz r c A ⟨clW (swapRow sw i sp.length) sp.length k r,sp++[k],(if i=sp.length then sd else - sd)*swapRow sw i sp.length sp.length k⟩:=by
 obtain⟨h1,h2⟩:=h
 simp only at h1 h2
 have hs:=swap_siz h1 hi hp
 have hl:(sp++[k]).length=sp.length+1:=by simp
 have h4:4^(sp.length+1)*A=4*(4^sp.length*A):=by rw[Nat.pow_succ,Nat.mul_comm (4^_) 4,Nat.mul_assoc]
 generalize 4^sp.length*A=B at h1 h2 hs h4
 refine⟨fun a q ha hq=> ?_, ?_⟩
 ·simp only
  rw[hl,h4]
  have a1:=hs _ q hp hq
  have a2:=hs _ k hp hk
  have a3:=hs a q ha hq
  have a4:=hs a k ha hk
  unfold clW
  have b1:=fs_div (swapRow sw i sp.length sp.length q) (swapRow sw i sp.length sp.length k)
  by_cases e:a=sp.length
  ·rw[if_pos e];omega
  ·rw[if_neg e,if_pos ha]
   have b2:=fs_mul (swapRow sw i sp.length a k) (swapRow sw i sp.length sp.length q/swapRow sw i sp.length sp.length k)
   have b3:=fs_sub (swapRow sw i sp.length a q) (swapRow sw i sp.length a k*(swapRow sw i sp.length sp.length q/swapRow sw i sp.length sp.length k))
   omega
 ·simp only
  rw[hl,h4]
  have a2:=hs _ k hp hk
  have b1:=fs_mul (if i=sp.length then sd else - sd) (swapRow sw i sp.length sp.length k)
  have b2:fs (if i=sp.length then sd else - sd)=fs sd:=by split<;>simp[fs_neg]
  omega
theorem step_some {r k i:Nat} {sw:Mx} {sp:List Nat} {sd:Rat} (h1:sp.length≤i) (h2:i<r) (h3:∀a,sp.length≤a→a<i→sw a k=0) (h4:sw i k≠0):
  colStep2 r ⟨sw,sp,sd⟩ k=⟨clW (swapRow sw i sp.length) sp.length k r,sp++[k],(if i=sp.length then sd else - sd)*swapRow sw i sp.length sp.length k⟩:=by
 unfold colStep2
 simp only
 rw[pickF_first h1 (by omega) h3 h4]
theorem step_none {r k:Nat} {sw:Mx} {sp:List Nat} {sd:Rat} (hl:sp.length≤r) (h:∀a,sp.length≤a→a<r→sw a k=0):colStep2 r ⟨sw,sp,sd⟩ k=⟨sw,sp,sd⟩:=by
 unfold colStep2
 simp only
 rw[pickF_none fun a ha hb=>h a ha (by omega)]
end Go.Proofs.YtfjhnollamkdcaaGreatDoor
namespace Go.Sx
set_option linter.unusedSimpArgs false
set_option linter.unusedVariables false
set_option maxRecDepth 100000
set_option maxHeartbeats 4000000
structure R1 (ρ:Rho) (s:Nat) (cs:List SV) (z:List (List Value)):Prop where
 has:HasZ ρ cs z
 wid:∀c∈cs,c.width=s
theorem HasZ.each {ρ:Rho} {s:Nat}:∀{cs:List SV} {z:List (List Value)},HasZ ρ cs z→(∀c∈cs,c.width=s)→∀u∈z,u.length=s∧∀v∈u,v.oneCell'=true
 |[],z,h,_,u,hu=>by simp only[HasZ]at h;subst h;cases hu
 |c::l,z,h,hw,u,hu=>by
  simp only[HasZ]at h
  obtain⟨x,r,rfl,h1,h2⟩:=h
  rcases List.mem_cons.1 hu with rfl|hu
  ·have:=HasC.len c _ h1
   rw[hw c (List.mem_cons_self ..)]at this
   exact this
  ·exact HasZ.each h2 (fun d hd=>hw d (List.mem_cons_of_mem _ hd)) u hu
theorem R1.len {ρ:Rho} {s:Nat} {cs:List SV} {z:List (List Value)} (h:R1 ρ s cs z):z.length=cs.length∧∀u∈z,u.length=s:=⟨HasZ_length h.has,fun u hu=>(h.has.each h.wid u hu).1⟩
theorem R1.one' {ρ:Rho} {s:Nat} {cs:List SV} {z:List (List Value)} (h:R1 ρ s cs z):∀u∈z,∀v∈u,v.oneCell'=true:=fun u hu=>(h.has.each h.wid u hu).2
theorem R1.data {ρ:Rho} {s:Nat} {cs:List SV} {z:List (List Value)} (h:R1 ρ s cs z):DataC ρ (.one cs) z.flatten:=⟨z,h.has,rfl⟩
theorem R1.notLoop {ρ:Rho} {s:Nat} {cs:List SV} {z:List (List Value)} (_:R1 ρ s cs z):(Data.one cs).isLoop=false:=rfl
theorem R1.app {ρ:Rho} {s n i m:Nat} {cs cs2:List SV} {z z2:List (List Value)} (h:R1 ρ s cs z) (h2:R1 ρ s cs2 z2) (hn:n=cs.length) (hi:i=0) (hm:m=cs2.length):R1 ρ s (cs++cs2) (z.take n++(z2.drop i).take m):=by
 rw[hn,←h.len.1,List.take_length,hi,List.drop_zero,hm,←h2.len.1,List.take_length]
 exact⟨HasZ_append h.has h2.has,fun c hc=>(List.mem_append.1 hc).elim (h.wid c) (h2.wid c)⟩
theorem blk_rows1 {ρ:Rho} {w:World} {k s:Nat} {ty:TypeId} {wr:Bool} {cs:List SV} (hb:BlkOK ρ w k ⟨ty,wr,.one cs⟩) (hw:allW s cs=true):
  ∃z,R1 ρ s cs z∧((∃b t ex,ρ.key k=some (b,t)∧w.heap[b]? =some (.cells (z.flatten++ex).toArray ty (0,0))∧(z.flatten++ex).length=t∧(∀v∈ex,v.oneCell'=true))∨(ρ.key k=none∧z=[])):=by
 rcases hb with h0|⟨b,t,vs,ex,h1,h2,h3,h4,h5⟩|⟨_,h2⟩
 ·cases h0
 ·obtain⟨z,hz,rfl⟩:=h3
  exact⟨z,⟨hz,allW_spec hw⟩,.inl ⟨b,t,ex,h1,by rw[h2,Data.obj_cells rfl],h4,h5⟩⟩
 ·exact h2.elim
theorem run_first1 {P:Program} {cs:List SV} {ty:TypeId} {wr:Bool} {ρ:Rho} {w:World} {k s i n:Nat} {v:Value} (hv:Has ρ (.slc k s i n) v) (hb:BlkOK ρ w k ⟨ty,wr,.one cs⟩) (hw:allW s cs=true) (hin:i+n≤cs.length):
  ∃z,R1 ρ s cs z∧(∀w',(∀b,b<w.heap.size→w'.heap[b]? =w.heap[b]?)→(Builtin.firstCells s n v).run P w'= .ok (((z.drop i).take n).flatten).toArray w')∧Builtin.lenOf v=Pure.pure n:=by
 obtain⟨z,hz,hcase⟩:=blk_rows1 hb hw
 obtain⟨zl,zw⟩:=hz.len
 refine⟨z,hz, ?_⟩
 rcases has_slc hv with⟨b,t,cap,e1,e2,e3,rfl⟩|⟨rfl,a,rfl⟩
 ·rcases hcase with⟨b',t',ex,h1,h2,h3,h4⟩|⟨h1,_⟩
  ·rw[e1]at h1
   cases h1
   refine⟨fun w' hw'=> ?_,rfl⟩
   have hblt:b<w.heap.size:=by
    rcases Nat.lt_or_ge b w.heap.size with h'|h'
    ·exact h'
    ·simp[Array.getElem?_eq_none h']at h2
   have hh:w'.heap[b]? =some (.cells (z.flatten++ex).toArray ty (0,0)):=by rw[hw' b hblt];exact h2
   have hseg:((z.drop i).take n).flatten=(z.flatten.drop (i*s)).take (n*s):=by
    rw[flatten_take (s:=s) _ _ (fun u hu=>zw u (List.mem_of_mem_drop hu)),flatten_drop (s:=s) _ _ zw]
   have hlen:(((z.drop i).take n).flatten).length=n*s:=by
    rw[flatten_len (s:=s) _ (fun u hu=>zw u (List.mem_of_mem_drop (List.mem_of_mem_take hu))),List.length_take,List.length_drop]
    congr 1
    omega
   refine run_firstCells_some (P:=P) w' s n _ n cap _ hlen ?_
   intro j u hj
   have hadd:(⟨b,i*s,none⟩:Addr).add j=⟨b,i*s+j,none⟩:=by unfold Addr.add;split<;>simp_all
   rw[hadd,cell_of_row w' b (i*s+j) _ ty (0,0) hh]
   have h6:=take_eq_get hseg j u hj
   have hlt:i*s+j<z.flatten.length:=(List.getElem?_eq_some_iff.1 h6).1
   simp only[List.getElem?_toArray]
   rw[List.getElem?_append_left hlt]
   exact h6
  ·rw[e1]at h1;cases h1
 ·refine⟨fun w' _=> ?_,rfl⟩
  cases a with
  |none=>simp[Builtin.firstCells]
  |some a=>simp[Builtin.firstCells,loadCells,loadCellsFrom]
theorem op_append1 {P:Program} {o:Oper} {fr:List (Nat×SV)} {fk:List (Nat×Blk)} {t t2 e:TypeId} {x y:Operand} {xs:Array Operand} {ts:Array TypeId} {ti ti2 te:TI} {k k2 kn n i2 m:Nat} {cs cs2:List SV} {ty2:TypeId} {wr2:Bool} (ho:o.op= .call ⟨.builtin .append,xs,ts⟩) (hxs:xs= #[x,y]) (hts:ts= #[t,t2])
  (hx:EvOK fr x (.slc k te.size 0 n)) (hy:EvOK fr y (.slc k2 te.size i2 m)) (ht:TOK P t ti) (hk:ti.kind= .slc e) (ht2:TOK P t2 ti2) (hk2:ti2.kind= .slc e) (he:TOK P e te)
  (hf:(k,⟨e,true,.one cs⟩)∈fk) (hf2:(k2,⟨ty2,wr2,.one cs2⟩)∈fk) (hw1:allW te.size cs=true) (hw2:allW te.size cs2=true) (hpos:0<m) (hi2:i2=0)
  (hn:n=cs.length) (hm:m=cs2.length) (hbytes:(n+m)*te.bytes≤140737488355328) (h63:n+m≤9223372036854775807):
  OpOK P o fr fk (.slc kn te.size 0 (n+m)) [(kn,⟨e,true,.one (cs++cs2)⟩)] [(k,⟨e,true,.dead⟩)]:=
 ok_value fun ρ a w hp=>by
  have hvx:=hx ρ a hp.hft
  have hvy:=hy ρ a hp.hft
  obtain⟨i,zv,i1,i2',i3,i4,i5,i6,i7,_⟩:=he.info
  have hu:=ht.kind;rw[hk]at hu
  have hu2:=ht2.kind;rw[hk2]at hu2
  obtain⟨z,hz,hzc⟩:=blk_rows1 (hp.hfk k _ hf) hw1
  obtain⟨z2,hz2,hrun2,hlen2⟩:=run_first1 (P:=P) hvy (hp.hfk k2 _ hf2) hw2 (by omega)
  obtain⟨zl,zw⟩:=hz.len
  obtain⟨zl2,zw2⟩:=hz2.len
  have hrows:=hz.app hz2 hn hi2 hm
  have hfresh:=hp.fresh kn _ (List.mem_cons_self ..)
  have hsegw:∀u∈(z2.drop i2).take m,u.length=te.size:=fun u hu=>zw2 u (List.mem_of_mem_drop (List.mem_of_mem_take hu))
  have hsegl:((z2.drop i2).take m).length=m:=by rw[List.length_take,List.length_drop];omega
  have hnews:(((z2.drop i2).take m).flatten).length=m*te.size:=by rw[flatten_len _ hsegw,hsegl]
  have hnone:∀u∈(((z2.drop i2).take m).flatten),u.oneCell'=true:=fun u hu=>by
   obtain⟨q,hq,hu⟩:=List.mem_flatten.1 hu
   exact hz2.one' q (List.mem_of_mem_drop (List.mem_of_mem_take hq)) u hu
  have hcall:∀v w',(Builtin.append_ ts o.type #[a.eval x,a.eval y]).run P w= .ok v w'→(execOp a.eval o).run P w= .ok (.value v) w':=by
   intro v w' h
   simp only[execOp,ho,resolve,invoke,builtin,hxs,Sem.run_bind,Sem.run_pure,Result.andThen_ok,List.map_toArray,List.map_cons,List.map_nil]
   rw[h]
   rfl
  have zone:∀v∈zv.cells.toList,v.oneCell'=true:=by
   have h1:=(HasZ.len (ρ:=ρ) te.zero _ (zero_has i6)).2
   rw[i5,List.flatMap_def];exact h1
  have h63':¬((n+m:Nat):Int)>IntKind.i64.max:=by
   have:IntKind.i64.max=9223372036854775807:=by decide
   omega
  have grow:∀(base:Option Addr) (cap:Nat),a.eval x= .slice base n cap→cap<n+m→(∀w',(∀b,b<w.heap.size→w'.heap[b]? =w.heap[b]?)→(Builtin.firstCells te.size n (.slice base n cap)).run P w'= .ok ((z.take n).flatten).toArray w')→
    ∃v w' ρ',(execOp a.eval o).run P w= .ok (.value v) w'∧Post ρ w (.slc kn te.size 0 (n+m)) [(kn,⟨e,true,.one (cs++cs2)⟩)] [(k,⟨e,true,.dead⟩)] v ρ' w':=by
   intro base cap hbx hcap hfirst
   have hfit:¬Builtin.nextslicecap (n+m) cap*i.bytes>2^48:=by
    have:=growslice_fits (bytes:=te.bytes) hcap hbytes
    rw[i3];simpa using this
   have hgc:n+m≤grownCap w (n+m) cap e:=by
    simp only[grownCap,Question.cut]
    omega
   have hpost:=post_row (hL:=hrows.notLoop) (ρ:=ρ) (w:=w.drew) (k:=kn) (s:=te.size) (n:=n+m) (cap:=grownCap w (n+m) cap e) (ty:=e) (d:=.one (cs++cs2)) (vs:=(z.take n++(z2.drop i2).take m).flatten) (ex:=(Builtin.zeroCells zv.cells (grownCap w (n+m) cap e - (n+m))).toList) hfresh hrows.data hgc
    (by
     have h1:((z.take n++(z2.drop i2).take m).flatten).length=(n+m)*te.size:=by
      rw[flatten_len (s:=te.size) _ (fun u hu=>(List.mem_append.1 hu).elim (fun h=>zw u (List.mem_of_mem_take h)) (hsegw u)),List.length_append,hsegl,List.length_take]
      congr 1
      omega
     rw[List.length_append,h1,Array.length_toList]
     have h2:(Builtin.zeroCells zv.cells (grownCap w (n+m) cap e - (n+m))).size=(grownCap w (n+m) cap e - (n+m))*te.size:=by simp[Builtin.zeroCells,i7]
     rw[h2,←Nat.add_mul,show n+m+(grownCap w (n+m) cap e - (n+m))=grownCap w (n+m) cap e from by omega]
     exact Nat.le_refl _) (zeroCells_one zone _)
   refine⟨_,_,_,hcall _ _ ?_,{hpost with
    pres:=⟨hpost.pres.os,hpost.pres.tape,hpost.pres.output,hpost.pres.size,fun b hb hn=>hpost.pres.block b hb (fun hh=>by obtain⟨_,_,_,hh,_⟩:=hh;cases hh)⟩
    blk:=fun j b hj=>by
     rcases hj with hj|hj
     ·simp only[List.mem_singleton,Prod.mk.injEq]at hj
      obtain⟨rfl,rfl⟩:=hj
      exact .inl rfl
     ·exact hpost.blk j b (.inr hj)
    once:=fun j b b' h1 h2 h3 h4=>by
     simp only[List.mem_singleton,Prod.mk.injEq]at h1 h2
     rw[h2.2]at h4
     cases h4
    newb:=fun j b q hj hq=>.inl ((hpost.newb j b q hj hq).elim id (fun hh=>by obtain⟨_,_,_,hh,_⟩:=hh;cases hh))}⟩
   have hz0:(if false=true then(Pure.pure 0:Sem Nat)else Builtin.lenOf (a.eval y)).run P w= .ok m w:=by rw[hlen2];rfl
   have hcap':¬n+m≤cap:=by omega
   have hnb:(w.drew).heap=w.heap:=rfl
   have hr1:=hfirst w.drew (fun b _=>rfl)
   have hr2:=hrun2 w.drew (fun b _=>rfl)
   simp only[Builtin.append_,hts,hbx,List.getElem?_toArray,List.getElem?_cons_zero,List.getElem?_cons_succ,Sem.run_bind,run_underlying hu,run_underlying hu2,Result.andThen_ok,he.sizeOf,Sem.run_pure,Bool.false_eq_true,if_false,hlen2]
   have hti:∀w',(typeInfo e).run P w'= .ok i w':=fun w'=>by simp[typeInfo,i1]
   have hzv:∀w',(Go.zeroValue e).run P w'= .ok zv w':=fun w'=>by simp[Go.zeroValue,typeInfo,i1,i4]
   have hcond:¬(((n+m:Nat):Int)>IntKind.i64.max∧(False∨i.bytes=0)):=fun h=>h63' h.1
   have hforced:(Question.appendCap (n+m) cap e).forced=false:=rfl
   simp only[hcap',if_false,Sem.run_bind,hti,Result.andThen_ok,hcond,hfit,run_choose,hforced,Bool.false_eq_true,World.drew_eq,run_askRoom,hr1,Bool.not_false,if_true,hr2,hzv,newRow,run_newObj,Sem.run_pure,World.alloc_eq]
   have harr:((z.take n).flatten.toArray++((z2.drop i2).take m).flatten.toArray++Builtin.zeroCells zv.cells (grownCap w (n+m) cap e - (n+m)))=((z.take n++(z2.drop i2).take m).flatten++(Builtin.zeroCells zv.cells (grownCap w (n+m) cap e - (n+m))).toList).toArray:=by
    apply Array.ext'
    simp
   show Result.ok (Value.slice (some ⟨w.drew.heap.size,0,none⟩) (n+m) (grownCap w (n+m) cap e)) (w.drew.alloc (.cells ((z.take n).flatten.toArray++((z2.drop i2).take m).flatten.toArray++Builtin.zeroCells zv.cells (grownCap w (n+m) cap e - (n+m))) e))=_
   rw[harr]
  rcases has_slc hvx with⟨b,tt,cap,e1,e2,e3,e4⟩|⟨rfl,ad,e4⟩
  ·rcases hzc with⟨b',tt',ex,c1,c2,c3,c4⟩|⟨c1,_⟩
   ·rw[e1]at c1
    cases c1
    rcases Nat.lt_or_ge cap (n+m)with hlt|hge
    ·refine grow _ cap e4 hlt ?_
     obtain⟨z3,hz3,hrun3,_⟩:=run_first1 (P:=P) hvx (hp.hfk k _ hf) hw1 (by omega)
     intro w' hw'
     have h0:=run_firstCells_some (P:=P) w' te.size n ⟨b,0*te.size,none⟩ n cap ((z.take n).flatten) (by
      rw[flatten_len (s:=te.size) _ (fun u hu=>zw u (List.mem_of_mem_take hu)),List.length_take];congr 1;omega) (by
      intro j u hj
      have hblt:b<w.heap.size:=by
       rcases Nat.lt_or_ge b w.heap.size with h'|h'
       ·exact h'
       ·simp[Array.getElem?_eq_none h']at c2
      have hh:w'.heap[b]? =some (.cells (z.flatten++ex).toArray e (0,0)):=by rw[hw' b hblt];exact c2
      have hadd:(⟨b,0*te.size,none⟩:Addr).add j=⟨b,j,none⟩:=addr_add0 b te.size j
      rw[hadd,cell_of_row w' b j _ e (0,0) hh]
      rw[flatten_take (s:=te.size) _ _ zw]at hj
      have h6:z.flatten[j]? =some u:=by
       rw[List.getElem?_take]at hj
       split at hj
       ·exact hj
       ·cases hj
      have hlt2:j<z.flatten.length:=(List.getElem?_eq_some_iff.1 h6).1
      simp only[List.getElem?_toArray]
      rw[List.getElem?_append_left hlt2]
      exact h6)
     exact h0
    ·-- in place
     have hblt:b<w.heap.size:=by
      rcases Nat.lt_or_ge b w.heap.size with h'|h'
      ·exact h'
      ·simp[Array.getElem?_eq_none h']at c2
     have hr2:=hrun2 w (fun b _=>rfl)
     have hfitc:0*te.size+n*te.size+(((z2.drop i2).take m).flatten).length≤(z.flatten++ex).length:=by
      rw[hnews,c3,Nat.zero_mul,Nat.zero_add,←Nat.add_mul]
      exact Nat.le_trans (Nat.mul_le_mul_right _ hge) (by simpa using e3)
     have hsc:=run_storeCells_at (P:=P) b (n*te.size) e (((z2.drop i2).take m).flatten) 0 (z.flatten++ex).toArray w c2 (by simp only[List.size_toArray];simpa using hfitc) hnone
     have hadd:(⟨b,0*te.size,none⟩:Addr).add (n*te.size)=⟨b,n*te.size,none⟩:=addr_add0 b te.size _
     have hcells:((z.flatten++ex).take (n*te.size+0)++(((z2.drop i2).take m).flatten)++(z.flatten++ex).drop (n*te.size+0+(((z2.drop i2).take m).flatten).length))=
       (z.take n++(z2.drop i2).take m).flatten++(z.flatten++ex).drop (n*te.size+m*te.size):=by
      rw[Nat.add_zero,hnews,List.flatten_append,flatten_take (s:=te.size) _ _ zw,List.take_append_of_le_length (by rw[flatten_len (s:=te.size) _ zw];exact Nat.mul_le_mul_right _ (by omega))]
     rw[hcells]at hsc
     let ρ':Rho:=⟨fun j=>if j=kn then some (b,tt)else ρ.key j,ρ.imm,ρ.glob⟩
     have hle:ρ.Le ρ':=⟨fun j q hq=>by
      show(if j=kn then _ else _)=_
      by_cases hj:j=kn
      ·subst hj;rw[hfresh]at hq;cases hq
      ·rw[if_neg hj];exact hq,fun b o hb=>hb⟩
     refine⟨.slice (some ⟨b,0*te.size,none⟩) (n+m) cap,w.setRow b ((z.take n++(z2.drop i2).take m).flatten++(z.flatten++ex).drop (n*te.size+m*te.size)).toArray,ρ',hcall _ _ ?_, ?_⟩
     ·simp only[Builtin.append_,hts,e4,List.getElem?_toArray,List.getElem?_cons_zero,List.getElem?_cons_succ,Sem.run_bind,run_underlying hu,run_underlying hu2,Result.andThen_ok,he.sizeOf,Sem.run_pure,Bool.false_eq_true,if_false,hlen2,hge,if_true,Bool.not_false,hr2,hadd,hsc]
     ·refine⟨hle,slc_has (.inl ⟨b,tt,cap, ?_,hge,e3,rfl⟩), ?_,⟨rfl,rfl,rfl,by simp[World.setRow], ?_⟩, ?_, ?_, ?_, ?_,fun b o hb=>.inl hb⟩
      ·show(if kn=kn then _ else _)=_
       rw[if_pos rfl]
      ·intro j hj
       show(if j=kn then _ else _)=_
       rw[if_neg]
       rintro rfl
       exact hj _ (List.mem_cons_self ..)
      ·intro q hq hnq
       refine heap_setRow_other fun hqb=>hnq ⟨k,_,tt,List.mem_cons_self .., ?_⟩
       rw[hqb];exact e1
      ·intro j bj hj
       rcases hj with hj|hj
       ·simp only[List.mem_singleton,Prod.mk.injEq]at hj
        obtain⟨rfl,rfl⟩:=hj
        exact .inl rfl
       ·simp only[List.mem_singleton,Prod.mk.injEq]at hj
        obtain⟨rfl,rfl⟩:=hj
        refine .inr (.inl ⟨b,tt,_,(z.flatten++ex).drop (n*te.size+m*te.size), ?_,by rw[Data.obj_cells hrows.notLoop];exact heap_setRow_same c2,hrows.data.mono hle, ?_, ?_⟩)
        ·show(if j=j then _ else _)=_
         rw[if_pos rfl]
        ·have h1:((z.take n++(z2.drop i2).take m).flatten).length=(n+m)*te.size:=by
          rw[flatten_len (s:=te.size) _ (fun u hu=>(List.mem_append.1 hu).elim (fun h=>zw u (List.mem_of_mem_take h)) (hsegw u)),List.length_append,hsegl,List.length_take]
          congr 1
          omega
         rw[List.length_append,h1,List.length_drop,c3,Nat.add_mul]
         rw[hnews,c3]at hfitc
         omega
        ·intro u hu
         have:=List.mem_of_mem_drop hu
         rcases List.mem_append.1 this with h|h
         ·obtain⟨q,hq,hu'⟩:=List.mem_flatten.1 h
          exact hz.one' q hq u hu'
         ·exact c4 u h
      ·intro j c c' h1 h2 h3 h4
       simp only[List.mem_singleton,Prod.mk.injEq]at h1 h2
       rw[h2.2]at h4
       cases h4
      ·intro j bj q hj hq
       simp only[List.mem_singleton,Prod.mk.injEq]at hj
       obtain⟨rfl,rfl⟩:=hj
       have hq':(if j=j then some (b,tt)else ρ.key j)=some q:=hq
       rw[if_pos rfl]at hq'
       cases hq'
       exact .inr ⟨k,_,tt,List.mem_cons_self ..,rfl,e1⟩
      ·intro j bj j' bj' q q' hj hj' hne
       simp only[List.mem_singleton,Prod.mk.injEq]at hj hj'
       exact absurd (hj.1.trans hj'.1.symm) hne
   ·rw[e1]at c1;cases c1
  ·rcases Nat.eq_zero_or_pos m with rfl|hm0
   ·exact absurd hpos (Nat.lt_irrefl 0)
   ·refine grow ad 0 e4 (by omega) ?_
    intro w' _
    cases ad with
    |none=>simp[Builtin.firstCells]
    |some q=>simp[Builtin.firstCells,loadCells,loadCellsFrom]
theorem op_append1n {P:Program} {o:Oper} {fr:List (Nat×SV)} {fk:List (Nat×Blk)} {t t2 e:TypeId} {x y:Operand} {xs:Array Operand} {ts:Array TypeId} {ti ti2 te:TI} {k2 kn i2 m:Nat} {cs2:List SV} {ty2:TypeId} {wr2:Bool} (ho:o.op= .call ⟨.builtin .append,xs,ts⟩) (hxs:xs= #[x,y]) (hts:ts= #[t,t2])
  (hx:EvOK fr x (.val (.slice none 0 0))) (hy:EvOK fr y (.slc k2 te.size i2 m)) (ht:TOK P t ti) (hk:ti.kind= .slc e) (ht2:TOK P t2 ti2) (hk2:ti2.kind= .slc e) (he:TOK P e te)
  (hf2:(k2,⟨ty2,wr2,.one cs2⟩)∈fk) (hw2:allW te.size cs2=true) (hpos:0<m) (hi2:i2=0)
  (hm:m=cs2.length) (hbytes:m*te.bytes≤140737488355328) (h63:m≤9223372036854775807):
  OpOK P o fr fk (.slc kn te.size 0 m) [(kn,⟨e,true,.one cs2⟩)] []:=
 ok_value fun ρ a w hp=>by
  have hvx:=of_has_val (hx ρ a hp.hft)
  have hvy:=hy ρ a hp.hft
  obtain⟨i,zv,i1,i2',i3,i4,i5,i6,i7,_⟩:=he.info
  have hu:=ht.kind;rw[hk]at hu
  have hu2:=ht2.kind;rw[hk2]at hu2
  obtain⟨z2,hz2,hrun2,hlen2⟩:=run_first1 (P:=P) hvy (hp.hfk k2 _ hf2) hw2 (by omega)
  obtain⟨zl2,zw2⟩:=hz2.len
  have hrows:R1 ρ te.size cs2 ((z2.drop i2).take m):=by
   rw[hi2,List.drop_zero,hm,←hz2.len.1,List.take_length];exact hz2
  have hfresh:=hp.fresh kn _ (List.mem_cons_self ..)
  have hsegw:∀u∈(z2.drop i2).take m,u.length=te.size:=fun u hu=>zw2 u (List.mem_of_mem_drop (List.mem_of_mem_take hu))
  have hsegl:((z2.drop i2).take m).length=m:=by rw[List.length_take,List.length_drop];omega
  have hcall:∀v w',(Builtin.append_ ts o.type #[a.eval x,a.eval y]).run P w= .ok v w'→(execOp a.eval o).run P w= .ok (.value v) w':=by
   intro v w' h
   simp only[execOp,ho,resolve,invoke,builtin,hxs,Sem.run_bind,Sem.run_pure,Result.andThen_ok,List.map_toArray,List.map_cons,List.map_nil]
   rw[h]
   rfl
  have zone:∀v∈zv.cells.toList,v.oneCell'=true:=by
   have h1:=(HasZ.len (ρ:=ρ) te.zero _ (zero_has i6)).2
   rw[i5,List.flatMap_def];exact h1
  rcases Nat.eq_zero_or_pos m with rfl|hm0
  ·exact absurd hpos (Nat.lt_irrefl 0)
  ·have h63':¬((0+m:Nat):Int)>IntKind.i64.max:=by
    have:IntKind.i64.max=9223372036854775807:=by decide
    omega
   have hfit:¬Builtin.nextslicecap (0+m) 0*i.bytes>2^48:=by
    have:=growslice_fits (bytes:=te.bytes) (show 0<0+m by omega) (by rw[Nat.zero_add];exact hbytes)
    rw[i3];simpa using this
   have hgc:m≤grownCap w (0+m) 0 e:=by
    simp only[grownCap,Question.cut]
    omega
   have hpost:=post_row (hL:=hrows.notLoop) (ρ:=ρ) (w:=w.drew) (k:=kn) (s:=te.size) (n:=m) (cap:=grownCap w (0+m) 0 e) (ty:=e) (d:=.one cs2) (vs:=((z2.drop i2).take m).flatten) (ex:=(Builtin.zeroCells zv.cells (grownCap w (0+m) 0 e - (0+m))).toList) hfresh hrows.data hgc
    (by
     have h1:(((z2.drop i2).take m).flatten).length=m*te.size:=by rw[flatten_len (s:=te.size) _ hsegw,hsegl]
     rw[List.length_append,h1,Array.length_toList]
     have h2:(Builtin.zeroCells zv.cells (grownCap w (0+m) 0 e - (0+m))).size=(grownCap w (0+m) 0 e - (0+m))*te.size:=by simp[Builtin.zeroCells,i7]
     rw[h2,←Nat.add_mul,show m+(grownCap w (0+m) 0 e - (0+m))=grownCap w (0+m) 0 e from by omega]
     exact Nat.le_refl _) (zeroCells_one zone _)
   refine⟨_,_,_,hcall _ _ ?_,{hpost with pres:=⟨hpost.pres.os,hpost.pres.tape,hpost.pres.output,hpost.pres.size,hpost.pres.block⟩}⟩
   have hcap':¬0+m≤0:=by omega
   have hr2:=hrun2 w.drew (fun b _=>rfl)
   have hti:∀w',(typeInfo e).run P w'= .ok i w':=fun w'=>by simp[typeInfo,i1]
   have hzv:∀w',(Go.zeroValue e).run P w'= .ok zv w':=fun w'=>by simp[Go.zeroValue,typeInfo,i1,i4]
   have hcond:¬(((0+m:Nat):Int)>IntKind.i64.max∧(False∨i.bytes=0)):=fun h=>h63' h.1
   have hforced:(Question.appendCap (0+m) 0 e).forced=false:=rfl
   have hr1:∀w',(Builtin.firstCells te.size 0 (.slice none 0 0)).run P w'= .ok #[] w':=fun w'=>by simp[Builtin.firstCells]
   simp only[Builtin.append_,hts,hvx,List.getElem?_toArray,List.getElem?_cons_zero,List.getElem?_cons_succ,Sem.run_bind,run_underlying hu,run_underlying hu2,Result.andThen_ok,he.sizeOf,Sem.run_pure,Bool.false_eq_true,if_false,hlen2]
   simp only[hcap',if_false,Sem.run_bind,hti,Result.andThen_ok,hcond,hfit,run_choose,hforced,Bool.false_eq_true,World.drew_eq,run_askRoom,hr1,Bool.not_false,if_true,hr2,hzv,newRow,run_newObj,Sem.run_pure,World.alloc_eq]
   have harr:((#[]:Array Value)++((z2.drop i2).take m).flatten.toArray++Builtin.zeroCells zv.cells (grownCap w (0+m) 0 e - (0+m)))=(((z2.drop i2).take m).flatten++(Builtin.zeroCells zv.cells (grownCap w (0+m) 0 e - (0+m))).toList).toArray:=by
    apply Array.ext'
    simp
   show Result.ok (Value.slice (some ⟨w.drew.heap.size,0,none⟩) (0+m) (grownCap w (0+m) 0 e)) (w.drew.alloc (.cells ((#[]:Array Value)++((z2.drop i2).take m).flatten.toArray++Builtin.zeroCells zv.cells (grownCap w (0+m) 0 e - (0+m))) e))=_
   rw[harr,Nat.zero_add]
theorem op_buildSlice1 {P:Program} {o:Oper} {fr:List (Nat×SV)} {fk:List (Nat×Blk)} {t e:TypeId} {len k:Nat} {parts:Array (Nat×Operand)} {ti te:TI} {ps:List (Nat×List SV)} {l:List SV} (ho:o.op= .buildSlice t len parts) (ht:TOK P t ti) (hk:ti.kind= .slc e) (he:TOK P e te)
  (hps:evParts fr parts.toList=some ps) (hb:buildC 64 (fun i=>some (i*te.size,te.size)) (repN len te.zero) ps=some l) (hw:allW te.size l=true) (hln:l.length=len) (hsz:len*te.size≤16777216):
  OpOK P o fr fk (.slc k te.size 0 len) [(k,⟨e,true,.one l⟩)] []:=
 ok_value fun ρ a w hp=>by
  obtain⟨i,z,i1,i2,i3,i4,i5,i6,i7,_⟩:=he.info
  have hu:=ht.kind;rw[hk]at hu
  obtain⟨p1,p2⟩:=evParts_ok hps ρ a hp.hft
  have hz0:=repN_has (zero_has (ρ:=ρ) i6) len
  have hmade:(madeCells z.cells (len*te.size)).toList=((List.replicate len (te.zero.map zcell)).flatten).flatten:=by
   rw[madeCells_flat z.cells te.size i7 len,i5]
   have:∀n,(List.replicate n (te.zero.flatMap zcell)).flatten=((List.replicate n (te.zero.map zcell)).flatten).flatten:=by
    intro n
    induction n with
    |zero=>rfl
    |succ n ih=>rw[List.replicate_succ,List.replicate_succ,List.flatten_cons,List.flatten_cons,List.flatten_append,←ih,List.flatMap_def]
   exact this len
  obtain⟨L',z',e1,e2,e3⟩:=fill_has (ρ:=ρ) ps _ l (parts.toList.map fun p=>(p.1,Act.eval a p.2)) (madeCells z.cells (len*te.size)) _ hb hz0 hmade p1 p2
  have hrows:R1 ρ te.size l z':=⟨e2,allW_spec hw⟩
  have hlen:=hrows.len
  have hmap:(parts.map fun(i,x)=>(i,Act.eval a x)).toList=parts.toList.map fun p=>(p.1,Act.eval a p.2):=by simp
  have hLl:L'=(z'.flatten++[]).toArray:=by rw[List.append_nil,←e3]
  refine⟨_,_,_, ?_,post_row (hL:=hrows.notLoop) (ty:=e) (d:=.one l) (s:=te.size) (n:=len) (cap:=len) (vs:=z'.flatten) (ex:=[]) (hp.fresh k _ (List.mem_cons_self ..)) hrows.data (Nat.le_refl _) ?_ (by simp)⟩
  ·have hsz':¬len*te.size>16777216:=by omega
   by_cases h0:len*te.size=0
   ·have hm:(Array.range 0).map (fun x=>(#[]:Array Value)[x % (#[]:Array Value).size]!)=madeCells z.cells (len*te.size):=by simp[h0,madeCells]
    simp only[execOp,ho,Instr.buildSlice,Sem.run_bind,run_underlying hu,Result.andThen_ok,he.sizeOf,h0,hmap]
    rw[h0]at hm
    simp only[Nat.reducePow,Nat.not_lt_zero,gt_iff_lt,if_false,if_true,Sem.run_bind,Sem.run_pure,Result.andThen_ok,hm]
    rw[h0]at e1
    simp only[e1,Sem.run_bind,newRow,run_newObj,Sem.run_pure,Result.andThen_ok,hLl,World.alloc_eq]
   ·have hm:(Array.range (len*te.size)).map (fun x=>z.cells[x % z.cells.size]!)=madeCells z.cells (len*te.size):=rfl
    have hzv:(Go.zeroValue e).run P w= .ok z w:=by simp[Go.zeroValue,typeInfo,i1,i4]
    simp only[execOp,ho,Instr.buildSlice,Sem.run_bind,run_underlying hu,Result.andThen_ok,he.sizeOf,h0,hmap,Nat.reducePow,hsz',if_false,hzv,Sem.run_pure,hm,e1,newRow,run_newObj,hLl,World.alloc_eq]
  ·rw[List.append_nil,flatten_len _ hlen.2,HasZ_length e2,hln]
   exact Nat.le_refl _
theorem run_firstCV {P:Program} {ρ:Rho} {w:World} {s n:Nat} {vs:List SV} {d:Data} {v:Value} (hv:Has ρ (vecA s vs) v) (himm:∀b o,ρ.imm b=some o→w.heap[b]? =some o)
  (hr:∀z,HasZ (bareR ρ.imm ρ.glob) vs z→(∀x∈vs,x.width=s)→Rows ρ s d z) (hn:n=vs.length):
  ∃z,Rows ρ s d z∧(∀c,c≤n→(Builtin.firstCells s c v).run P w= .ok (((z.drop 0).take c).flatten).toArray w)∧Builtin.lenOf v=Pure.pure n:=by
 subst hn
 rcases has_vec hv with⟨rfl,a,rfl⟩|⟨b,cap,z,pre,ex,ty,fz,h1,h2,h3,h4,h5,h6⟩
 ·refine⟨[],hr [] (by simp only[HasZ]) (fun x hx=>by cases hx),fun c hc=> ?_,rfl⟩
  obtain rfl:c=0:=by simpa using hc
  cases a with
  |none=>simp[Builtin.firstCells]
  |some a=>simp[Builtin.firstCells,loadCells,loadCellsFrom]
 ·have hzr:=hr z h2 h3
  obtain⟨zl,zw⟩:=hzr.len
  have hzl:z.length=vs.length:=HasZ_length h2
  subst h6
  refine⟨z,hzr,fun c hc=> ?_,rfl⟩
  have hh:=himm _ _ h1
  rw[List.drop_zero]
  have hseg:(z.take c).flatten=z.flatten.take (c*s):=flatten_take (s:=s) _ _ zw
  have hlen:(z.take c).flatten.length=c*s:=by
   rw[flatten_len (s:=s) _ (fun u hu=>zw u (List.mem_of_mem_take hu)),List.length_take]
   congr 1
   omega
  refine run_firstCells_some (P:=P) w s c _ vs.length cap _ hlen ?_
  intro j u hj
  have hadd:(⟨b,pre.length,none⟩:Addr).add j=⟨b,pre.length+j,none⟩:=by unfold Addr.add;split<;>simp_all
  rw[hadd,cell_of_row w b (pre.length+j) _ ty fz hh]
  rw[hseg,List.getElem?_take]at hj
  split at hj
  ·have hlt:j<z.flatten.length:=(List.getElem?_eq_some_iff.1 hj).1
   simp only[List.getElem?_toArray]
   rw[List.getElem?_append_right (by omega),Nat.add_sub_cancel_left,List.getElem?_append_left hlt]
   exact hj
  ·cases hj
theorem op_copyV {P:Program} {o:Oper} {fr:List (Nat×SV)} {fk:List (Nat×Blk)} {t t2 e ty:TypeId} {x y:Operand} {xs:Array Operand} {ts:Array TypeId} {ti te:TI} {k i n m c:Nat} {d d' d2:Data} {vs:List SV} (ho:o.op= .call ⟨.builtin .copy,xs,ts⟩) (hxs:xs= #[x,y]) (hts:ts= #[t,t2])
  (hx:EvOK fr x (.slc k te.size i n)) (hy:EvOK fr y (vecA te.size vs)) (hr2:∀(ρ:Rho) z,HasZ (bareR ρ.imm ρ.glob) vs z→(∀x∈vs,x.width=te.size)→Rows ρ te.size d2 z) (ht:TOK P t ti) (hk:ti.kind= .slc e) (he:TOK P e te)
  (hf:(k,⟨ty,true,d⟩)∈fk) (hl:d.live=true) (hw:dwidth d=some te.size)
  (hn:i+n≤dlen d) (hmv:m=vs.length) (hm:0+m≤dlen d2) (hc:c=Nat.min m n) (hd:dcopy d i d2 0 c=some d'):
  OpOK P o fr fk (.val (.int .i64 (c:Nat))) [] [(k,⟨ty,true,d'⟩)]:=
 ok_value fun ρ a w hp=>by
  have hvx:=hx ρ a hp.hft
  have hvy:=hy ρ a hp.hft
  have hu:=ht.kind;rw[hk]at hu
  have hcm:c≤m:=hc▸Nat.min_le_left _ _
  have hcn:c≤n:=hc▸Nat.min_le_right _ _
  obtain⟨z2,hz2,hrun2,hlen2⟩:=run_firstCV (P:=P) (d:=d2) hvy hp.imm (hr2 ρ) hmv
  have hload:=hrun2 c hcm
  obtain⟨zl2,zw2⟩:=hz2.len
  have hsegw:∀u∈(z2.drop 0).take c,u.length=te.size:=fun u hu=>zw2 u (List.mem_of_mem_drop (List.mem_of_mem_take hu))
  have hsegl:((z2.drop 0).take c).length=c:=by rw[List.length_take,List.length_drop];omega
  have hcall:∀v w',(Builtin.copy_ ts o.type #[a.eval x,a.eval y]).run P w= .ok v w'→(execOp a.eval o).run P w= .ok (.value v) w':=by
   intro v w' h
   simp only[execOp,ho,resolve,invoke,builtin,hxs,Sem.run_bind,Sem.run_pure,Result.andThen_ok,List.map_toArray,List.map_cons,List.map_nil]
   rw[h]
   rfl
  have hone:∀v∈(((z2.drop 0).take c).flatten),v.oneCell'=true:=fun u hu=>by
   obtain⟨q,hq,hu⟩:=List.mem_flatten.1 hu
   exact hz2.one' q (List.mem_of_mem_drop (List.mem_of_mem_take hq)) u hu
  rcases has_slc hvx with⟨b,t',cap,e1,e2,e3,hv⟩|⟨rfl,a',hv⟩
  ·obtain⟨z,ex,hz,g1,g2,g3⟩:=rows_at (hp.hfk k _ hf) hl hw e1
   obtain⟨zl,zw⟩:=hz.len
   simp only at zl
   have hrows:=(dcopy_rows hd hz hz2).1
   have hcl:(((z2.drop 0).take c).flatten).length=c*te.size:=by rw[flatten_len _ hsegw,hsegl]
   have hfit:i*te.size+c*te.size≤(z.flatten++ex).length:=by
    have:=Nat.mul_le_mul_right te.size (show i+c≤i+cap by omega)
    rw[Nat.add_mul]at this
    omega
   have hst:=run_storeCells_at (P:=P) b (i*te.size) ty (((z2.drop 0).take c).flatten) 0 (z.flatten++ex).toArray w g1 (by simp only[List.size_toArray];omega) hone
   have hzl:z.flatten.length=z.length*te.size:=flatten_len _ zw
   have hicz:(i+c)*te.size≤z.flatten.length:=by
    rw[hzl];exact Nat.mul_le_mul_right _ (by omega)
   have hiz:i*te.size≤z.flatten.length:=by
    rw[hzl];exact Nat.mul_le_mul_right _ (by omega)
   have hL:(z.flatten++ex).take (i*te.size)++((z2.drop 0).take c).flatten++(z.flatten++ex).drop (i*te.size+(((z2.drop 0).take c).flatten).length)=(z.take i++((z2.drop 0).take c++z.drop (i+c))).flatten++ex:=by
    rw[hcl,←Nat.add_mul,List.take_append_of_le_length hiz,List.drop_append_of_le_length hicz,List.flatten_append,List.flatten_append,flatten_take _ _ zw,flatten_drop _ _ zw]
    simp only[List.append_assoc]
   simp only[Nat.add_zero,hL]at hst
   refine⟨goInt c,w.setRow b ((z.take i++((z2.drop 0).take c++z.drop (i+c))).flatten++ex).toArray,ρ,hcall _ _ ?_, ?_⟩
   ·simp only[Builtin.copy_,hts,hv,List.getElem?_toArray,List.getElem?_cons_zero,List.getElem?_cons_succ,Sem.run_bind,run_underlying hu,Result.andThen_ok,hlen2,Sem.run_pure,he.sizeOf]
    rw[←hc,hload]
    simp only[Result.andThen_ok,hst]
   ·refine⟨.refl ρ,has_val rfl,fun _ _=>rfl,⟨rfl,rfl,rfl,by simp[World.setRow],fun j hj hnj=> ?_⟩,fun j bj hj=> ?_,(fun j c1 c2 h1 h2 h3 h4=> ?_),(fun _ _ _ h=>by cases h),(fun _ _ _ _ _ _ h=>by cases h),fun b o h=>.inl h⟩
    ·refine heap_setRow_other fun hib=>hnj ⟨k,_,t',List.mem_cons_self .., ?_⟩
     rw[hib];exact e1
    ·rcases hj with hj|hj
     ·simp only[List.mem_singleton,Prod.mk.injEq]at hj
      obtain⟨rfl,rfl⟩:=hj
      refine .inr (.inl ⟨b,t',_,ex,e1,by rw[Data.obj_cells hrows.notLoop];exact heap_setRow_same g1,hrows.data, ?_,g3⟩)
      rw[←g2,List.length_append,List.length_append,flatten_len _ hrows.len.2,hzl]
      congr 2
      rw[List.length_append,List.length_append,List.length_take,List.length_drop,hsegl]
      omega
     ·cases hj
    ·simp only[List.mem_singleton,Prod.mk.injEq]at h1 h2
     obtain⟨_,rfl⟩:=h1
     obtain⟨_,rfl⟩:=h2
     rw[h3]at h4;cases h4
  ·obtain rfl:c=0:=by omega
   obtain⟨z,hz,hcase⟩:=blk_rows (hp.hfk k _ hf) hl hw
   have hrows:=(dcopy_rows hd hz hz2).1
   have hsame:z.take i++((z2.drop 0).take 0++z.drop (i+0))=z:=by simp
   rw[hsame]at hrows
   refine⟨goInt 0,w,ρ,hcall _ _ ?_, ?_⟩
   ·simp only[Builtin.copy_,hts,hv,List.getElem?_toArray,List.getElem?_cons_zero,List.getElem?_cons_succ,Sem.run_bind,run_underlying hu,Result.andThen_ok,hlen2,Sem.run_pure,he.sizeOf]
    rw[←hc,hload]
    cases a' with
    |none=>simp[goInt]
    |some a'=>simp[goInt,storeCells]
   ·refine⟨.refl ρ,has_val rfl,fun _ _=>rfl,.refl _ _,fun j bj hj=> ?_,(fun j c1 c2 h1 h2 h3 h4=> ?_),(fun _ _ _ h=>by cases h),(fun _ _ _ _ _ _ h=>by cases h),fun b o h=>.inl h⟩
    ·rcases hj with hj|hj
     ·simp only[List.mem_singleton,Prod.mk.injEq]at hj
      obtain⟨rfl,rfl⟩:=hj
      rcases hcase with⟨b',t',ex,h1,h2,h3,h4⟩|⟨h1,h2⟩
      ·exact .inr (.inl ⟨b',t',_,ex,h1,by rw[Data.obj_cells hrows.notLoop];exact h2,hrows.data,h3,h4⟩)
      ·refine .inr (.inr ⟨h1, ?_⟩)
       exact empty_of hrows (by rw[h2];rfl)
     ·cases hj
    ·simp only[List.mem_singleton,Prod.mk.injEq]at h1 h2
     obtain⟨_,rfl⟩:=h1
     obtain⟨_,rfl⟩:=h2
     rw[h3]at h4;cases h4
end Go.Sx
