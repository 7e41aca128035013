/- The texts Aa, Re, Rf, Td, Te, Tf, Rg, Kk, Kl, Ki, Km, Kn, Ko, Kq, Kr, Kt, Qa, Qb, Qc, Qd, Na, Nb, Nc, Nd, Ne, Nf. -/
import Derived.Test.YtfpagioknjjacaaGreatDoorQMElimsKnown2
import Derived.Test.YtfpagioknjjacaaGreatDoorQMElimsKnown5
import Derived.Test.YtfpagioknjjacaaGreatDoorQMElimsKnown3
namespace Go.Proofs.YtfpagioknjjacaaGreatDoor
open Go.Sx
set_option linter.unusedSimpArgs false
set_option linter.unusedVariables false
set_option maxRecDepth 100000
set_option maxHeartbeats 4000000
theorem Fa {P:Program} {ρ:bU} {w:World} {s n:Nat} {vs:List SV} {d:Sx.Data} {v:Value} (hv:Has ρ (eI s vs) v) (himm:∀b o,ρ.bf b=some o→w.heap[b]? =some o)
  (hr:∀z,aw (cR ρ.bf ρ.cw) vs z→(∀x∈vs,x.width=s)→Go.Sx.Rows ρ s d z) (hn:n=vs.length):
  ∃z,Go.Sx.Rows ρ s d z∧(∀w',(∀b,b<w.heap.size→w'.heap[b]? =w.heap[b]?)→(Builtin.firstCells s n v).run P w'= .ok (((z.drop 0).take n).flatten).toArray w')∧Builtin.lenOf v=Pure.pure n:=by
 subst hn
 rcases ry hv with⟨rfl,a,rfl⟩|⟨b,cap,z,pre,ex,ty,fz,h1,h2,h3,h4,h5,h6⟩
 ·refine⟨[],hr [] (by simp only[aw]) (fun x hx=>by cases hx),fun w' _=> ?_,rfl⟩
  cases a with
  |none=>simp[Builtin.firstCells]
  |some a=>simp[Builtin.firstCells,loadCells,loadCellsFrom]
 ·have hzr:=hr z h2 h3
  obtain⟨zl,zw⟩:=hzr.len
  have qu:z.length=vs.length:=cV h2
  subst h6
  refine⟨z,hzr,fun w' yV=> ?_,rfl⟩
  have hh0:=himm _ _ h1
  have rq:b<w.heap.size:=by
   rcases Nat.lt_or_ge b w.heap.size with h'|h'
   ·exact h'
   ·simp[Array.getElem?_eq_none h']at hh0
  have hh:w'.heap[b]? =some (.cells (pre++(z.flatten++ex)).toArray ty fz):=by rw[yV b rq];exact hh0
  have e0:(z.drop 0).take vs.length=z:=by rw[List.drop_zero,List.take_of_length_le aa]
  rw[e0]
  have hlen:z.flatten.length=vs.length*s:=by rw[aQ (s:=s) _ zw,qu]
  refine run_firstCells_some (P:=P) w' s vs.length _ vs.length cap _ hlen ?_
  intro j u hj
  have fU:(⟨b,pre.length,none⟩:Addr).add j=⟨b,pre.length+j,none⟩:=by unfold Addr.add;split<;>simp_all
  rw[fU,cell_of_row w' b (pre.length+j) _ ty fz hh]
  have aE:j<z.flatten.length:=(List.getElem?_eq_some_iff.1 hj).1
  simp only[List.getElem?_toArray]
  rw[List.getElem?_append_right aa,Nat.add_sub_cancel_left,List.getElem?_append_left aE]
  exact hj
theorem xV {ρ:bU} {kd:IntKind}:∀(xs:List Int) (z:List (List Value)),aw ρ (xs.map (jv kd)) z→z=xs.map fun x=>[.int kd x]
 |[],z,h=>by simpa only[List.map_nil,aw]using h
 |x::xs,z,h=>by
  simp only[List.map_cons,aw]at h
  obtain⟨y,r,rfl,h1,h2⟩:=h
  rw[xV xs r h2]
  simp only[jv,aL]at h1
  rw[h1.1,List.map_cons]
theorem uF {kd:IntKind} (xs:List Int):∀(ρ:bU) z,aw (cR ρ.bf ρ.cw) (xs.map (jv kd)) z→(∀x∈xs.map (jv kd),x.width=1)→Go.Sx.Rows ρ 1 (.ints kd xs) z:=
 fun ρ z h _=>⟨rfl,xV xs z h⟩
theorem nP {P:Program} {o:Oper} {fr:List (Nat×SV)} {fk:List (Nat×aF)} {t t2 e:TypeId} {x y:Operand} {xs:Array Operand} {ts:Array TypeId} {ti t0 te:TI} {k kn n m:Nat} {d d' d2:Sx.Data} {vs:List SV} (ho:o.op= .call ⟨.builtin .append,xs,ts⟩) (mr:xs= #[x,y]) (jE:ts= #[t,t2])
  (hx:bp fr x (.aO k te.size 0 n)) (hy:bp fr y (eI te.size vs)) (q0:∀(ρ:bU) z,aw (cR ρ.bf ρ.cw) vs z→(∀x∈vs,x.width=te.size)→Go.Sx.Rows ρ te.size d2 z) (ht:aG P t ti) (hk:ti.kind= .aO e) (Cg:aG P t2 t0) (hk2:t0.kind= .aO e) (he:aG P e te)
  (hf:(k,⟨e,true,d⟩)∈fk) (hl:d.live=true) (hw:cZ d=some te.size)
  (hn:n≤en d) (Zy:m=vs.length) (hm:0+m≤en d2) (hd:oC d n d2 0 m=some d') (hbytes:(n+m)*te.bytes≤140737488355328) (h63:n+m≤9223372036854775807):
  bS P o fr fk (.aO kn te.size 0 (n+m)) [(kn,⟨e,true,d'⟩)] [(k,⟨e,true,.dead⟩)]:=
 dv fun ρ a w hp=>by
  have CC:=hx ρ a hp.dy
  have Hi:=hy ρ a hp.dy
  obtain⟨i,zv,i1,i2',i3,i4,i5,i6,i7,_⟩:=he.info
  have hu:=ht.kind;rw[hk]at hu
  have zm:=Cg.kind;rw[hk2]at zm
  obtain⟨z,hz,RI⟩:=jf (hp.n0 k _ hf) hl hw
  obtain⟨z2,lC,hrun2,hlen2⟩:=Fa (P:=P) (d:=d2) Hi hp.bf (q0 ρ) Zy
  obtain⟨zl,zw⟩:=hz.len
  obtain⟨zl2,zw2⟩:=lC.len
  have bY:=(ui hd hz lC).1
  have dp:=hp.fresh kn _ (List.mem_cons_self ..)
  simp only at zl
  have ie:∀u∈(z2.drop 0).take m,u.length=te.size:=fun u hu=>zw2 u (List.mem_of_mem_drop (List.mem_of_mem_take hu))
  have gf:((z2.drop 0).take m).length=m:=by rw[List.length_take,List.length_drop];omega
  have oE:(((z2.drop 0).take m).flatten).length=m*te.size:=by rw[aQ _ ie,gf]
  have jg:∀u∈(((z2.drop 0).take m).flatten),u.oneCell'=true:=fun u hu=>by
   obtain⟨q,hq,hu⟩:=List.mem_flatten.1 hu
   exact lC.wD q (List.mem_of_mem_drop (List.mem_of_mem_take hq)) u hu
  have fa:∀v w',(Builtin.append_ ts o.type #[a.eval x,a.eval y]).run P w= .ok v w'→(execOp a.eval o).run P w= .ok (.value v) w':=by
   intro v w' h
   simp only[execOp,ho,resolve,invoke,builtin,mr,Sem.run_bind,Sem.run_pure,Result.andThen_ok,List.map_toArray,List.map_cons,List.map_nil]
   rw[h]
   rfl
  have AT:∀v∈zv.cells.toList,v.oneCell'=true:=by
   have h1:=(aw.len (ρ:=ρ) te.zero _ (dX i6)).2
   rw[i5,List.flatMap_def];exact h1
  have AU:¬((n+m:Nat):Int)>IntKind.i64.max:=by
   have:IntKind.i64.max=9223372036854775807:=aI
   omega
  have grow:∀(base:Option Addr) (cap:Nat),a.eval x= .slice base n cap→cap<n+m→(∀w',(∀b,b<w.heap.size→w'.heap[b]? =w.heap[b]?)→(Builtin.firstCells te.size n (.slice base n cap)).run P w'= .ok ((z.take n).flatten).toArray w')→
    ∃v w' ρ',(execOp a.eval o).run P w= .ok (.value v) w'∧jH ρ w (.aO kn te.size 0 (n+m)) [(kn,⟨e,true,d'⟩)] [(k,⟨e,true,.dead⟩)] v ρ' w':=by
   intro base cap hbx hcap hfirst
   have wO:¬Builtin.nextslicecap (n+m) cap*i.bytes>2^48:=by
    have:=growslice_fits (bytes:=te.bytes) hcap hbytes
    rw[i3];simpa using this
   have Na:n+m≤grownCap w (n+m) cap e:=by
    simp only[grownCap,Question.cut]
    omega
   have cj:=je (hL:=bY.ef) (ρ:=ρ) (w:=w.drew) (k:=kn) (s:=te.size) (n:=n+m) (cap:=grownCap w (n+m) cap e) (ty:=e) (d:=d') (vs:=(z.take n++(z2.drop 0).take m).flatten) (ex:=(Builtin.zeroCells zv.cells (grownCap w (n+m) cap e - (n+m))).toList) dp bY.data Na
    (by
     have h1:((z.take n++(z2.drop 0).take m).flatten).length=(n+m)*te.size:=by
      rw[aQ (s:=te.size) _ (fun u hu=>(List.mem_append.1 hu).elim (fun h=>zw u (List.mem_of_mem_take h)) (ie u)),List.length_append,gf,List.length_take]
      congr 1
      omega
     rw[List.length_append,h1,Array.length_toList]
     have h2:(Builtin.zeroCells zv.cells (grownCap w (n+m) cap e - (n+m))).size=(grownCap w (n+m) cap e - (n+m))*te.size:=by simp[Builtin.zeroCells,i7]
     rw[h2,←Nat.add_mul,show n+m+(grownCap w (n+m) cap e - (n+m))=grownCap w (n+m) cap e from by omega]
     exact Nat.le_refl _) (gd AT _)
   refine⟨_,_,_,fa _ _ ?_,{cj with
    bK:=⟨cj.bK.os,cj.bK.tape,cj.bK.output,cj.bK.size,fun b hb hn=>cj.bK.block b hb (fun hh=>by obtain⟨_,_,_,hh,_⟩:=hh;cases hh)⟩
    blk:=fun j b hj=>by
     rcases hj with hj|hj
     ·simp only[List.mem_singleton,Prod.mk.injEq]at hj
      obtain⟨rfl,rfl⟩:=hj
      exact .inl rfl
     ·exact cj.blk j b (.inr hj)
    once:=fun j b b' h1 h2 h3 h4=>by
     simp only[List.mem_singleton,Prod.mk.injEq]at h1 h2
     rw[h2.2]at h4
     cases h4
    AM:=fun j b q hj hq=>.inl ((cj.AM j b q hj hq).elim id (fun hh=>by obtain⟨_,_,_,hh,_⟩:=hh;cases hh))}⟩
   have yL:(if false=true then(Pure.pure 0:Sem Nat)else Builtin.lenOf (a.eval y)).run P w= .ok m w:=by rw[hlen2];rfl
   have rr:¬n+m≤cap:=aa
   have hnb:(w.drew).heap=w.heap:=rfl
   have Hj:=hfirst w.drew (fun b _=>rfl)
   have q0:=hrun2 w.drew (fun b _=>rfl)
   simp only[Builtin.append_,jE,hbx,List.getElem?_toArray,List.getElem?_cons_zero,List.getElem?_cons_succ,Sem.run_bind,run_underlying hu,run_underlying zm,Result.andThen_ok,he.sizeOf,Sem.run_pure,Bool.false_eq_true,if_false,hlen2]
   have ru:∀w',(typeInfo e).run P w'= .ok i w':=fun w'=>by simp[typeInfo,i1]
   have AR:∀w',(Go.zeroValue e).run P w'= .ok zv w':=fun w'=>by simp[Go.zeroValue,typeInfo,i1,i4]
   have rv:¬(((n+m:Nat):Int)>IntKind.i64.max∧(False∨i.bytes=0)):=fun h=>AU h.1
   have jL:(Question.appendCap (n+m) cap e).forced=false:=rfl
   simp only[rr,if_false,Sem.run_bind,ru,Result.andThen_ok,rv,wO,run_choose,jL,Bool.false_eq_true,World.drew_eq,run_askRoom,Hj,Bool.not_false,if_true,q0,AR,newRow,run_newObj,Sem.run_pure,World.alloc_eq]
   have iM:((z.take n).flatten.toArray++((z2.drop 0).take m).flatten.toArray++Builtin.zeroCells zv.cells (grownCap w (n+m) cap e - (n+m)))=((z.take n++(z2.drop 0).take m).flatten++(Builtin.zeroCells zv.cells (grownCap w (n+m) cap e - (n+m))).toList).toArray:=by
    apply Array.ext'
    simp
   show Result.ok (Value.slice (some ⟨w.drew.heap.size,0,none⟩) (n+m) (grownCap w (n+m) cap e)) (w.drew.alloc (.cells ((z.take n).flatten.toArray++((z2.drop 0).take m).flatten.toArray++Builtin.zeroCells zv.cells (grownCap w (n+m) cap e - (n+m))) e))=_
   rw[iM]
  rcases fI CC with⟨b,tt,cap,e1,e2,e3,e4⟩|⟨rfl,ad,e4⟩
  ·rcases RI with⟨b',tt',ex,c1,c2,c3,c4⟩|⟨c1,_⟩
   ·rw[e1]at c1
    cases c1
    simp only at c2
    rcases Nat.lt_or_ge cap (n+m)with aE|IC
    ·refine grow _ cap e4 aE ?_
     obtain⟨z3,hz3,hrun3,_⟩:=mH (P:=P) CC (hp.n0 k _ hf) hl hw (by simpa using hn)
     intro w' yV
     have h0:=run_firstCells_some (P:=P) w' te.size n ⟨b,0*te.size,none⟩ n cap ((z.take n).flatten) (by
      rw[aQ (s:=te.size) _ (fun u hu=>zw u (List.mem_of_mem_take hu)),List.length_take];congr 1;omega) (by
      intro j u hj
      have rq:b<w.heap.size:=by
       rcases Nat.lt_or_ge b w.heap.size with h'|h'
       ·exact h'
       ·simp[Array.getElem?_eq_none h']at c2
      have hh:w'.heap[b]? =some (.cells (z.flatten++ex).toArray e (0,0)):=by rw[yV b rq];exact c2
      have fU:(⟨b,0*te.size,none⟩:Addr).add j=⟨b,j,none⟩:=jY b te.size j
      rw[fU,cell_of_row w' b j _ e (0,0) hh]
      rw[cC (s:=te.size) _ _ zw]at hj
      have h6:z.flatten[j]? =some u:=by
       rw[List.getElem?_take]at hj
       split at hj
       ·exact hj
       ·cases hj
      have CD:j<z.flatten.length:=(List.getElem?_eq_some_iff.1 h6).1
      simp only[List.getElem?_toArray]
      rw[List.getElem?_append_left CD]
      exact h6)
     exact h0
    ·-- in place
     have rq:b<w.heap.size:=by
      rcases Nat.lt_or_ge b w.heap.size with h'|h'
      ·exact h'
      ·simp[Array.getElem?_eq_none h']at c2
     have q0:=hrun2 w (fun b _=>rfl)
     have uZ:0*te.size+n*te.size+(((z2.drop 0).take m).flatten).length≤(z.flatten++ex).length:=by
      rw[oE,c3,Nat.zero_mul,Nat.zero_add,←Nat.add_mul]
      exact Nat.le_trans (Nat.mul_le_mul_right _ IC) (by simpa using e3)
     have Ei:=run_storeCells_at (P:=P) b (n*te.size) e (((z2.drop 0).take m).flatten) 0 (z.flatten++ex).toArray w c2 (by simp only[List.size_toArray];simpa using uZ) jg
     have fU:(⟨b,0*te.size,none⟩:Addr).add (n*te.size)=⟨b,n*te.size,none⟩:=jY b te.size _
     have fV:((z.flatten++ex).take (n*te.size+0)++(((z2.drop 0).take m).flatten)++(z.flatten++ex).drop (n*te.size+0+(((z2.drop 0).take m).flatten).length))=
       (z.take n++(z2.drop 0).take m).flatten++(z.flatten++ex).drop (n*te.size+m*te.size):=by
      rw[Nat.add_zero,oE,List.flatten_append,cC (s:=te.size) _ _ zw,List.take_append_of_le_length (by rw[aQ (s:=te.size) _ zw];exact Nat.mul_le_mul_right _ aa)]
     rw[fV]at Ei
     let ρ':bU:=⟨fun j=>if j=kn then some (b,tt)else ρ.key j,ρ.bf,ρ.cw⟩
     have hle:ρ.Le ρ':=⟨fun j q hq=>by
      show(if j=kn then _ else _)=_
      by_cases hj:j=kn
      ·subst hj;rw[dp]at hq;cases hq
      ·rw[if_neg hj];exact hq,fun b o hb=>hb⟩
     refine⟨.slice (some ⟨b,0*te.size,none⟩) (n+m) cap,w.setRow b ((z.take n++(z2.drop 0).take m).flatten++(z.flatten++ex).drop (n*te.size+m*te.size)).toArray,ρ',fa _ _ ?_, ?_⟩
     ·simp only[Builtin.append_,jE,e4,List.getElem?_toArray,List.getElem?_cons_zero,List.getElem?_cons_succ,Sem.run_bind,run_underlying hu,run_underlying zm,Result.andThen_ok,he.sizeOf,Sem.run_pure,Bool.false_eq_true,if_false,hlen2,IC,if_true,Bool.not_false,q0,fU,Ei]
     ·refine⟨hle,gv (.inl ⟨b,tt,cap, ?_,IC,e3,rfl⟩), ?_,⟨rfl,rfl,rfl,by simp[World.setRow], ?_⟩, ?_, ?_, ?_, ?_,fun b o hb=>.inl hb⟩
      ·show(if kn=kn then _ else _)=_
       rw[if_pos rfl]
      ·intro j hj
       show(if j=kn then _ else _)=_
       rw[if_neg]
       rintro rfl
       exact hj _ (List.mem_cons_self ..)
      ·intro q hq hnq
       refine dj fun I5=>hnq ⟨k,_,tt,List.mem_cons_self .., ?_⟩
       rw[I5];exact e1
      ·intro j bj hj
       rcases hj with hj|hj
       ·simp only[List.mem_singleton,Prod.mk.injEq]at hj
        obtain⟨rfl,rfl⟩:=hj
        exact .inl rfl
       ·simp only[List.mem_singleton,Prod.mk.injEq]at hj
        obtain⟨rfl,rfl⟩:=hj
        refine .inr (.inl ⟨b,tt,_,(z.flatten++ex).drop (n*te.size+m*te.size), ?_,by rw[Data.cT bY.ef];exact dC c2,bY.data.mono hle, ?_, ?_⟩)
        ·show(if j=j then _ else _)=_
         rw[if_pos rfl]
        ·have h1:((z.take n++(z2.drop 0).take m).flatten).length=(n+m)*te.size:=by
          rw[aQ (s:=te.size) _ (fun u hu=>(List.mem_append.1 hu).elim (fun h=>zw u (List.mem_of_mem_take h)) (ie u)),List.length_append,gf,List.length_take]
          congr 1
          omega
         rw[List.length_append,h1,List.length_drop,c3,Nat.add_mul]
         rw[oE,c3]at uZ
         omega
        ·intro u hu
         have:=List.mem_of_mem_drop hu
         rcases List.mem_append.1 this with h|h
         ·obtain⟨q,hq,hu'⟩:=List.mem_flatten.1 h
          exact hz.wD q hq u hu'
         ·exact c4 u h
      ·intro j c c' h1 h2 h3 h4
       simp only[List.mem_singleton,Prod.mk.injEq]at h1 h2
       rw[h2.2]at h4
       cases h4
      ·intro j bj q hj hq
       simp only[List.mem_singleton,Prod.mk.injEq]at hj
       obtain⟨rfl,rfl⟩:=hj
       have AV:(if j=j then some (b,tt)else ρ.key j)=some q:=hq
       rw[if_pos rfl]at AV
       cases AV
       exact .inr ⟨k,_,tt,List.mem_cons_self ..,rfl,e1⟩
      ·intro j bj j' bj' q q' hj ou bW
       simp only[List.mem_singleton,Prod.mk.injEq]at hj ou
       exact absurd (hj.1.trans ou.1.symm) bW
   ·rw[e1]at c1;cases c1
  ·rcases Nat.eq_zero_or_pos m with rfl|Zp
   ·-- nothing onto nothing
    have q0:=hrun2 w (fun b _=>rfl)
    refine⟨.slice ad 0 0,w,ρ,fa _ _ ?_, ?_⟩
    ·have ud:∀q:Addr,(storeCells q ([]:List Value)).run P w= .ok () w:=fun q=>rfl
     have CE:((z2.drop 0).take 0).flatten=[]:=by simp
     rw[CE]at q0
     cases ad<;>simp only[Builtin.append_,jE,e4,List.getElem?_toArray,List.getElem?_cons_zero,List.getElem?_cons_succ,Sem.run_bind,run_underlying hu,run_underlying zm,Result.andThen_ok,he.sizeOf,Sem.run_pure,Bool.false_eq_true,if_false,hlen2,Nat.add_zero,Nat.le_refl,if_true,Bool.not_false,q0,ud]
    ·have adp:d'.empty∨True:=.inr trivial
     have p8:d'.empty:=by
      unfold oC at hd
      split at hd
      ·split at hd
       ·simp only[Option.some.injEq]at hd;subst hd;simp[Data.empty]
       ·simp at hd
      ·simp only[Option.some.injEq]at hd;subst hd;simp[Data.empty]
      ·split at hd
       ·simp only[Option.some.injEq]at hd;subst hd;simp[Data.empty]
       ·simp at hd
      ·simp at hd
     refine⟨.refl ρ,gv (.inr ⟨rfl,ad,rfl⟩),fun _ _=>rfl,.refl _ _, ?_, ?_, ?_, ?_,fun b o hb=>.inl hb⟩
     ·intro j bj hj
      rcases hj with hj|hj
      ·simp only[List.mem_singleton,Prod.mk.injEq]at hj
       obtain⟨rfl,rfl⟩:=hj
       exact .inl rfl
      ·simp only[List.mem_singleton,Prod.mk.injEq]at hj
       obtain⟨rfl,rfl⟩:=hj
       exact .inr (.inr ⟨dp,p8⟩)
     ·intro j c c' h1 h2 h3 h4
      simp only[List.mem_singleton,Prod.mk.injEq]at h1 h2
      rw[h2.2]at h4
      cases h4
     ·intro j bj q hj hq
      simp only[List.mem_singleton,Prod.mk.injEq]at hj
      obtain⟨rfl,rfl⟩:=hj
      rw[dp]at hq;cases hq
     ·intro j bj j' bj' q q' hj ou bW
      simp only[List.mem_singleton,Prod.mk.injEq]at hj ou
      exact absurd (hj.1.trans ou.1.symm) bW
   ·refine grow ad 0 e4 aa ?_
    intro w' _
    cases ad with
    |none=>simp[Builtin.firstCells]
    |some q=>simp[Builtin.firstCells,loadCells,loadCellsFrom]
theorem Dm {E:Env} (t k:Nat) {c:Code} {K:bI} {fr:List (Nat×SV)} {hp:List (Nat×aF)} {ty:TypeId} {n:Nat} {kd:IntKind} {xs ys:List Int} (hW:∀b,¬E.W0 b) (ht:lk fr t=some (.aO k 1 0 n)) (hk:find hp k=some ⟨ty,true,.ints kd xs⟩)
  (hn:n≤xs.length) (hy:xs.take n=ys) (hs:ey E c K ((t,cO kd ys)::fr) (ff hp k ⟨ty,true,.dead⟩)):ey E c K fr hp:=by
 refine kG t k (xs:=xs.map (jv kd)) hW ht hk rfl rfl (bN (fun _=>rfl) xs) (by simp;omega) ?_
 have e:gY (xs.map (jv kd)) 0 (0+n)=ys.map (jv kd):=by
  rw[gY,List.drop_zero,Nat.sub_zero,Nat.zero_add,←List.map_take,hy]
 rw[e]
 exact hs
theorem Ov (xs:List Int) (n:Nat) (hn:n≤xs.length) (hl:xs.length<1099511627776) (K:Nat) (wr:Bool):
  ab Tryz.prog 326 [.aO K 1 0 n] [(K,⟨3,wr,.ints .i64 xs⟩)] (.aO K 1 0 (gZ xs n)) [] []:=by
 refine ab.rN ?_
 refine gh (Z:=[]) aJ bO Tryz.func326 rfl av (args:=[.aO 1001 1 0 n]) (fk:=[(1001,⟨3,false,.ints .i64 xs⟩)]) (c:=.aO 1001 1 0 (gZ xs n)) (new:=[]) (upd:=[]) (cI.of rfl rfl rfl rfl rfl rfl rfl rfl rfl rfl rfl) rfl (fun _=>K) (bo.ro rfl) ?_
 intro W0 w0 ρ0 hE
 conv=>whnf
 skip
 refine aj hE (fun k=>k) [0] [1001] (fun m fr hp=>m≤n∧gZ xs m=gZ xs n∧fr=[(0,.aO 1001 1 0 m)]∧hp=[(1001,⟨3,false,.ints .i64 xs⟩)]) n ?_ ?_ ?_
 ·kernel_rfl
 ·exact⟨aa,rfl,rfl,rfl⟩
 rintro m _ _ ⟨hm,hc,rfl,rfl⟩
 conv=>whnf
 by_cases h0:m=0
 ·subst h0
  have t1:decide (((0:Nat):Int)>0)=false:=rfl
  have e:gZ xs n=0:=hc.symm
  rw[e]
  (repeat(first|(refine ae rfl rfl ?_;conv=>whnf)|(refine ah dP ?_;conv=>whnf)))
  exact⟨au.refl _,(fun _ _ h=>by cases h),(fun _ _ h=>by cases h)⟩
 ·obtain⟨m,rfl⟩:∃k,m=k+1:=⟨m - 1,aa⟩
  have t1:decide (((m+1:Nat):Int)>0)=true:=decide_eq_true aa
  have e1:IntKind.i64.wrap (((m+1:Nat):Int) - 1)=(m:Int):=by rw[wrap_i64 aa aa];omega
  by_cases hx:xs.getD m 0=0
  ·have t2:(xs.getD m 0==0)=true:=beq_iff_eq.2 hx
   rw[gZ,if_pos hx]at hc
   (repeat((first|refine ag rfl rfl ?_|refine bg Q3 ?_|refine aC Q3 ?_|refine ah dO ?_|rw[t1]|rw[e1]|rw[show 0+(m:Int).toNat=m from by omega]|rw[t2]|rw[show((m:Int) - 0).toNat=m from by omega]|rw[Nat.zero_add]);conv=>whnf))
   exact⟨m,fun k=>k,[0],[1001],aa,av,aa,hc,rfl,rfl⟩
  ·have t2:(xs.getD m 0==0)=false:=beq_false_of_ne hx
   rw[gZ,if_neg hx]at hc
   rw[←hc]
   (repeat((first|refine ag rfl rfl ?_|refine ae rfl rfl ?_|refine bg Q3 ?_|refine aC Q3 ?_|refine ah dO ?_|rw[t1]|rw[e1]|rw[show 0+(m:Int).toNat=m from by omega]|rw[t2]);conv=>whnf))
   exact⟨au.refl _,(fun _ _ h=>by cases h),(fun _ _ h=>by cases h)⟩
theorem nQ (R i:Nat):R/10000^i=10000*(R/10000^(i+1))+R/10000^i % 10000:=by
 have:=Nat.div_add_mod (R/10000^i) 10000
 rw[Nat.div_div_eq_div_mul,←Nat.pow_succ]at this
 exact this.symm
theorem HT (R F:Nat) (hR:(td R).length<1099511627776) (hF:F<1099511627776) (hb:R/10000^F<100000000000000000):ab Tryz.prog 356 [nN R,.val (.int .i64 (F:Nat))] [] (.val (.int .i64 ((R/10000^F:Nat):Int))) [] []:=by
 have e0:IntKind.i64.wrap (((td R).length:Int) - 1)=((td R).length:Int) - 1:=wrap_i64 aa aa
 refine bT [] Tryz.func356 ?_
 intro W0 w0 ρ0 hE
 conv=>whnf
 (repeat(first|(refine ah Q8 ?_;conv=>whnf)|(rw[e0];conv=>whnf)))
 refine aj hE (fun k=>k) [0,1,5,6] [] (fun q fr hp=>∃j:Nat,q=j - F∧j≤(td R).length∧(F≤j∨j=(td R).length)∧fr=[(0,nN R),(1,.val (.int .i64 (F:Nat))),(5,.val (.int .i64 ((R/10000^j:Nat):Int))),(6,.val (.int .i64 ((j:Int) - 1)))]∧hp=[]) ((td R).length - F) ?_ ?_ ?_
 ·kernel_rfl
 ·exact⟨(td R).length,rfl,Nat.le_refl _,.inr rfl,by rw[Nat.div_eq_of_lt (eU R)];rfl,rfl⟩
 rintro q _ _ ⟨j,rfl,hj,hjF,rfl,rfl⟩
 conv=>whnf
 by_cases hgo:F<j
 ·obtain⟨i,rfl⟩:∃i,j=i+1:=⟨j - 1,aa⟩
  have ei:(((i+1:Nat):Int) - 1)=(i:Int):=aa
  rw[ei]
  have hs:=nQ R i
  have hle:R/10000^i≤R/10000^F:=Nat.div_le_div_left (Nat.pow_le_pow_right aI aa) (Nat.pow_pos aI)
  have hg:=Bz R i
  have t1:decide ((i:Int)≥(F:Int))=true:=decide_eq_true aa
  generalize hA:R/10000^(i+1)=A at*
  generalize hB:R/10000^i=B at*
  have e1:IntKind.i64.wrap (10000*(A:Int))=10000*(A:Int):=wrap_i64 aa aa
  have e2:IntKind.i64.wrap (10000*(A:Int)+((B % 10000:Nat):Int))=(B:Int):=by rw[wrap_i64 aa aa];omega
  have e3:IntKind.i64.wrap ((i:Int) - 1)=(i:Int) - 1:=wrap_i64 aa aa
  have hiT:i<(td R).length:=aa
  clear hs hle
  (repeat((first|refine ag rfl rfl ?_|refine ah Q5 ?_|refine ah jw ?_|rw[t1]|rw[hg]|rw[e1]|rw[e2]|rw[e3]);conv=>whnf))
  exact⟨i - F,fun k=>k,[0,1,5,6],[],aa,av,i,rfl,aa,aa,by rw[hB];rfl,rfl⟩
 ·have t1:decide ((j:Int) - 1≥(F:Int))=false:=decide_eq_false aa
  have e:R/10000^F=R/10000^j:=by
   rcases hjF with h|h
   ·rw[show j=F by omega]
   ·rw[h,Nat.div_eq_of_lt (eU R),Nat.div_eq_of_lt (gP aa)]
  rw[e]
  (repeat(first|(refine ae rfl rfl ?_;conv=>whnf)|(rw[t1];conv=>whnf)));exact Q4
theorem Fb (L:List Int) (R F:Nat) (hL:L.take (td R).length=td R) (MI:(td R).length≤L.length) (hR:(td R).length<1099511627776) (hF:F<1099511627776) (hb:R/10000^F<100000000000000000) (K:Nat) (wr:Bool):
  ab Tryz.prog 356 [.aO K 1 0 (td R).length,.val (.int .i64 (F:Nat))] [(K,⟨3,wr,.ints .i64 L⟩)] (.val (.int .i64 ((R/10000^F:Nat):Int))) [] []:=by
 have e0:IntKind.i64.wrap (((td R).length:Int) - 1)=((td R).length:Int) - 1:=wrap_i64 aa aa
 have hLg:∀i,i<(td R).length→L.getD i 0=((R/10000^i % 10000:Nat):Int):=fun i hi=>by rw[←Bz,←hL,getD_take,if_pos hi]
 refine ab.rN ?_
 refine gh (Z:=[]) aJ bO Tryz.func356 rfl av (args:=[.aO 1001 1 0 (td R).length,.val (.int .i64 (F:Nat))]) (fk:=[(1001,⟨3,false,.ints .i64 L⟩)]) (c:=.val (.int .i64 ((R/10000^F:Nat):Int))) (new:=[]) (upd:=[]) (cI.of rfl rfl rfl rfl rfl rfl rfl rfl rfl rfl rfl) rfl (fun _=>K) (bo.ro rfl) ?_
 intro W0 w0 ρ0 hE
 conv=>whnf
 (repeat(first|(rw[e0];conv=>whnf)))
 refine aj hE (fun k=>k) [0,1,5,6] [1001] (fun q fr hp=>∃j:Nat,q=j - F∧j≤(td R).length∧(F≤j∨j=(td R).length)∧fr=[(0,.aO 1001 1 0 (td R).length),(1,.val (.int .i64 (F:Nat))),(5,.val (.int .i64 ((R/10000^j:Nat):Int))),(6,.val (.int .i64 ((j:Int) - 1)))]∧hp=[(1001,⟨3,false,.ints .i64 L⟩)]) ((td R).length - F) ?_ ?_ ?_
 ·kernel_rfl
 ·exact⟨(td R).length,rfl,Nat.le_refl _,.inr rfl,by rw[Nat.div_eq_of_lt (eU R)];rfl,rfl⟩
 rintro q _ _ ⟨j,rfl,hj,hjF,rfl,rfl⟩
 conv=>whnf
 by_cases hgo:F<j
 ·obtain⟨i,rfl⟩:∃i,j=i+1:=⟨j - 1,aa⟩
  have ei:(((i+1:Nat):Int) - 1)=(i:Int):=aa
  rw[ei]
  have hs:=nQ R i
  have hle:R/10000^i≤R/10000^F:=Nat.div_le_div_left (Nat.pow_le_pow_right aI aa) (Nat.pow_pos aI)
  have hg:=hLg i aa
  have t1:decide ((i:Int)≥(F:Int))=true:=decide_eq_true aa
  generalize hA:R/10000^(i+1)=A at*
  generalize hB:R/10000^i=B at*
  have e1:IntKind.i64.wrap (10000*(A:Int))=10000*(A:Int):=wrap_i64 aa aa
  have e2:IntKind.i64.wrap (10000*(A:Int)+((B % 10000:Nat):Int))=(B:Int):=by rw[wrap_i64 aa aa];omega
  have e3:IntKind.i64.wrap ((i:Int) - 1)=(i:Int) - 1:=wrap_i64 aa aa
  have hiT:i<(td R).length:=aa
  clear hs hle
  (repeat((first|refine ag rfl rfl ?_|refine bg Q3 ?_|refine aC Q3 ?_|rw[t1]|rw[hg]|rw[e1]|rw[e2]|rw[e3]|rw[Int.toNat_natCast]|rw[Nat.zero_add]);conv=>whnf))
  exact⟨i - F,fun k=>k,[0,1,5,6],[1001],aa,av,i,rfl,aa,aa,by rw[hB];rfl,rfl⟩
 ·have t1:decide ((j:Int) - 1≥(F:Int))=false:=decide_eq_false aa
  have e:R/10000^F=R/10000^j:=by
   rcases hjF with h|h
   ·rw[show j=F by omega]
   ·rw[h,Nat.div_eq_of_lt (eU R),Nat.div_eq_of_lt (gP aa)]
  rw[e]
  (repeat(first|(refine ae rfl rfl ?_;conv=>whnf)|(rw[t1];conv=>whnf)))
  exact⟨au.refl _,(fun _ _ h=>by cases h),(fun _ _ h=>by cases h)⟩
section
variable {a b R d P F T lb:Nat}
theorem KN {R b P T:Nat} (hb:0<b) (hP:0<P) (hT:b<(T+1)*P):R/P/(T+1)≤R/b:=by
 rw[Nat.le_div_iff_mul_le hb]
 have h1:R/P/(T+1)*(T+1)≤R/P:=Nat.div_mul_le_self _ _
 have h2:R/P*P≤R:=Nat.div_mul_le_self _ _
 have h3:R/P/(T+1)*b≤R/P/(T+1)*((T+1)*P):=Nat.mul_le_mul_left _ (Nat.le_of_lt hT)
 have h4:R/P/(T+1)*(T+1)*P≤R/P*P:=Nat.mul_le_mul_right P h1
 rw[Nat.mul_assoc]at h4
 omega
theorem KO {R b P T:Nat} (hT0:0<T) (hP:0<P) (hT:T*P≤b):R/b≤R/P/T:=by
 rw[Nat.le_div_iff_mul_le hT0,Nat.le_div_iff_mul_le hP]
 have h1:R/b*b≤R:=Nat.div_mul_le_self _ _
 have h2:R/b*(T*P)≤R/b*b:=Nat.mul_le_mul_left _ hT
 rw[Nat.mul_assoc]
 omega
end
theorem KP {A b d:Nat} (hb:0<b):(10000*A+d)/b=10000*(A/b)+(A % b*10000+d)/b:=by
 have h:10000*A+d=A % b*10000+d+b*(10000*(A/b)):=by
  have:=Nat.div_add_mod A b
  have e:b*(10000*(A/b))=10000*(b*(A/b)):=by rw[←Nat.mul_assoc,Nat.mul_comm b 10000,Nat.mul_assoc]
  omega
 rw[h,Nat.add_mul_div_left _ _ hb];omega
theorem KQ {A b d:Nat}:(10000*A+d) % b=(A % b*10000+d) % b:=by
 have h:10000*A+d=A % b*10000+d+b*(10000*(A/b)):=by
  have:=Nat.div_add_mod A b
  have e:b*(10000*(A/b))=10000*(b*(A/b)):=by rw[←Nat.mul_assoc,Nat.mul_comm b 10000,Nat.mul_assoc]
  omega
 rw[h,Nat.add_mul_mod_self_left]
theorem KT {r b d:Nat} (hb:0<b) (hr:r<b) (hd:d<10000):(r*10000+d)/b<10000:=by
 rw[Nat.div_lt_iff_lt_mul hb]
 have:(r+1)*10000≤b*10000:=Nat.mul_le_mul_right _ hr
 rw[Nat.add_mul]at this
 rw[Nat.mul_comm 10000 b];omega
theorem Ow {b:Nat} (hb:0<b):0<b/10000^((td b).length - 3):=by
 refine Nat.div_pos (Nat.le_trans (Nat.pow_le_pow_right aI aa) (uE aa)) (Nat.pow_pos aI)
theorem YM {b:Nat}:b/10000^((td b).length - 3)<1000000000000:=by
 rw[Nat.div_lt_iff_lt_mul (Nat.pow_pos aI),show 1000000000000=10000^3 from rfl,←Nat.pow_add]
 exact gP aa
theorem Ox {d R:Nat} (hd:d<10000) (h:R*10000+d≠0):td (R*10000+d)=(d:Int)::td R:=by
 rw[pK h,show(R*10000+d) % 10000=d by omega,show(R*10000+d)/10000=R by omega]
theorem BB:∀(k n:Nat),(td n).drop k=td (n/10000^k)
 |0,n=>by simp
 |k+1,n=>by
  by_cases h:n=0
  ·subst h;rw[sj,Nat.zero_div];rfl
  ·rw[pK h,List.drop_succ_cons,BB k,Nat.div_div_eq_div_mul,Nat.pow_succ,Nat.mul_comm]
theorem KU {d R:Nat} (hd:d<10000):gZ ((d:Int)::td R) ((td R).length+1)=(td (R*10000+d)).length∧((d:Int)::td R).take (td (R*10000+d)).length=td (R*10000+d):=by
 by_cases h:R*10000+d=0
 ·obtain rfl:R=0:=aa
  obtain rfl:d=0:=aa
  exact⟨rfl,rfl⟩
 ·have e:=Ox hd h
  have hl:(td (R*10000+d)).length=(td R).length+1:=by rw[e];rfl
  have ht:=(Bx h).2
  rw[hl,e,Nat.add_sub_cancel]at ht
  refine⟨?_, ?_⟩
  ·rw[hl,gZ,if_neg ht]
  ·rw[←e,List.take_length]
theorem Dn {n:Nat} (h:n<9223372036854775808):IntKind.i64.wrap (n:Int)=n:=wrap_i64 aa aa
theorem KV (a b:Nat) (hb:0<b) (ha:(td a).length<268435456) (Yg:(td b).length<268435456):ab Tryz.prog 320 [nN a,nN b] [] (.ck [nN (a/b),nN (a % b)]) [] []:=by
 have k1:=KK a b aa aa
 by_cases aE:a<b
 ·have t1:decide (((a:Int) - b).sign<0)=true:=decide_eq_true (by rw[Int.sign_eq_neg_one_of_neg aa];omega)
  have e0:nN (a/b)=eI 1 []:=by rw[Nat.div_eq_of_lt aE];rfl
  have e1:nN (a % b)=nN a:=by rw[Nat.mod_eq_of_lt aE]
  rw[e0,e1]
  refine fZ [] Tryz.func320 ?_
  intro w0 ρ0 hE
  conv=>whnf
  (repeat(first|(refine ag rfl rfl ?_;conv=>whnf)|(refine aS (by assumption) ?_;conv=>whnf)|(rw[t1];conv=>whnf)));exact Q21
 have t1:decide (((a:Int) - b).sign<0)=false:=decide_eq_false Q38
 have hle:=fC (show b≤a by omega)
 have agp:0<(td b).length:=by have:=(gQ (n:=b));omega
 have hT0:=Ow hb
 have hT1:=YM (b:=b)
 have YN:0<10000^((td b).length - 3):=Nat.pow_pos aI
 have hTb:b/10000^((td b).length - 3)*10000^((td b).length - 3)≤b:=Nat.div_mul_le_self _ _
 have hbT:b<(b/10000^((td b).length - 3)+1)*10000^((td b).length - 3):=by rw[Nat.mul_comm];exact Nat.lt_mul_div_succ b YN
 have k2:=HT b ((td b).length - 3) aa aa aa
 generalize hF:(td b).length - 3=F at*
 generalize hT:b/10000^F=T at*
 have e1:IntKind.i64.wrap (((td b).length:Int) - 3)=((td b).length:Int) - 3:=wrap_i64 aa aa
 have e2:(if ((td b).length:Int) - 3>0 then((td b).length:Int) - 3 else 0)=(F:Int):=by split<;>omega
 generalize hD:(td a).length - (td b).length=D
 have e3:IntKind.i64.wrap (((td a).length:Int) - ((td b).length:Int))=(D:Int):=by rw[wrap_i64 aa aa];omega
 have e4:IntKind.i64.wrap ((D:Int)+1)=((D+1:Nat):Int):=by rw[wrap_i64 aa aa];omega
 have hA0:a/10000^(D+1)<b:=by
  have h1:=eU a
  have h2:=uE (n:=b) aa
  rw[Nat.div_lt_iff_lt_mul (Nat.pow_pos aI)]
  refine Nat.lt_of_lt_of_le h1 (Nat.le_trans (m:=10000^((td b).length - 1)*10000^(D+1)) ?_ (Nat.mul_le_mul_right _ h2))
  rw[←Nat.pow_add]
  exact Nat.pow_le_pow_right aI aa
 have ab6:((td a).drop (D+1)).take ((td a).length - (D+1))=td (a/10000^(D+1)):=by
  rw[BB,List.take_of_length_le]
  rw[←BB,List.length_drop];omega
 have wb:=iT b
 refine fZ [] Tryz.func320 ?_
 intro w0 ρ0 hE
 conv=>whnf
 have agq:(td (a/10000^(D+1))).length<1099511627776:=by have:=fC (Nat.div_le_self a (10000^(D+1)));omega
 generalize hR0:a/10000^(D+1)=R0 at*
 (repeat(first|(refine ae rfl rfl ?_;conv=>whnf)|(refine aC Q3 ?_;conv=>whnf)|(refine aS (by assumption) ?_;conv=>whnf)|(refine ah Q8 ?_;conv=>whnf)|(refine ah Ga ?_;conv=>whnf)|(refine⟨.aO 40 1 0 (0+(td R0).length),[(35,⟨3,true,.ints .i64 []⟩)],[(40,⟨3,true,.ints .i64 (td R0)⟩)],[(35,⟨3,true,.dead⟩)],nP rfl rfl rfl (ak rfl) (ak rfl) (uF (td R0)) (aJ.get (t:=77) rfl) rfl (aJ.get (t:=77) rfl) rfl (aJ.get (t:=3) rfl) (List.mem_cons_self ..) rfl rfl (by simp[en]) (by simp) (by simp[en]) (by simp[oC]) (by show(0+_)*Sd.bytes≤_;simp only[Se];omega) aa,dh rfl,c5 rfl,dd (List.mem_cons_self ..) rfl rfl rfl, ?_⟩;conv=>whnf)|(rw[t1];conv=>whnf)|(rw[e1];conv=>whnf)|(rw[e2];conv=>whnf)|(rw[e3];conv=>whnf)|(rw[e4];conv=>whnf)|(rw[ab6];conv=>whnf)|(rw[Int.toNat_natCast];conv=>whnf)|(rw[Nat.zero_add];conv=>whnf)))
 refine Dm 10 40 (fun _ h=>h) rfl rfl (Nat.le_refl _) (List.take_length) ?_
 have e5:((D+1:Nat):Int) - 1=(D:Int):=aa
 refine dE hE (fun k=>k) [0,1,6,7,8,9,10] [34] (fun m fr hp=>∃Q:List Int,m≤D+1∧Q.length=D+1∧W4 Q∧(∀k,k<m→Q.getD k 0=0)∧bq Q (D+1)=((a/10000^m/b:Nat):Int)*10000^m∧
  fr=[(0,nN a),(1,nN b),(6,.val (.int .i64 (F:Nat))),(7,.val (.int .i64 (T:Nat))),(8,.val (.int .i64 ((m:Int) - 1))),(9,.aO 34 1 0 (D+1)),(10,nN (a/10000^m % b))]∧hp=[(34,y7 Q)]) (D+1) ?_ ?_ ?_
 ·kernel_rfl
 ·refine⟨List.replicate (D+1) 0,Nat.le_refl _,List.length_replicate,GC (fun x hx=>by rw[(List.mem_replicate.1 hx).2];omega),(fun k _=>bB), ?_, ?_,rfl⟩
  ·rw[kW (k:=0) (fun i _ _=>bB) (Nat.zero_le _),hR0,Nat.div_eq_of_lt hA0];simp[bq]
  ·rw[e5,hR0,Nat.mod_eq_of_lt hA0];rfl
 rintro m _ _ ⟨Q,hm,hQl,hQw,hQ0,hQv,rfl,rfl⟩
 by_cases h0:m=0
 ·subst h0
  rw[Nat.pow_zero,Nat.div_one,Int.pow_zero,Int.mul_one]at hQv
  have hz:nN (a/10000^0 % b)=nN (a % b):=by rw[Nat.pow_zero,Nat.div_one]
  rw[hz]
  have t2:decide (((0:Nat):Int) - 1≥0)=false:=rfl
  have kt:=BA Q aa hQw
  rw[show(bq Q Q.length).toNat=a/b by rw[hQl,hQv];exact Int.toNat_natCast _]at kt
  refine oU 9 34 (fun _ h=>h) rfl rfl hQl.symm ?_
  refine ey.of hE ?_
  conv=>whnf
  (repeat(first|(refine ae rfl rfl ?_;conv=>whnf)|(refine aS (by assumption) ?_;conv=>whnf)));exact Q4
 ·obtain⟨i,rfl⟩:∃i,m=i+1:=⟨m - 1,aa⟩
  have ei:(((i+1:Nat):Int) - 1)=(i:Int):=aa
  rw[ei]
  have ud:=nQ a i
  have Oy:(td a).getD i 0=((a/10000^i % 10000:Nat):Int):=Bz a i
  have ab7:a/10000^i % 10000<10000:=Nat.mod_lt _ aI
  have hia:i<(td a).length:=aa
  have agr:=fC (Nat.le_trans (Nat.mod_le (a/10000^(i+1)) b) (Nat.div_le_self a _))
  have hq1:=hQv
  have ga:((a/10000^i/b:Nat):Int)=10000*((a/10000^(i+1)/b:Nat):Int)+(((a/10000^(i+1) % b*10000+a/10000^i % 10000)/b:Nat):Int):=by
   rw[ud,KP hb]
   have:(10000*(a/10000^(i+1))+a/10000^i % 10000) % 10000=a/10000^i % 10000:=by rw[←ud]
   rw[this];omega
  have ab8:a/10000^i % b=(a/10000^(i+1) % b*10000+a/10000^i % 10000) % b:=by
   have h:=KQ (A:=a/10000^(i+1)) (b:=b) (d:=a/10000^i % 10000)
   rw[←ud]at h;exact h
  have hRb:a/10000^(i+1) % b<b:=Nat.mod_lt _ hb
  clear ud
  generalize hd:a/10000^i % 10000=d at*
  generalize hR:a/10000^(i+1) % b=R at*
  obtain⟨RG,YK⟩:=KU (R:=R) ab7
  have agt:(td (R*10000+d)).length≤(td R).length+1:=fP (by have:=eU R;rw[Nat.pow_succ];omega)
  have agu:=KT (d:=d) hb hRb ab7
  have agv:(td (R*10000+d)).length≤(td b).length+1:=fP (by have:=eU b;rw[Nat.pow_succ];omega)
  have kt:=Ov ((d:Int)::td R) (1+(td R).length) (by rw[List.length_cons];omega) (by rw[List.length_cons];omega) 51 true
  rw[Nat.add_comm 1,RG,Nat.add_comm]at kt
  have ad6:(R*10000+d)/10000^F<10000^4:=by
   rw[Nat.div_lt_iff_lt_mul (Nat.pow_pos aI),←Nat.pow_add]
   exact gP aa
  have kl:=Fb ((d:Int)::td R) (R*10000+d) F YK (by rw[List.length_cons];omega) aa aa aa 51 true
  have glo:=KN (R:=R*10000+d) hb YN hbT
  have ghi:=KO (R:=R*10000+d) hT0 YN hTb
  have ad7:R*10000+d - b*((R*10000+d)/b)=a/10000^i % b:=by
   rw[ab8];have:=Nat.div_add_mod (R*10000+d) b;omega
  have YO:b*((R*10000+d)/b)≤R*10000+d:=Nat.mul_div_le _ _
  have ab9:∀x,b*x≤R*10000+d↔x≤(R*10000+d)/b:=fun x=>by rw[Nat.le_div_iff_mul_le hb,Nat.mul_comm]
  generalize jD:R*10000+d=R' at*
  generalize hfe:R'/10000^F=fst at*
  generalize hqd:R'/b=qd at*
  have e6:IntKind.i64.wrap ((T:Int)+1)=((T+1:Nat):Int):=by rw[wrap_i64 aa aa];omega
  have e7:IntKind.i64.wrap ((fst:Int).tdiv ((T+1:Nat):Int))=((fst/(T+1):Nat):Int):=by
   rw[Int.tdiv_eq_ediv_of_nonneg aa,←Int.natCast_ediv]
   exact Dn (Nat.lt_of_le_of_lt (Nat.div_le_self fst (T+1)) aa)
  have e8:IntKind.i64.wrap ((fst:Int).tdiv (T:Int))=((fst/T:Nat):Int):=by
   rw[Int.tdiv_eq_ediv_of_nonneg aa,←Int.natCast_ediv]
   exact Dn (Nat.lt_of_le_of_lt (Nat.div_le_self fst T) aa)
  have e9:(if (9999:Int)<((fst/T:Nat):Int)then(9999:Int)else((fst/T:Nat):Int))=((min (fst/T) 9999:Nat):Int):=by split<;>omega
  have t2:decide ((i:Int)≥0)=true:=decide_eq_true aa
  have J8:(td R).length<1099511627776:=aa
  refine ey.of hE ?_
  conv=>whnf
  (repeat(first|(refine ag rfl rfl ?_;conv=>whnf)|(refine aq av ?_;conv=>whnf)|(refine bX Q3 ?_;conv=>whnf)|(refine mj (by assumption) rfl ?_;conv=>whnf)|(refine ah Q5 ?_;conv=>whnf)|(refine ah jw ?_;conv=>whnf)|(refine⟨.aO 51 1 0 (1+(td R).length),[(49,⟨3,true,.ints .i64 [(d:Int)]⟩)],[(51,⟨3,true,.ints .i64 ((d:Int)::td R)⟩)],[(49,⟨3,true,.dead⟩)],nP rfl rfl rfl (ak rfl) (ak rfl) (uF (td R)) (aJ.get (t:=77) rfl) rfl (aJ.get (t:=77) rfl) rfl (aJ.get (t:=3) rfl) (List.mem_cons_self ..) rfl rfl (by simp[en]) (by simp) (by simp[en]) (by simp[oC]) (by show(1+_)*Sd.bytes≤_;simp only[Se];omega) aa,dh rfl,c5 rfl,dd (List.mem_cons_self ..) rfl rfl rfl, ?_⟩;conv=>whnf)|(rw[t2];conv=>whnf)|(rw[Oy];conv=>whnf)|(rw[e6];conv=>whnf)|(rw[e7];conv=>whnf)|(rw[e8];conv=>whnf)|(rw[e9];conv=>whnf)))
  refine Dm 10 51 (fun _ h=>h) rfl rfl (by rw[List.length_cons];omega) YK ?_
  have aca:fst/(T+1)≤qd:=glo
  have acb:qd≤min (fst/T) 9999:=aa
  have acd:min (fst/T) 9999≤9999:=Nat.min_le_right _ _
  clear kl kt RG YK glo ghi hbT hTb e9 e8 e7 e6 ad6
  generalize fst/(T+1)=lo0 at*
  generalize min (fst/T) 9999=hi0 at*
  refine aj hE (fun k=>k) [0,1,6,7,8,9,10,12,13] [34] (fun q fr hp=>∃lo hi:Nat,q=hi - lo∧lo≤qd∧qd≤hi∧hi≤9999∧
   fr=[(0,nN a),(1,nN b),(6,.val (.int .i64 (F:Nat))),(7,.val (.int .i64 (T:Nat))),(8,.val (.int .i64 (i:Nat))),(9,.aO 34 1 0 (D+1)),(10,nN R'),(12,.val (.int .i64 (lo:Nat))),(13,.val (.int .i64 (hi:Nat)))]∧hp=[(34,y7 Q)]) (hi0 - lo0) ?_ ?_ ?_
  ·kernel_rfl
  ·exact⟨lo0,hi0,rfl,aca,acb,acd,rfl,rfl⟩
  rintro q _ _ ⟨lo,hi,rfl,Ce,Cf,hhi2,rfl,rfl⟩
  conv=>whnf
  by_cases hl:lo<hi
  ·have t3:decide ((lo:Int)<(hi:Int))=true:=decide_eq_true aa
   have MO:IntKind.i64.wrap ((lo:Int)+(hi:Int))=((lo+hi:Nat):Int):=by rw[wrap_i64 aa aa];omega
   have Qz:IntKind.i64.wrap (((lo+hi:Nat):Int)+1)=((lo+hi+1:Nat):Int):=by rw[wrap_i64 aa aa];omega
   have e12:IntKind.i64.wrap (((lo+hi+1:Nat):Int).tdiv 2)=(((lo+hi+1)/2:Nat):Int):=by
    rw[Int.tdiv_eq_ediv_of_nonneg aa]
    exact wrap_i64 aa aa
   have agx:(((lo+hi+1:Nat):Int).tdiv 2)=(((lo+hi+1)/2:Nat):Int):=by rw[Int.tdiv_eq_ediv_of_nonneg aa];rfl
   have agy:lo<(lo+hi+1)/2∧(lo+hi+1)/2≤hi:=aa
   generalize (lo+hi+1)/2=qp at*
   have e13:IntKind.u64.wrap (qp:Int)=(qp:Int):=wrap_u64 aa aa
   have hbm:(td (b*qp)).length≤(td b).length+1:=fP (by
    have h1:=eU b
    have h2:b*qp≤b*10000:=Nat.mul_le_mul_left _ aa
    rw[Nat.pow_succ];omega)
   have hml:(td qp).length≤1:=fP aa
   have o1:=Ot qp aa
   have o2:=Dl b qp aa aa
   have o3:=KK (b*qp) R' aa aa
   by_cases hc:b*qp≤R'
   ·have t4:decide ((((b*qp:Nat):Int) - R').sign≤0)=true:=decide_eq_true (by
     have:=Int.sign_nonpos_iff.2 (show((b*qp:Nat):Int) - R'≤0 by omega);omega)
    have:=(ab9 qp).1 hc
    (repeat((first|refine ag rfl rfl ?_|refine bX Q3 ?_|refine aS (by assumption) ?_|rw[t3]|rw[MO]|rw[Qz]|rw[e12]|rw[e13]|rw[t4]);conv=>whnf))
    exact⟨hi - qp,fun k=>k,[0,1,6,7,8,9,10,12,13],[34],aa,av,qp,hi,rfl,this,Cf,hhi2,rfl,rfl⟩
   ·have t4:decide ((((b*qp:Nat):Int) - R').sign≤0)=false:=decide_eq_false (by
     rw[Int.sign_eq_one_of_pos (show 0<((b*qp:Nat):Int) - R' by omega)];omega)
    have:¬qp≤qd:=fun h=>hc ((ab9 qp).2 h)
    have e14:IntKind.i64.wrap ((qp:Int) - 1)=((qp - 1:Nat):Int):=by rw[wrap_i64 aa aa];omega
    (repeat((first|refine ag rfl rfl ?_|refine ae rfl rfl ?_|refine bX Q3 ?_|refine aS (by assumption) ?_|rw[t3]|rw[MO]|rw[Qz]|rw[e12]|rw[e13]|rw[t4]|rw[e14]);conv=>whnf))
    exact⟨qp - 1 - lo,fun k=>k,[0,1,6,7,8,9,10,12,13],[34],aa,av,lo,qp - 1,rfl,Ce,aa,aa,rfl,rfl⟩
  ·have t3:decide ((lo:Int)<(hi:Int))=false:=decide_eq_false aa
   obtain rfl:lo=qd:=aa
   have e13:IntKind.u64.wrap (lo:Int)=(lo:Int):=wrap_u64 aa aa
   have e14:IntKind.i64.wrap ((i:Int) - 1)=(i:Int) - 1:=wrap_i64 aa aa
   have hbm:(td (b*lo)).length≤(td b).length+1:=fP (by
    have h1:=eU b
    have h2:b*lo≤b*10000:=Nat.mul_le_mul_left _ aa
    rw[Nat.pow_succ];omega)
   have hml:(td lo).length≤1:=fP aa
   have o1:=Ot lo aa
   have o2:=Dl b lo aa aa
   have o3:=GD R' (b*lo) YO aa
   rw[ad7]at o3
   have hiQ:i<Q.length:=aa
   have hQs:(Q.set i (lo:Int)).length=D+1:=by rw[List.length_set];exact hQl
   have aea:=hQw.set (i:=i) (show(0:Int)≤lo by omega) aa
   have aeb:∀k,k<i→(Q.set i (lo:Int)).getD k 0=0:=fun k hk=>by rw[aZ,if_neg aa];exact hQ0 k aa
   have aec:bq (Q.set i (lo:Int)) (D+1)=((a/10000^i/b:Nat):Int)*10000^i:=by
    rw[xR aa hiQ,hQ0 i aa,hQv,ga,Int.pow_succ];grind
   (repeat((first|refine ae rfl rfl ?_|refine bg Q3 ?_|refine aC Q3 ?_|refine aS (by assumption) ?_|rw[t3]|rw[show 0+(i:Int).toNat=i from by omega]|rw[e13]|rw[e14]);conv=>whnf))
   exact⟨i,fun k=>k,[0,1,6,7,8,9,10],[34],aa,av,Q.set i (lo:Int),aa,hQs,aea,aeb,aec,rfl,rfl⟩
theorem ke {a b:Nat} (h:a≤b) {M:Nat} (hb:(td b).length<M):(td a).length<M:=Nat.lt_of_le_of_lt (fC h) hb
theorem ace (a b:Nat) (ha:(td a).length<268435456) (hb:(td b).length<268435456):ab Tryz.prog 319 [nN a,nN b] [] (nN (Nat.gcd a b)) [] []:=by
 refine bT [] Tryz.func319 ?_
 intro W0 w0 ρ0 hE
 conv=>whnf
 skip
 refine aj hE (fun k=>k) [0,1] [] (fun q fr hp=>∃x y:Nat,q=y∧Nat.gcd x y=Nat.gcd a b∧(td x).length<268435456∧(td y).length<268435456∧fr=[(0,nN x),(1,nN y)]∧hp=[]) b ?_ ?_ ?_
 ·kernel_rfl
 ·exact⟨a,b,rfl,rfl,ha,hb,rfl,rfl⟩
 rintro q _ _ ⟨x,y,rfl,hg,hx,hy,rfl,rfl⟩
 conv=>whnf
 by_cases h0:0<q
 ·have t1:decide (((td q).length:Int)>0)=true:=decide_eq_true (by have:=gQ (n:=q);omega)
  have k1:=KV x q h0 hx hy
  have aE:=Nat.mod_lt x h0
  (repeat((first|refine ag rfl rfl ?_|refine aS (by assumption) ?_|refine ah Q8 ?_|rw[t1]);conv=>whnf))
  exact⟨x % q,fun k=>k,[0,1],[],aE,av,q,x % q,rfl,by rw[←hg,Nat.gcd_comm x q,Nat.gcd_rec q x];exact Nat.gcd_comm _ _,hy,ke (Nat.le_of_lt aE) hy,rfl,rfl⟩
 ·obtain rfl:q=0:=aa
  rw[Nat.gcd_zero_right]at hg
  subst hg
  have t1:decide (((td 0).length:Int)>0)=false:=rfl
  (repeat(first|(refine ae rfl rfl ?_;conv=>whnf)|(refine ah Q8 ?_;conv=>whnf)));exact Q4
abbrev zZ (z:Int):SV:=.agg [.val (.bool (decide (z<0))),nN z.natAbs]
abbrev fF (q:Rat):SV:=.agg [zZ q.num,nN (q.den - 1)]
theorem GF {n M:Nat} (h:sz n≤M):(td n).length≤M:=fP (Nat.lt_of_lt_of_le (fo.1 h) (Nat.pow_le_pow_left aI M))
theorem GG (neg:Bool) (n:Nat) (hn:(td n).length<1099511627776):ab Tryz.prog 248 [.val (.bool neg),nN n] [] (zZ (signed neg n)) [] []:=by
 refine bT [] Tryz.func248 ?_
 intro W0 w0 ρ0 hE
 conv=>whnf
 cases neg with
 |false=>
  have e:zZ (signed false n)= .agg [.val (.bool false),nN n]:=by
   have h:¬(signed false n<0):=by show ¬((n:Int)<0);omega
   rw[zZ,decide_eq_false h,kI]
  rw[e]
  (repeat(first|(refine ae rfl rfl ?_;conv=>whnf)|(refine ah dP ?_;conv=>whnf)))
  exact au.refl _
 |true=>
  by_cases h0:0<n
  ·have t1:decide (((td n).length:Int)>0)=true:=decide_eq_true (by have:=gQ (n:=n);omega)
   have e:zZ (signed true n)= .agg [.val (.bool true),nN n]:=by
    have h:signed true n<0:=by show -(n:Int)<0;omega
    rw[zZ,decide_eq_true h,kI]
   rw[e]
   (repeat((first|refine ag rfl rfl ?_|refine ah dO ?_|refine ah Q8 ?_|rw[t1]);conv=>whnf))
   exact au.refl _
  ·obtain rfl:n=0:=aa
   have t1:decide (((td 0).length:Int)>0)=false:=rfl
   have e:zZ (signed true 0)= .agg [.val (.bool false),nN 0]:=rfl
   rw[e]
   (repeat((first|refine ag rfl rfl ?_|refine ah dO ?_|refine ah Q8 ?_|rw[t1]);conv=>whnf))
   exact au.refl _
theorem iy {neg:Bool} {n:Nat} {z:Int} (hz:signed neg n=z) (hn:(td n).length<1099511627776):ab Tryz.prog 248 [.val (.bool neg),nN n] [] (zZ z) [] []:=by
 rw[←hz];exact GG neg n hn
theorem Oz (z:Int) (hz:(td z.natAbs).length<1099511627776):ab Tryz.prog 251 [zZ z] [] (.val (.int .i64 z.sign)) [] []:=by
 refine bT [1] Tryz.func251 ?_
 intro W0 w0 ρ0 hE
 conv=>whnf
 by_cases h0:z=0
 ·subst h0
  have t1:(((td (Int.natAbs 0)).length:Int)==0)=true:=rfl
  (repeat((first|refine ag rfl rfl ?_|refine ah Q8 ?_|refine ah Q5 ?_|refine ah Q7 ?_);conv=>whnf));exact Q4
 ·have t1:(((td z.natAbs).length:Int)==0)=false:=beq_false_of_ne (by have:=gQ (n:=z.natAbs);omega)
  by_cases hn:z<0
  ·have t2:decide (z<0)=true:=decide_eq_true hn
   rw[Int.sign_eq_neg_one_of_neg hn]
   (repeat((first|refine ag rfl rfl ?_|refine ae rfl rfl ?_|refine ah Q8 ?_|refine ah Q5 ?_|refine ah Q7 ?_|rw[t1]|rw[t2]);conv=>whnf));exact Q4
  ·have t2:decide (z<0)=false:=decide_eq_false hn
   rw[Int.sign_eq_one_of_pos aa]
   (repeat((first|refine ae rfl rfl ?_|refine ah Q8 ?_|refine ah Q5 ?_|refine ah Q7 ?_|rw[t1]|rw[t2]);conv=>whnf));exact Q4
theorem YP (z:Int) (hz:(td z.natAbs).length<1099511627776):ab Tryz.prog 333 [zZ z] [] (zZ (-z)) [] []:=by
 have k1:=iy (neg:= !decide (z<0)) (n:=z.natAbs) (z:= -z) (by by_cases h:z<0<;>simp[signed,h]<;>omega) hz
 refine bT [1] Tryz.func333 ?_
 intro W0 w0 ρ0 hE
 conv=>whnf
 (repeat(first|(refine aS (by assumption) ?_;conv=>whnf)|(refine ah Q5 ?_;conv=>whnf)|(refine ah Q7 ?_;conv=>whnf)))
 exact au.refl _
theorem YQ (a b:Int) (ha:(td a.natAbs).length<536870912) (hb:(td b.natAbs).length<536870912):ab Tryz.prog 242 [zZ a,zZ b] [] (zZ (a+b)) [] []:=by
 refine bT [2,3] Tryz.func242 ?_
 intro W0 w0 ρ0 hE
 conv=>whnf
 by_cases hs:a<0↔b<0
 ·have t1:(decide (a<0)==decide (b<0))=true:=by rw[decide_eq_decide.2 hs];exact beq_self_eq_true _
  have k1:=QK a.natAbs b.natAbs aa aa
  have hl:(td (a.natAbs+b.natAbs)).length<1099511627776:=by
   have h1:(td (a.natAbs+b.natAbs)).length≤max ((td a.natAbs).length) ((td b.natAbs).length)+1:=fP (by
    have h2:=gP (n:=a.natAbs) (k:=max ((td a.natAbs).length) ((td b.natAbs).length)) (Nat.le_max_left _ _)
    have h3:=gP (n:=b.natAbs) (k:=max ((td a.natAbs).length) ((td b.natAbs).length)) (Nat.le_max_right _ _)
    rw[Nat.pow_succ];omega)
   omega
  have k2:=iy (neg:=decide (a<0)) (n:=a.natAbs+b.natAbs) (z:=a+b) (by unfold signed;by_cases h:a<0<;>simp[h]<;>omega) hl
  (repeat((first|refine ag rfl rfl ?_|refine aq av ?_|refine aS (by assumption) ?_|refine ah Q5 ?_|refine ah Q7 ?_|rw[t1]);conv=>whnf))
  exact au.refl _
 ·have t1:(decide (a<0)==decide (b<0))=false:=beq_false_of_ne (fun h=>hs (decide_eq_decide.1 h))
  have k1:=KK a.natAbs b.natAbs aa aa
  by_cases rY:b.natAbs≤a.natAbs
  ·have t2:decide (((a.natAbs:Int) - b.natAbs).sign≥0)=true:=decide_eq_true (by have:=Int.sign_nonneg_iff.2 (show 0≤(a.natAbs:Int) - b.natAbs by omega);omega)
   have k2:=GD a.natAbs b.natAbs rY aa
   have k3:=iy (neg:=decide (a<0)) (n:=a.natAbs - b.natAbs) (z:=a+b) (by unfold signed;by_cases h:a<0<;>simp[h]<;>omega) (ke (Nat.sub_le _ b.natAbs) aa)
   (repeat((first|refine ag rfl rfl ?_|refine ae rfl rfl ?_|refine aq av ?_|refine aS (by assumption) ?_|refine ah Q5 ?_|refine ah Q7 ?_|rw[t1]|rw[t2]);conv=>whnf))
   exact au.refl _
  ·have t2:decide (((a.natAbs:Int) - b.natAbs).sign≥0)=false:=decide_eq_false (by rw[Int.sign_eq_neg_one_of_neg (show(a.natAbs:Int) - b.natAbs<0 by omega)];omega)
   have k2:=GD b.natAbs a.natAbs aa aa
   have k3:=iy (neg:=decide (b<0)) (n:=b.natAbs - a.natAbs) (z:=a+b) (by unfold signed;by_cases h:b<0<;>simp[h]<;>omega) (ke (Nat.sub_le _ a.natAbs) aa)
   (repeat((first|refine ae rfl rfl ?_|refine aq av ?_|refine aS (by assumption) ?_|refine ah Q5 ?_|refine ah Q7 ?_|rw[t1]|rw[t2]);conv=>whnf))
   exact au.refl _
theorem uG {a b:Nat}:(td (a*b)).length≤(td a).length+(td b).length:=fP (by
 rcases Nat.eq_zero_or_pos b with h|h
 ·subst h;rw[Nat.mul_zero];exact Nat.pow_pos aI
 ·rw[Nat.pow_add]
  exact Nat.lt_of_lt_of_le (Nat.mul_lt_mul_of_pos_right (eU a) h) (Nat.mul_le_mul_left _ (Nat.le_of_lt (eU b))))
theorem Fc (a b:Int) (ha:(td a.natAbs).length<134217728) (hb:(td b.natAbs).length<134217728):ab Tryz.prog 243 [zZ a,zZ b] [] (zZ (a*b)) [] []:=by
 have k1:=Dl a.natAbs b.natAbs aa aa
 have k2:=iy (xq a b) (Nat.lt_of_le_of_lt uG aa)
 refine bT [2,3] Tryz.func243 ?_
 intro W0 w0 ρ0 hE
 conv=>whnf
 (repeat((first|refine aq av ?_|refine aS (by assumption) ?_|refine ah Q5 ?_|refine ah Q7 ?_);conv=>whnf))
 exact au.refl _
theorem acf (n:Int) (h0: -9223372036854775808≤n) (h1:n<9223372036854775808):ab Tryz.prog 247 [.val (.int .i64 n)] [] (zZ n) [] []:=by
 have k1:=Ot n.natAbs aa
 have hl:(td n.natAbs).length<1099511627776:=Nat.lt_of_le_of_lt (fP (k:=5) aa) aI
 refine bT [] Tryz.func247 ?_
 intro W0 w0 ρ0 hE
 conv=>whnf
 by_cases hn:n<0
 ·have t1:decide (n<0)=true:=decide_eq_true hn
  have e1:IntKind.i64.wrap (n+1)=n+1:=wrap_i64 aa aa
  have e2:IntKind.i64.wrap (0 - (n+1))= -(n+1):=by rw[Int.zero_sub];exact wrap_i64 aa aa
  have e3:IntKind.u64.wrap (-(n+1))= -(n+1):=wrap_u64 aa aa
  have e4:IntKind.u64.wrap (-(n+1)+1)=(n.natAbs:Int):=by rw[wrap_u64 aa aa];omega
  have k2:=iy (neg:=true) (n:=n.natAbs) (z:=n) (by show -(n.natAbs:Int)=n;omega) hl
  have e:zZ n= .agg [.val (.bool true),nN n.natAbs]:=by rw[zZ,t1]
  rw[e]at*
  (repeat((first|refine ag rfl rfl ?_|refine aS (by assumption) ?_|rw[t1]|rw[e1]|rw[e2]|rw[e3]|rw[e4]);conv=>whnf))
  exact au.refl _
 ·have t1:decide (n<0)=false:=decide_eq_false hn
  have e1:IntKind.u64.wrap n=(n.natAbs:Int):=by rw[wrap_u64 aa aa];omega
  have k2:=iy (neg:=false) (n:=n.natAbs) (z:=n) (by show(n.natAbs:Int)=n;omega) hl
  have e:zZ n= .agg [.val (.bool false),nN n.natAbs]:=by rw[zZ,t1]
  rw[e]at*
  (repeat((first|refine ae rfl rfl ?_|refine aS (by assumption) ?_|rw[t1]|rw[e1]);conv=>whnf))
  exact au.refl _
theorem KW:ab Tryz.prog 322 [] [] (nN 1) [] []:=by
 have k1:=Ot 1 aI
 refine bT [] Tryz.func322 ?_
 intro W0 w0 ρ0 hE
 conv=>whnf
 (repeat(first|(refine aS (by assumption) ?_;conv=>whnf)));exact Q4
theorem qK (q:Rat) (h:(td q.den).length<134217728):ab Tryz.prog 246 [fF q] [] (nN q.den) [] []:=by
 have k0:=KW
 have k1:=QK (q.den - 1) 1 (Nat.lt_of_le_of_lt (fC (Nat.sub_le q.den 1)) aa) aI
 rw[xu]at k1
 refine bT [1] Tryz.func246 ?_
 intro W0 w0 ρ0 hE
 conv=>whnf
 (repeat((first|refine aq av ?_|refine aS (by assumption) ?_|refine ah Q5 ?_|refine ah Q7 ?_);conv=>whnf));exact Q4
theorem KX (q:Rat) (h:(td q.den).length<134217728):ab Tryz.prog 244 [fF q] [] (zZ q.den) [] []:=by
 have k0:=qK q h
 have k1:=iy (neg:=false) (n:=q.den) (z:=(q.den:Int)) rfl aa
 refine bT [1] Tryz.func244 ?_
 intro W0 w0 ρ0 hE
 conv=>whnf
 (repeat(first|(refine aS (by assumption) ?_;conv=>whnf)|(refine ah Q5 ?_;conv=>whnf)))
 exact au.refl _
theorem Fe {n:Int} {d:Nat} (hd:d≠0):signed (decide (n<0)) (n.natAbs/Nat.gcd n.natAbs d)=(mkRat n d).num:=by
 rw[num_mkRat hd]
 have Qq:Nat.gcd n.natAbs d ∣ n.natAbs:=Nat.gcd_dvd_left _ _
 unfold signed
 by_cases hn:n<0
 ·rw[decide_eq_true hn,if_pos rfl]
  have:n= -(n.natAbs:Int):=aa
  rw[Int.natCast_ediv,←Int.neg_ediv_of_dvd (Int.natCast_dvd_natCast.2 Qq),←this]
 ·rw[decide_eq_false hn]
  simp only[Bool.false_eq_true,if_false]
  have:n=(n.natAbs:Int):=aa
  rw[Int.natCast_ediv,←this]
theorem BC (n:Int) (d:Nat) (hd:d≠0) (h1:(td n.natAbs).length<268435456) (h2:(td d).length<268435456):ab Tryz.prog 241 [zZ n,nN d] [] (fF (mkRat n d)) [] []:=by
 have hg:Nat.gcd n.natAbs d≠0:=fun h=>hd (Nat.gcd_eq_zero_iff.1 h).2
 have hgl:(td (Nat.gcd n.natAbs d)).length<268435456:=ke (Nat.le_of_dvd aa (Nat.gcd_dvd_right _ _)) h2
 have hq:d/Nat.gcd n.natAbs d≠0:=Nat.div_ne_zero_iff.2 ⟨hg,Nat.le_of_dvd aa (Nat.gcd_dvd_right _ _)⟩
 have k1:=ace n.natAbs d h1 h2
 have k2:=KV n.natAbs (Nat.gcd n.natAbs d) aa h1 hgl
 have k3:=KV d (Nat.gcd n.natAbs d) aa h2 hgl
 have k4:=iy (Fe (n:=n) hd) (ke (Nat.div_le_self _ _) aa)
 have k5:=KW
 have k6:ab Tryz.prog 321 [nN (d/Nat.gcd n.natAbs d),nN 1] [] (nN ((mkRat n d).den - 1)) [] []:=by
  rw[den_mkRat hd];exact GD (d/Nat.gcd n.natAbs d) 1 (Nat.pos_of_ne_zero hq) (ke (Nat.div_le_self _ _) aa)
 refine bT [2] Tryz.func241 ?_
 intro W0 w0 ρ0 hE
 conv=>whnf
 (repeat(first|(refine aS (by assumption) ?_;conv=>whnf)|(refine ah Q5 ?_;conv=>whnf)|(refine ah Q7 ?_;conv=>whnf)))
 exact au.refl _
theorem Dp {q:Rat} {M:Nat} (h:fs q≤M):(td q.num.natAbs).length≤M∧(td q.den).length≤M:=by
 have h1:=dZ q;have h2:=dQ q
 unfold fs at h
 exact⟨GF aa,GF aa⟩
theorem BD {n M:Nat} (h:sz n≤M):(td n).length≤M/13+1:=fP (Nat.lt_of_lt_of_le (fo.1 h) (Nat.le_trans (Nat.pow_le_pow_right aI (show M≤13*(M/13+1) by omega)) (by
 rw[Nat.pow_mul]
 exact Nat.pow_le_pow_left aI _)))
theorem BE {q:Rat} {M:Nat} (h:fs q≤M):(td q.num.natAbs).length≤M/13+1∧(td q.den).length≤M/13+1:=by
 have h1:=dZ q;have h2:=dQ q
 unfold fs at h
 exact⟨BD aa,BD aa⟩
theorem BF (n:Int) (h0: -9223372036854775808≤n) (h1:n<9223372036854775808):ab Tryz.prog 145 [.val (.int .i64 n)] [] (fF (n:Rat)) [] []:=by
 have k1:=acf n h0 h1
 have e:fF (n:Rat)= .agg [zZ n,eI 1 []]:=by rw[fF];rfl
 rw[e]
 refine fZ [] Tryz.func145 ?_
 intro w0 ρ0 hE
 conv=>whnf
 (repeat(first|(refine aS (by assumption) ?_;conv=>whnf)));(first|exact au.refl _|exact mu.kF (au.refl _) rfl|(refine mu.one rfl rfl ?_;(repeat(first|exact dF.bP rfl|exact kC.nil|refine kC.cons ?_ ?_|exact dF.R9|refine dF.agg ?_)))|(refine mu.ck ?_;skip))
theorem BG (q:Rat) (h:(td q.num.natAbs).length<1099511627776):ab Tryz.prog 152 [fF q] [] (.val (.int .i64 q.num.sign)) [] []:=by
 have k1:=Oz q.num h
 refine bT [1] Tryz.func152 ?_
 intro W0 w0 ρ0 hE
 conv=>whnf
 (repeat(first|(refine aS (by assumption) ?_;conv=>whnf)|(refine ah Q5 ?_;conv=>whnf)|(refine ah Q7 ?_;conv=>whnf)));exact Q4
theorem KY (q:Rat) (h:(td q.num.natAbs).length<1099511627776):ab Tryz.prog 267 [fF q] [] (fF (-q)) [] []:=by
 have k1:=YP q.num h
 have e:fF (-q)= .agg [zZ (-q.num),nN (q.den - 1)]:=by rw[fF,Rat.neg_num,Rat.neg_den]
 rw[e]
 refine bT [1] Tryz.func267 ?_
 intro W0 w0 ρ0 hE
 conv=>whnf
 (repeat((first|refine aq av ?_|refine aS (by assumption) ?_|refine ah Q5 ?_|refine ah Q7 ?_);conv=>whnf))
 exact au.refl _
theorem OA (a b:Rat) (h:fs a+fs b≤1700000000):ab Tryz.prog 143 [fF a,fF b] [] (fF (a+b)) [] []:=by
 obtain⟨a1,a2⟩:=BE (q:=a) (Nat.le_refl _)
 obtain⟨b1,b2⟩:=BE (q:=b) (Nat.le_refl _)
 have n1:=dZ a;have n2:=dQ a;have n3:=dZ b;have n4:=dQ b
 have m1:=uG (a:=a.num.natAbs) (b:=b.den)
 have m2:=uG (a:=b.num.natAbs) (b:=a.den)
 have m3:=uG (a:=a.den) (b:=b.den)
 have k1:=KX b aa
 have k2:=KX a aa
 have k3:=Fc a.num b.den aa Zt
 have k4:=Fc b.num a.den aa Zt
 have k5:=YQ (a.num*b.den) (b.num*a.den) (by rw[Int.natAbs_mul,Int.natAbs_natCast];omega) (by rw[Int.natAbs_mul,Int.natAbs_natCast];omega)
 have k6:=qK a aa
 have k7:=qK b aa
 have k8:=Dl a.den b.den aa aa
 have m4:(td (a.num*b.den+b.num*a.den).natAbs).length≤(fs a+fs b+1)/13+1:=BD (by
  have h1:=fX a.num.natAbs b.den
  have h2:=fX b.num.natAbs a.den
  unfold fs
  refine Nat.le_trans (fK (Int.natAbs_add_le _ _)) (Nat.le_trans (xi (k:=q8 a+q8 b) ?_ ?_) aa)
  ·rw[Int.natAbs_mul,Int.natAbs_natCast];omega
  ·rw[Int.natAbs_mul,Int.natAbs_natCast];omega)
 have k9:=BC (a.num*b.den+b.num*a.den) (a.den*b.den) (Nat.mul_ne_zero a.den_nz b.den_nz) aa aa
 rw[←Rat.add_def']at k9
 clear m1 m2 m3 m4 n1 n2 n3 n4
 refine bT [2,3] Tryz.func143 ?_
 intro W0 w0 ρ0 hE
 conv=>whnf
 (repeat((first|refine aq av ?_|refine aS (by assumption) ?_|refine ah Q5 ?_|refine ah Q7 ?_);conv=>whnf))
 exact au.refl _
theorem Ff (a b:Rat) (h:fs a+fs b≤100000000):ab Tryz.prog 143 [fF a,fF b] [] (fF (a+b)) [] []:=OA a b aa
theorem KZ (a b:Rat) (h:fs a+fs b≤100000000):ab Tryz.prog 295 [fF a,fF b] [] (fF (a - b)) [] []:=by
 obtain⟨b1,b2⟩:=Dp (q:=b) (Nat.le_refl _)
 have k1:=KY b aa
 have k2:=Ff a (-b) (by rw[qF];exact h)
 rw[←Rat.sub_eq_add_neg]at k2
 refine bT [2,3] Tryz.func295 ?_
 intro W0 w0 ρ0 hE
 conv=>whnf
 (repeat(first|(refine aq av ?_;conv=>whnf)|(refine aS (by assumption) ?_;conv=>whnf)|(refine ah Q5 ?_;conv=>whnf)))
 exact au.refl _
theorem OB (a b:Rat) (h:fs a+fs b≤1700000000):ab Tryz.prog 144 [fF a,fF b] [] (fF (a*b)) [] []:=by
 obtain⟨a1,a2⟩:=BE (q:=a) (Nat.le_refl _)
 obtain⟨b1,b2⟩:=BE (q:=b) (Nat.le_refl _)
 have m1:=uG (a:=a.num.natAbs) (b:=b.num.natAbs)
 have m3:=uG (a:=a.den) (b:=b.den)
 have k3:=Fc a.num b.num aa aa
 have k6:=qK a aa
 have k7:=qK b aa
 have k8:=Dl a.den b.den aa aa
 have k9:=BC (a.num*b.num) (a.den*b.den) (Nat.mul_ne_zero a.den_nz b.den_nz) (by rw[Int.natAbs_mul];omega) aa
 rw[←Rat.mul_def']at k9
 clear m1 m3
 refine bT [2,3] Tryz.func144 ?_
 intro W0 w0 ρ0 hE
 conv=>whnf
 (repeat((first|refine aq av ?_|refine aS (by assumption) ?_|refine ah Q5 ?_|refine ah Q7 ?_);conv=>whnf))
 exact au.refl _
theorem BH (a b:Rat) (h:fs a+fs b≤100000000):ab Tryz.prog 144 [fF a,fF b] [] (fF (a*b)) [] []:=OB a b aa
theorem K0 (a b:Rat) (hb:b≠0) (h:fs a+fs b≤100000000):ab Tryz.prog 147 [fF a,fF b] [] (fF (a/b)) [] []:=by
 have hn:b.num≠0:=fun h=>hb (Rat.num_eq_zero.1 h)
 obtain⟨b1,b2⟩:=Dp (q:=b) (Nat.le_refl _)
 have k1:=BG b aa
 have t1:(b.num.sign==0)=false:=beq_false_of_ne (fun h=>hn (Int.sign_eq_zero_iff_zero.1 h))
 have k2:=qK b aa
 have k3:=GG (decide (b.num<0)) b.den aa
 have e1:decide (b.num<0)=decide (b.num.sign<0):=decide_eq_decide.2 Int.sign_neg_iff.symm
 have k4:=BC (signed (decide (b.num<0)) b.den) b.num.natAbs aa (by rw[kI];omega) aa
 rw[e1,zN hn,←e1]at k4
 have k5:=BH a b⁻¹ (by have:=Ke b;omega)
 rw[←Rat.div_def]at k5
 refine bT [2,3] Tryz.func147 ?_
 intro W0 w0 ρ0 hE
 conv=>whnf
 (repeat((first|refine ae rfl rfl ?_|refine aq av ?_|refine aS (by assumption) ?_|refine ah Q5 ?_|refine ah Q7 ?_|rw[t1]);conv=>whnf))
 exact au.refl _
theorem acg (n d:Int) (hn0: -9223372036854775808≤n) (MK:n<9223372036854775808) (p8: -9223372036854775808≤d) (Yl:d<9223372036854775808) (hd:d≠0):ab Tryz.prog 154 [.val (.int .i64 n),.val (.int .i64 d)] [] (fF ((n:Rat)/(d:Rat))) [] []:=by
 have k1:=BF n hn0 MK
 have k2:=BF d p8 Yl
 have f1:=uz hn0 MK
 have f2:=uz p8 Yl
 have k3:=K0 (n:Rat) (d:Rat) (fun h=>hd (by have:=congrArg Rat.num h;simpa using this)) aa
 refine bT [] Tryz.func154 ?_
 intro W0 w0 ρ0 hE
 conv=>whnf
 (repeat(first|(refine aS (by assumption) ?_;conv=>whnf)))
 exact au.refl _
theorem Dq {P:Program} {o:Oper} {fr:List (Nat×SV)} {fk:List (Nat×aF)} {src dst:TypeId} {x:Operand} {ti td:TI} {kd kd':IntKind} {d:Nat} (ho:o.op= .convert src dst x) (hx:bp fr x (.val (.int kd (d:Nat)))) (hd:d<128)
  (ht:aG P src ti) (hk:ti.kind= .int kd') (htd:aG P dst td) (yR:td.kind= .str):bS P o fr fk (.val (.string ⟨#[UInt8.ofNat d]⟩)) [] []:=
 bw fun ρ a w hp=>by
  have hv:=aK (hx ρ a hp.dy)
  have hu:=ht.kind;rw[hk]at hu
  have RJ:=htd.kind;rw[yR]at RJ
  refine⟨_, ?_,cd rfl⟩
  have e:Utf8.encode (d:Int)=⟨#[UInt8.ofNat d]⟩:=by
   exact(show ∀d,d<128→Utf8.encode ((d:Nat):Int)=⟨#[UInt8.ofNat d]⟩ by decide+kernel) d hd
  simp only[execOp,ho,hv,convert,Sem.run_bind,run_underlying hu,run_underlying RJ,Result.andThen_ok,Conv.intToString,Sem.run_pure,e]
theorem Ac:∀e n,iD (e+1) (n % 10^(e+1))=UInt8.ofNat (48+n/10^e % 10)::iD e (n % 10^e)
 |0,n=>by simp[iD]
 |e+1,n=>by
  have h1:n % 10^(e+2)/10=n/10 % 10^(e+1):=by rw[Nat.pow_succ 10 (e+1),Nat.mul_comm,Nat.mod_mul_right_div_self]
  have h2:n % 10^(e+1)/10=n/10 % 10^e:=by rw[Nat.pow_succ,Nat.mul_comm,Nat.mod_mul_right_div_self]
  have h3:n % 10^(e+2) % 10=n % 10:=Nat.mod_mod_of_dvd _ (Nat.dvd_trans (by exact⟨1,rfl⟩) (Nat.dvd_trans (show 10 ∣ 10^1 from⟨1,rfl⟩) (Nat.pow_dvd_pow 10 aa)))
  have h4:n % 10^(e+1) % 10=n % 10:=Nat.mod_mod_of_dvd _ (Nat.dvd_trans (show 10 ∣ 10^1 from⟨1,rfl⟩) (Nat.pow_dvd_pow 10 aa))
  rw[iD,h1,h3,Ac e (n/10),iD,h2,h4,Nat.div_div_eq_div_mul,←Nat.pow_succ']
  rfl
theorem xW:∀e n,n<10^(e+1)→(e=0∨10^e≤n)→iD (e+1) n=Lib.decDigits n
 |0,n,h,_=>by
  have h:n<10:=by simpa using h
  rw[iD,dec_lt h,show n % 10=n by omega];rfl
 |e+1,n,h,h'=>by
  have h2:10^(e+1)≤n:=h'.resolve_left aa
  have Z2:10≤n:=Nat.le_trans (Nat.le_trans aI (Nat.pow_le_pow_right (n:=10) aI (show 1≤e+1 by omega))) h2
  rw[Nat.pow_succ]at h
  rw[iD,vY Z2,xW e (n/10) aa (by
   rw[Nat.pow_succ]at h2
   exact .inr aa)]
theorem Fg (c:UInt8) (l:List UInt8):(⟨#[c]⟩:ByteArray)++⟨l.toArray⟩=⟨(c::l).toArray⟩:=by
 apply ByteArray.ext
 rw[ByteArray.data_append]
 apply Array.ext'
 simp
abbrev dS (l:List UInt8):SV:=.val (.string ⟨l.toArray⟩)
theorem sl:∀k r,(iD k r).length=k
 |0,_=>rfl
 |k+1,r=>by rw[iD,List.length_append,sl k];rfl
theorem K3 (n:Nat) (hn:(td n).length<268435456):ab Tryz.prog 250 [nN n] [] (.val (.string (tN n))) [] []:=by
 rw[qo]
 by_cases h0:n=0
 ·subst h0
  have t1:(((td 0).length:Int)==0)=true:=rfl
  have e:(⟨(Lib.decDigits 0).toArray⟩:ByteArray)=⟨#[48]⟩:=by rw[dec_lt aI];rfl
  rw[e]
  refine bT [] Tryz.func250 ?_
  intro W0 w0 ρ0 hE
  conv=>whnf
  (repeat(first|(refine ag rfl rfl ?_;conv=>whnf)|(refine ah Q8 ?_;conv=>whnf)));exact Q4
 have hl0:=gQ (n:=n)
 have t1:(((td n).length:Int)==0)=false:=beq_false_of_ne aa
 have xy:=uE h0
 have aed:=eU n
 have p10:∀i,(10000:Nat)^i=10^(4*i):=fun i=>by rw[Nat.pow_mul]
 refine bT [] Tryz.func250 ?_
 intro W0 w0 ρ0 hE
 conv=>whnf
 (repeat(first|(refine ae rfl rfl ?_;conv=>whnf)|(refine ah Q8 ?_;conv=>whnf)|(rw[t1];conv=>whnf)))
 refine aj hE (fun k=>k) [0,3,4] [] (fun q fr hp=>∃(i:Nat) (l:List UInt8),q=(td n).length - i∧i≤(td n).length∧l.length≤4*i∧(i<(td n).length→l=iD (4*i) (n % 10^(4*i)))∧(i=(td n).length→l=Lib.decDigits n)∧
  fr=[(0,nN n),(3,dS l),(4,.val (.int .i64 (i:Nat)))]∧hp=[]) (td n).length ?_ ?_ ?_
 ·kernel_rfl
 ·exact⟨0,[],rfl,Nat.zero_le _,by simp,(fun _=>rfl),(fun h=>aa),rfl,rfl⟩
 rintro q _ _ ⟨i,l,rfl,hi,hll,eR,iC,rfl,rfl⟩
 conv=>whnf
 by_cases aE:i<(td n).length
 ·have t2:decide ((i:Int)<((td n).length:Int))=true:=decide_eq_true aa
  have e1:=br (i:=i) aa
  obtain rfl:=eR aE
  clear eR iC hll
  have hg:=Bz n i
  have hd:n/10000^i % 10000=n/10^(4*i) % 10^4:=by rw[p10]
  have GH:i+1=(td n).length→n/10^(4*i)<10^4∧0<n/10^(4*i):=fun h=>by
   rw[←p10]
   constructor
   ·rw[Nat.div_lt_iff_lt_mul (Nat.pow_pos aI),show(10:Nat)^4=10000^1 from rfl,←Nat.pow_add,Nat.add_comm,h];exact aed
   ·exact Nat.div_pos (by rw[←h,Nat.add_sub_cancel]at xy;exact xy) (Nat.pow_pos aI)
  (repeat((first|refine ag rfl rfl ?_|refine ah Q8 ?_|refine ah Q5 ?_|refine ah jw ?_|rw[t2]|rw[hg]);conv=>whnf))
  refine aj hE (fun k=>k) [0,3,4,5,6] [] (fun q fr hp=>∃k:Nat,q=4 - k∧k≤4∧(i+1=(td n).length→k=0∨0<n/10^(4*i+(k - 1)))∧
   fr=[(0,nN n),(3,dS (iD (4*i+k) (n % 10^(4*i+k)))),(4,.val (.int .i64 (i:Nat))),(5,.val (.int .i64 ((n/10^(4*i) % 10^4/10^k:Nat):Int))),(6,.val (.int .i64 (k:Nat)))]∧hp=[]) 4 ?_ ?_ ?_
  ·kernel_rfl
  ·exact⟨0,rfl,Nat.zero_le _,(fun _=>.inl rfl),by rw[Nat.add_zero,Nat.pow_zero,Nat.div_one,←hd];rfl,rfl⟩
  rintro q _ _ ⟨k,rfl,hk,od,rfl,rfl⟩
  have hlen:=sl (4*i+k) (n % 10^(4*i+k))
  have Qq:n/10^(4*i) % 10^4/10^k<10000:=Nat.lt_of_le_of_lt (Nat.div_le_self _ _) (Nat.mod_lt _ aI)
  have QL:n/10^(4*i) % 10^4/10^k/10=n/10^(4*i) % 10^4/10^(k+1):=by rw[Nat.div_div_eq_div_mul,←Nat.pow_succ]
  have Oy:k<4→n/10^(4*i) % 10^4/10^k % 10=n/10^(4*i+k) % 10:=fun h=>by
   have e4:(10:Nat)^4=10^k*10^(4 - k):=by rw[←Nat.pow_add];congr 1;omega
   rw[e4,Nat.mod_mul_right_div_self,Nat.div_div_eq_div_mul,←Nat.pow_add]
   refine Nat.mod_mod_of_dvd _ ?_
   exact Nat.dvd_trans (show 10 ∣ 10^1 from⟨1,rfl⟩) (Nat.pow_dvd_pow 10 aa)
  have hlz:i+1=(td n).length→n/10^(4*i) % 10^4/10^k=n/10^(4*i+k):=fun h=>by
   rw[Nat.mod_eq_of_lt (GH h).1,Nat.div_div_eq_div_mul,←Nat.pow_add]
  have YR:=Ac (4*i+k) n
  conv=>whnf
  generalize hD:n/10^(4*i) % 10^4/10^k=D at*
  by_cases hk4:k<4
  ·have t3:decide ((k:Int)<4)=true:=decide_eq_true aa
   have e2:=br (i:=k) aa
   have afn:(i+1<(td n).length∨0<D)→True:=fun _=>trivial
   have e3:(D:Int).tmod 10=((D % 10:Nat):Int):=by rw[Int.tmod_eq_emod_of_nonneg aa];rfl
   have e4:IntKind.i64.wrap (48+((D % 10:Nat):Int))=((48+D % 10:Nat):Int):=by rw[wrap_i64 aa aa];omega
   have e5:IntKind.u8.wrap ((48+D % 10:Nat):Int)=((48+D % 10:Nat):Int):=by rw[IntKind.wrap_u8];omega
   have e6:IntKind.i64.wrap ((D:Int).tdiv 10)=((D/10:Nat):Int):=by rw[Int.tdiv_eq_ediv_of_nonneg aa];exact wrap_i64 aa aa
   have e7:(D:Int).tdiv 10=((D/10:Nat):Int):=by rw[Int.tdiv_eq_ediv_of_nonneg aa];rfl
   have ju:(⟨#[UInt8.ofNat (48+D % 10)]⟩:ByteArray).size+(⟨(iD (4*i+k) (n % 10^(4*i+k))).toArray⟩:ByteArray).size≤9223372036854775807:=by
    have h1:(⟨(iD (4*i+k) (n % 10^(4*i+k))).toArray⟩:ByteArray).size=4*i+k:=by show(iD _ _).toArray.size=_;rw[List.size_toArray,hlen]
    have h2:(⟨#[UInt8.ofNat (48+D % 10)]⟩:ByteArray).size=1:=rfl
    omega
   have QM:=Fg (UInt8.ofNat (48+D % 10)) (iD (4*i+k) (n % 10^(4*i+k)))
   rw[Oy hk4]at QM
   rw[←YR]at QM
   rw[←Oy hk4]at QM
   by_cases hm:i+1<(td n).length
   ·have t4:decide (((i+1:Nat):Int)<((td n).length:Int))=true:=decide_eq_true aa
    (repeat((first|refine ag rfl rfl ?_|refine ae rfl rfl ?_|refine gz Q3 ?_|refine bX Q3 ?_|refine ah dO ?_|refine ah Q8 ?_|refine⟨_,[],[],Dq rfl (ak rfl) aa (aJ.get (t:=5) rfl) rfl (aJ.get (t:=9) rfl) rfl,aM,aA, ?_⟩|rw[t3]|rw[e1]|rw[t4]|rw[e3]|rw[e4]|rw[e5]|rw[e6]|rw[QM]|rw[e2]);conv=>whnf))
    exact⟨4 - (k+1),fun k=>k,[0,3,4,5,6],[],aa,av,k+1,rfl,aa,(fun h=>aa),by rw[←QL];rfl,rfl⟩
   ·have t4:decide (((i+1:Nat):Int)<((td n).length:Int))=false:=decide_eq_false aa
    by_cases p8:0<D
    ·have t5:decide ((D:Int)>0)=true:=decide_eq_true aa
     have p9:0<n/10^(4*i+(k+1 - 1)):=by rw[Nat.add_sub_cancel,←hlz aa];exact p8
     (repeat((first|refine ag rfl rfl ?_|refine gz Q3 ?_|refine bX Q3 ?_|refine ah dO ?_|refine ah dP ?_|refine ah Q8 ?_|refine⟨_,[],[],Dq rfl (ak rfl) aa (aJ.get (t:=5) rfl) rfl (aJ.get (t:=9) rfl) rfl,aM,aA, ?_⟩|rw[t3]|rw[e1]|rw[t4]|rw[t5]|rw[e3]|rw[e4]|rw[e5]|rw[e6]|rw[QM]|rw[e2]);conv=>whnf))
     exact⟨4 - (k+1),fun k=>k,[0,3,4,5,6],[],aa,av,k+1,rfl,aa,(fun _=>.inr p9),by rw[←QL];rfl,rfl⟩
    ·have t5:decide ((D:Int)>0)=false:=decide_eq_false aa
     have hz:=hlz aa
     have C2:iD (4*i+k) (n % 10^(4*i+k))=Lib.decDigits n:=by
      have QN:n<10^(4*i+k):=by
       rcases Nat.lt_or_ge n (10^(4*i+k))with g|g
       ·exact g
       ·have:=Nat.div_pos g (Nat.pow_pos (n:=4*i+k) aI);omega
      rcases od aa with g|g
      ·subst g
       have:=(GH aa).2
       rw[Nat.add_zero]at hz;omega
      ·obtain⟨k,rfl⟩:∃j,k=j+1:=by
        rcases Nat.eq_zero_or_pos k with g2|g2
        ·subst g2;have:=(GH aa).2;rw[Nat.add_zero]at hz;omega
        ·exact⟨k - 1,aa⟩
       rw[Nat.mod_eq_of_lt QN]
       refine xW (4*i+k) n QN (.inr ?_)
       rcases Nat.lt_or_ge n (10^(4*i+k))with g3|g3
       ·rw[Nat.add_sub_cancel,Nat.div_eq_of_lt g3]at g;omega
       ·exact g3
     (repeat((first|refine ag rfl rfl ?_|refine ae rfl rfl ?_|refine ah dO ?_|refine ah dP ?_|refine ah Q8 ?_|rw[t3]|rw[e1]|rw[t4]|rw[t5]);conv=>whnf))
     exact⟨(td n).length - (i+1),fun k=>k,[0,3,4],[],aa,av,i+1,_,rfl,aa,by rw[sl];omega,(fun h=>aa),(fun _=>C2),rfl,rfl⟩
  ·obtain rfl:k=4:=aa
   have t3:decide (((4:Nat):Int)<4)=false:=rfl
   have C2:i+1=(td n).length→iD (4*i+4) (n % 10^(4*i+4))=Lib.decDigits n:=fun h=>by
    have h1:=(GH h).1
    rw[Nat.div_lt_iff_lt_mul (Nat.pow_pos aI),←Nat.pow_add,Nat.add_comm]at h1
    have g:=(od h).resolve_left aI
    rw[Nat.mod_eq_of_lt h1]
    refine xW (4*i+3) n h1 (.inr ?_)
    rcases Nat.lt_or_ge n (10^(4*i+3))with g3|g3
    ·rw[show 4 - 1=3 from rfl,Nat.div_eq_of_lt g3]at g;omega
    ·exact g3
   (repeat((first|refine ae rfl rfl ?_|refine ah dP ?_|rw[t3]|rw[e1]);conv=>whnf))
   exact⟨(td n).length - (i+1),fun k=>k,[0,3,4],[],aa,av,i+1,_,rfl,aa,by rw[sl];omega,(fun h=>rfl),C2,rfl,rfl⟩
 ·obtain rfl:i=(td n).length:=aa
  have t2:decide (((td n).length:Int)<((td n).length:Int))=false:=decide_eq_false aa
  obtain rfl:=iC rfl
  (repeat(first|(refine ae rfl rfl ?_;conv=>whnf)|(refine ah Q8 ?_;conv=>whnf)|(rw[t2];conv=>whnf)));exact Q4
theorem OC (z:Int) (hz:sz z.natAbs≤100000000):ab Tryz.prog 249 [zZ z] [] (.val (.string (tZ z))) [] []:=by
 have k1:=K3 z.natAbs (Nat.lt_of_le_of_lt (GF hz) aI)
 have hs:=mW z.natAbs
 have h1:(ByteArray.mk #[45]).size=1:=rfl
 have h2:(ByteArray.mk #[45]).size+(tN z.natAbs).size≤9223372036854775807:=aa
 unfold tZ
 refine bT [1] Tryz.func249 ?_
 intro W0 w0 ρ0 hE
 conv=>whnf
 by_cases hn:z<0
 ·have t1:decide (z<0)=true:=decide_eq_true hn
  rw[if_pos hn]
  (repeat((first|refine ag rfl rfl ?_|refine gz Q3 ?_|refine aS (by assumption) ?_|refine ah Q5 ?_|refine ah Q7 ?_|rw[t1]);conv=>whnf));exact Q4
 ·have t1:decide (z<0)=false:=decide_eq_false hn
  rw[if_neg hn]
  (repeat((first|refine ae rfl rfl ?_|refine aS (by assumption) ?_|refine ah Q5 ?_|refine ah Q7 ?_|rw[t1]);conv=>whnf));exact Q4
theorem GI (q:Rat) (h:fs q≤100000000):ab Tryz.prog 148 [fF q] [] (.val (.string (tQ q))) [] []:=by
 have n1:=dZ q
 have n2:=dQ q
 unfold fs at h
 have k1:=OC q.num aa
 have hdl:(td q.den).length≤100000000:=GF aa
 have k2:=qK q aa
 have k3:=K3 q.den aa
 have hs:=xM q.num
 have QD:=mW q.den
 have h1:(ByteArray.mk #[47]).size=1:=rfl
 have h2:(tZ q.num).size+(ByteArray.mk #[47]).size≤9223372036854775807:=aa
 have h3:(tZ q.num++(ByteArray.mk #[47])).size+(tN q.den).size≤9223372036854775807:=by rw[ByteArray.size_append];omega
 have hz:=gQ (n:=q.den - 1)
 have hp:=q.den_pos
 unfold tQ
 refine bT [1] Tryz.func148 ?_
 intro W0 w0 ρ0 hE
 conv=>whnf
 by_cases hd:q.den=1
 ·have t1:(((td (q.den - 1)).length:Int)==0)=true:=beq_iff_eq.2 aa
  rw[if_pos hd]
  (repeat((first|refine ag rfl rfl ?_|refine aS (by assumption) ?_|refine ah Q8 ?_|refine ah Q5 ?_|refine ah Q7 ?_|rw[t1]);conv=>whnf));exact Q4
 ·have t1:(((td (q.den - 1)).length:Int)==0)=false:=beq_false_of_ne aa
  rw[if_neg hd]
  (repeat((first|refine ae rfl rfl ?_|refine aq av ?_|refine gz Q3 ?_|refine aS (by assumption) ?_|refine ah Q8 ?_|refine ah Q5 ?_|refine ah Q7 ?_|rw[t1]);conv=>whnf));exact Q4
abbrev xX (a:List Rat):SV:=bF 3 fF a
abbrev qq (a:List Rat):aF:=⟨81,true,.seq 3 (a.map fF)⟩
theorem iX {z:List Rat} {i:Nat} (hi:i<z.length):qq (z.take (i+1))=⟨81,true,.seq 3 (List.take i ((z.take i).map fF)++List.take 1 (List.drop 0 [fF (z.getD i 0)]))⟩:=by
 have hl:((z.take i).map fF).length=i:=by rw[List.length_map,List.length_take];omega
 rw[qq,gO z i hi,List.map_append,List.take_of_length_le (l:=(z.take i).map fF) aa];rfl
abbrev GJ:aF:=⟨81,true,.one [.val (.bool false),.val (.slice none 0 0),.val (.slice none 0 0)]⟩
abbrev GK (q:Rat):aF:=⟨81,true,.one [zZ q.num,nN (q.den - 1)]⟩
def jn (l:List Rat):List UInt8:=Lib.join ((l.map tQ).map (·.data.toList)) [32]
theorem OD (l:List Rat) (q:Rat) (h:l≠[]):jn (l++[q])=jn l++[32]++(tQ q).data.toList:=by
 cases l with
 |nil=>exact absurd rfl h
 |cons x r=>simp[jn,Lib.join_cons,Lib.joinTail]
theorem YS (q:Rat):jn ([]++[q])=(tQ q).data.toList:=by simp[jn,Lib.join_one]
theorem YT {a:List Rat} {B:Nat} (hl:a.length≤2048) (h:∀i,i<a.length→fs (a.getD i 0)≤B) (hB:B≤100000000) (i:Nat):(jn (a.take i)).length≤140737488355328:=
 Gx (B:=B) (by rw[List.length_take];omega) (fun k hk=>by
  rw[List.length_take]at hk
  rw[List.getD_eq_getElem?_getD,List.getElem?_take,if_pos aa,←List.getD_eq_getElem?_getD]
  exact h k aa) aa
theorem xY (l:List UInt8) (s:ByteArray):(⟨l.toArray⟩:ByteArray)++s=⟨(l++s.data.toList).toArray⟩:=by
 apply ByteArray.ext
 rw[ByteArray.data_append]
 apply Array.ext'
 simp
theorem BI (l:List UInt8):(⟨l.toArray⟩:ByteArray).size=l.length:=by show l.toArray.size=_;simp
theorem K4 (a:List Rat) (B:Nat) (hl:a.length≤2048) (h:∀i,i<a.length→fs (a.getD i 0)≤B) (hB:B≤100000000):ab Tryz.prog 226 [xX a] [] (.val (.string (tV a))) [] []:=by
 have htv:tV a=⟨((91::jn a)++[93]).toArray⟩:=by
  apply ByteArray.ext
  show(("[".toUTF8++⟨(jn a).toArray⟩:ByteArray)++ "]".toUTF8).data=_
  rw[ByteArray.data_append,ByteArray.data_append]
  apply Array.ext'
  have e1: "[".toByteArray.data.toList=[91]:=by decide+kernel
  have e2: "]".toByteArray.data.toList=[93]:=by decide+kernel
  simp[e1,e2]
 rw[htv]
 refine bT [] Tryz.func226 ?_
 intro W0 w0 ρ0 hE
 conv=>whnf
 skip
 refine aj hE (fun k=>k) [0,3,4] [] (fun m fr hp=>∃i:Nat,m=a.length - i∧i≤a.length∧fr=[(0,xX a),(3,dS (91::jn (a.take i))),(4,.val (.int .i64 (i:Nat)))]∧hp=[]) a.length ?_ ?_ ?_
 ·kernel_rfl
 ·exact⟨0,rfl,Nat.zero_le _,rfl,rfl⟩
 rintro m _ _ ⟨i,rfl,hi,rfl,rfl⟩
 have Rm:=YT hl h hB i
 have gV:=BI (91::jn (a.take i))
 rw[List.length_cons]at gV
 conv=>whnf
 by_cases aE:i<a.length
 ·have t1:=dx aE
  have t2:=br (i:=i) aa
  have hx:=h i aE
  have k1:=GI (a.getD i 0) aa
  have hq:=Bt (a.getD i 0)
  have jE:=gO a i aE
  obtain⟨x,hxe⟩:∃x,a.getD i 0=x:=⟨_,rfl⟩
  rw[hxe]at hx k1 hq jE
  by_cases h0:0<i
  ·have t3:decide ((i:Int)>0)=true:=decide_eq_true aa
   have e1:=xY (91::jn (a.take i)) ⟨#[32]⟩
   have e2:=xY ((91::jn (a.take i))++[32]) (tQ x)
   have bW:a.take i≠[]:=fun h=>by have:=congrArg List.length h;rw[List.length_take,List.length_nil]at this;omega
   have ej:(91::jn (a.take i))++[32]++(tQ x).data.toList=91::jn (a.take (i+1)):=by rw[jE,OD _ _ bW];simp
   have h32:(⟨#[32]⟩:ByteArray).size=1:=rfl
   have o1:(⟨(91::jn (a.take i)).toArray⟩:ByteArray).size+(⟨#[32]⟩:ByteArray).size≤9223372036854775807:=aa
   have BJ:=BI ((91::jn (a.take i))++[32])
   rw[List.length_append,List.length_cons,List.length_singleton]at BJ
   have o2:(⟨((91::jn (a.take i))++[32]).toArray⟩:ByteArray).size+(tQ x).size≤9223372036854775807:=aa
   have e1':(⟨(91::jn (a.take i)).toArray⟩:ByteArray)++(⟨#[32]⟩:ByteArray)=⟨((91::jn (a.take i))++[32]).toArray⟩:=e1
   rw[ej]at e2
   clear e1 ej jE
   (repeat((first|refine ag rfl rfl ?_|refine gz Q3 ?_|refine aS (by assumption) ?_|refine ah Q8 ?_|refine ah og ?_|refine ah Q5 ?_|rw[t1]|rw[t3]|rw[hxe]|rw[e1']|rw[e2]|rw[t2]);conv=>whnf))
   exact⟨a.length - (i+1),fun k=>k,[0,3,4],[],aa,av,i+1,rfl,aE,rfl,rfl⟩
  ·have t3:decide ((i:Int)>0)=false:=decide_eq_false aa
   obtain rfl:i=0:=aa
   have e2:=xY (91::jn (a.take 0)) (tQ x)
   have ej:(91::jn (a.take 0))++(tQ x).data.toList=91::jn (a.take (0+1)):=by
    rw[jE,List.take_zero,YS];rfl
   rw[ej]at e2
   have o2:(⟨(91::jn (a.take 0)).toArray⟩:ByteArray).size+(tQ x).size≤9223372036854775807:=aa
   clear ej jE
   (repeat((first|refine ag rfl rfl ?_|refine ae rfl rfl ?_|refine gz Q3 ?_|refine aS (by assumption) ?_|refine ah Q8 ?_|refine ah og ?_|refine ah Q5 ?_|rw[t1]|rw[t3]|rw[hxe]|rw[e2]|rw[t2]|rw[Nat.zero_add]);conv=>whnf))
   exact⟨a.length - (0+1),fun k=>k,[0,3,4],[],aa,av,0+1,rfl,aE,rfl,rfl⟩
 ·have t1:=dA aE
  have hI:i=a.length:=aa
  subst hI
  rw[List.take_length]at*
  have e1:(⟨(91::jn a).toArray⟩:ByteArray)++(⟨#[93]⟩:ByteArray)=⟨((91::jn a)++[93]).toArray⟩:=xY (91::jn a) ⟨#[93]⟩
  have h93:(⟨#[93]⟩:ByteArray).size=1:=rfl
  have o1:(⟨(91::jn a).toArray⟩:ByteArray).size+(⟨#[93]⟩:ByteArray).size≤9223372036854775807:=aa
  rw[←e1]
  (repeat((first|refine ae rfl rfl ?_|refine gz Q3 ?_|refine ah Q8 ?_|rw[t1]);conv=>whnf));exact Q4
theorem YU (q:Int×Int) (h:ue q):ab Tryz.prog 41 [qA q] [] (fF (qV q)) [] []:=by
 have hd:(if q.2<1 then 1 else q.2)≠0:=by have:=h.2;split<;>omega
 have e2:IntKind.i64.wrap (if (1:Int)>q.2 then 1 else q.2)=(if q.2<1 then 1 else q.2):=wrap_i64 IH IH
 have k1:=acg q.1 (if q.2<1 then 1 else q.2) h.1.1 h.1.2 IH IH hd
 refine bT [1] Tryz.func41 ?_
 intro W0 w0 ρ0 hE
 conv=>whnf
 (repeat((first|refine aS (by assumption) ?_|refine ah Q5 ?_|refine ah Q7 ?_|rw[e2]);conv=>whnf))
 exact au.refl _
abbrev rM (r c:Nat) (a:List Rat):SV:=.agg [iv c,bF 1 xX (aT r c a)]
abbrev rC (r c:Nat) (a:List Rat):List SV:=[iv c,bF 1 xX (aT r c a)]
abbrev BK (l:List (List Rat)):aF:=⟨74,true,.seq 1 (l.map xX)⟩
abbrev zR:aF:=⟨113,true,.one [iv 0,.val (.slice none 0 0)]⟩
abbrev oR (c i K:Nat):aF:=⟨113,true,.one [iv c,.aO K 1 0 i]⟩
theorem Ad {l:List (List Rat)} {i:Nat} (hi:i<l.length):BK (l.take (i+1))=⟨74,true,.seq 1 (List.take i ((l.take i).map xX)++List.take 1 (List.drop 0 [xX (l.getD i [])]))⟩:=by
 have hl:((l.take i).map xX).length=i:=by rw[List.length_map,List.length_take];omega
 have e:l.take (i+1)=l.take i++[l.getD i []]:=by rw[List.take_add_one,List.getD_eq_getElem?_getD,List.getElem?_eq_getElem hi];rfl
 rw[BK,e,List.map_append,List.take_of_length_le (l:=(l.take i).map xX) aa];rfl
theorem K6 (m:MM) (hm:Eb m) {r c:Nat} (hr:r≤12) (hc:c≤12):ab Tryz.prog 64 [mQ m,iv r,iv c] [] (rM r c (cM m.2.2 (r*c))) [] []:=by
 obtain⟨A,B,l⟩:=m
 obtain⟨_,_,hl,hq⟩:=hm
 replace hl:l.length≤maxLen:=hl
 have hz:=eu l (r*c)
 have lz:=et r c (cM l (r*c))
 have lz2:((aT r c (cM l (r*c))).map xX).length=r:=by rw[List.length_map,lz]
 refine fZ [3] Tryz.func64 ?_
 intro w0 ρ0 hE
 conv=>whnf
 skip
 refine iS (j:=7) (k:=2001) (s:=1) (p:=1) (blk:=BK []) rfl rfl rfl rfl rfl ?_
 refine dE hE (fun k=>k) [1,2,3,6,7,8] [6,7,2001] (fun m fr hp=>∃i:Nat,m=r - i∧i≤r∧fr=[(1,iv r),(2,iv c),(3,bE [jv .u8 A,jv .u8 B,bF 2 qA l]),(6,.ptr 6 0 0 0),(7,.ptr 7 0 0 0),(8,iv (i:Nat))]∧
  hp=[(6,zR),(7,oR c i 2001),(2001,BK ((aT r c (cM l (r*c))).take i))]) r ?_ ?_ ?_
 ·kernel_rfl
 ·exact⟨0,rfl,Nat.zero_le _,rfl,rfl⟩
 rintro m _ _ ⟨i,rfl,hi,rfl,rfl⟩
 have KD:(((aT r c (cM l (r*c))).take i).map xX).length=i:=by rw[List.length_map,List.length_take];omega
 by_cases aE:i<r
 ·have t1:=dx aE
  have t2:=br (i:=i) aa
  have yO:=c8 (c:=c) aE hz
  have Fh:=yO
  rw[List.length_take]at Fh
  have e3:=Ad (l:=aT r c (cM l (r*c))) (i:=i) aa
  rw[iR aE]at e3
  refine ey.of hE ?_
  conv=>whnf
  (repeat(first|(refine ag rfl rfl ?_;conv=>whnf)|(rw[t1];conv=>whnf)))
  refine ct (t:=9) (k:=2002) (s:=3) (blk:=qq []) rfl rfl rfl ?_
  refine dE hE (fun k=>k) [1,2,3,6,7,8,9,10] [6,7,2001,2002] (fun m fr hp=>∃k:Nat,m=c - k∧k≤c∧fr=[(1,iv r),(2,iv c),(3,bE [jv .u8 A,jv .u8 B,bF 2 qA l]),(6,.ptr 6 0 0 0),(7,.ptr 7 0 0 0),(8,iv (i:Nat)),(9,.aO 2002 3 0 k),(10,iv (k:Nat))]∧
   hp=[(6,zR),(7,oR c i 2001),(2001,BK ((aT r c (cM l (r*c))).take i)),(2002,qq ((db (cM l (r*c)) c i).take k))]) c ?_ ?_ ?_
  ·kernel_rfl
  ·exact⟨0,rfl,Nat.zero_le _,rfl,rfl⟩
  rintro m _ _ ⟨k,rfl,hk,rfl,rfl⟩
  have aee:(((db (cM l (r*c)) c i).take k).map fF).length=k:=by rw[List.length_map,List.length_take];omega
  by_cases hlk:k<c
  ·have t4:=dx hlk
   have t5:=br (i:=k) aa
   obtain⟨w1,w2⟩:=kK (i:=i) (k:=k) (c:=c) aa aa aa
   have o1:=YU (l.getD (i*c+k) (0,0)) (kO hq _)
   have hx:=gF aE hlk
   have mr:IntKind.i64.wrap ((i:Int)*(c:Int))=((i*c:Nat):Int):=w1
   have e4:=iX (z:=db (cM l (r*c)) c i) (i:=k) aa
   rw[iw hlk,el,pJ hx]at e4
   refine ey.of hE ?_
   conv=>whnf
   by_cases lJ:i*c+k<l.length
   ·have t3:=dx lJ
    (repeat((first|refine ag rfl rfl ?_|refine aC Q3 ?_|refine aS (by assumption) ?_|refine ah Q8 ?_|refine ah Q5 ?_|refine ah X8 ?_|refine ah Q7 ?_|rw[w1]|rw[w2]|rw[t4]|rw[t3]|rw[t5]);conv=>whnf))
    refine⟨c - (k+1),cE [(47,2002)],[1,2,3,6,7,8,9,10],[6,7,2001,47],aa,av,k+1,rfl,hlk,rfl, ?_⟩
    rw[e4];rfl
   ·have t3:=dA lJ
    have e5:eQ l (i*c+k)=qV (0,0):=by rw[eQ,List.getD_eq_getElem?_getD,List.getElem?_eq_none aa];rfl
    rw[show l.getD (i*c+k) (0,0)=(0,0)from by rw[List.getD_eq_getElem?_getD,List.getElem?_eq_none aa];rfl]at o1
    rw[e5]at e4
    (repeat((first|refine ag rfl rfl ?_|refine ae rfl rfl ?_|refine aC Q3 ?_|refine aS (by assumption) ?_|refine ah Q8 ?_|refine ah Q5 ?_|refine ah Q7 ?_|rw[w1]|rw[w2]|rw[t4]|rw[t3]|rw[t5]);conv=>whnf))
    refine⟨c - (k+1),cE [(47,2002)],[1,2,3,6,7,8,9,10],[6,7,2001,47],aa,av,k+1,rfl,hlk,rfl, ?_⟩
    rw[e4];rfl
  ·have t4:=dA hlk
   obtain rfl:k=c:=aa
   rw[List.take_of_length_le (l:=db (cM l (r*k)) k i) aa]
   refine eA 9 2002 (fun _ h=>h) (fun _=>rfl) rfl rfl yO.symm ?_
   refine ey.of hE ?_
   conv=>whnf
   (repeat((first|refine ae rfl rfl ?_|refine aC Q3 ?_|rw[t4]|rw[t2]|rw[Nat.zero_add]);conv=>whnf))
   refine⟨r - (i+1),cE [(52,2001)],[1,2,3,6,7,8],[6,7,52],aa,av,i+1,rfl,aE,rfl, ?_⟩
   rw[e3];rfl
 ·have t1:=dA aE
  obtain rfl:i=r:=aa
  rw[List.take_of_length_le aa]
  refine ey.of hE ?_
  conv=>whnf
  (repeat(first|(refine ae rfl rfl ?_;conv=>whnf)|(rw[t1];conv=>whnf)))
  exact Q28
theorem v7 {r c B:Nat} {a:List Rat} (ha:a.length=r*c) (sa:Sm B a):Sm B (iG r c a):=zX fun _ _ hi hk=>eS sa ha hk hi
def jS (l:List ByteArray):List UInt8:=Lib.join (l.map (·.data.toList)) [32]
theorem OE (l:List ByteArray) (s:ByteArray) (h:l≠[]):jS (l++[s])=jS l++[32]++s.data.toList:=by
 cases l with
 |nil=>exact absurd rfl h
 |cons x r=>simp[jS,Lib.join_cons,Lib.joinTail]
theorem K7 {r c B:Nat} {a:List Rat} (ha:dV r c a) (sa:Sm B a) (hB:B≤1000000):ab Tryz.prog 116 [rM r c a] [] (.val (.string (tM r c a))) [] []:=by
 have hr:=ha.r
 have la:=et r c a
 have hT:((aT r c a).map tV).length=r:=by rw[List.length_map,la]
 have Rm:∀i,(jS (((aT r c a).map tV).take i)).length≤140737488355328:=by
  intro i
  refine Nat.le_trans (mX _ (2+2048*(2*B+5)) ?_) ?_
  ·intro x hx
   obtain⟨s,hs,rfl⟩:=List.mem_map.1 hx
   obtain⟨l,hl,rfl⟩:=List.mem_map.1 (List.mem_of_mem_take hs)
   obtain⟨h1,h2⟩:=GB ha.n sa hl
   refine Nat.le_trans (Bv h2) ?_
   have:=Nat.mul_le_mul_right (2*B+5) (show l.length≤2048 by rw[h1];exact ha.c)
   omega
  ·rw[List.length_map,List.length_take]
   have:=Nat.mul_le_mul_right (2+2048*(2*B+5)+1) (show min i ((aT r c a).map tV).length≤2048 by omega)
   omega
 rw[show tM r c a=⟨(jS ((aT r c a).map tV)).toArray⟩from rfl]
 refine bT [1] Tryz.func116 ?_
 intro W0 w0 ρ0 hE
 conv=>whnf
 skip
 refine aj hE (fun k=>k) [1,3,4] [] (fun m fr hp=>∃i:Nat,m=r - i∧i≤r∧fr=[(1,bE (rC r c a)),(3,dS (jS (((aT r c a).map tV).take i))),(4,iv (i:Nat))]∧hp=[]) r ?_ ?_ ?_
 ·kernel_rfl
 ·exact⟨0,rfl,Nat.zero_le _,rfl,rfl⟩
 rintro m _ _ ⟨i,rfl,hi,rfl,rfl⟩
 have hj:=Rm i
 have gV:=BI (jS (((aT r c a).map tV).take i))
 conv=>whnf
 by_cases aE:i<r
 ·have t1:decide ((i:Int)<((aT r c a).length:Int))=true:=by rw[la];exact dx aE
  have t2:=br (i:=i) aa
  have e5:=iR (c:=c) (a:=a) aE
  have k1:=K4 (db a c i) B (by rw[c8 aE ha.n];exact ha.c) (uC sa ha.n aE) aa
  have hq:=Bv (uC sa ha.n aE)
  rw[c8 aE ha.n]at hq
  have hq2:=Nat.mul_le_mul_right (2*B+5) ha.c
  have hq3:(tV (db a c i)).data.toList.length=(tV (db a c i)).size:=Array.length_toList
  have jE:((aT r c a).map tV).take (i+1)=((aT r c a).map tV).take i++[tV (db a c i)]:=by
   rw[List.take_add_one,List.getElem?_map,List.getElem?_eq_getElem aa]
   rw[List.getD_eq_getElem?_getD,List.getElem?_eq_getElem aa]at e5
   rw[←e5];rfl
  rw[←e5]at k1 jE hq3 hq
  obtain⟨x,hxe⟩:∃x,(aT r c a).getD i []=x:=⟨_,rfl⟩
  rw[hxe]at k1 jE hq3 hq
  clear e5
  by_cases h0:0<i
  ·have t3:decide ((i:Int)>0)=true:=decide_eq_true aa
   have e1:(⟨(jS (((aT r c a).map tV).take i)).toArray⟩:ByteArray)++(⟨#[32]⟩:ByteArray)=⟨(jS (((aT r c a).map tV).take i)++[32]).toArray⟩:=xY _ ⟨#[32]⟩
   have e2:=xY (jS (((aT r c a).map tV).take i)++[32]) (tV x)
   have bW:((aT r c a).map tV).take i≠[]:=fun h=>by have:=congrArg List.length h;rw[List.length_take,List.length_nil]at this;omega
   have ej:jS (((aT r c a).map tV).take i)++[32]++(tV x).data.toList=jS (((aT r c a).map tV).take (i+1)):=by rw[jE,OE _ _ bW]
   have h32:(⟨#[32]⟩:ByteArray).size=1:=rfl
   have o1:(⟨(jS (((aT r c a).map tV).take i)).toArray⟩:ByteArray).size+(⟨#[32]⟩:ByteArray).size≤9223372036854775807:=aa
   have BJ:=BI (jS (((aT r c a).map tV).take i)++[32])
   rw[List.length_append,List.length_singleton]at BJ
   have o2:(⟨(jS (((aT r c a).map tV).take i)++[32]).toArray⟩:ByteArray).size+(tV x).size≤9223372036854775807:=aa
   rw[ej]at e2
   clear ej jE hq hq2 hq3
   (repeat((first|refine ag rfl rfl ?_|refine gz Q3 ?_|refine aS (by assumption) ?_|refine ah Q8 ?_|refine ah Q5 ?_|refine ah mP ?_|refine ah Q7 ?_|rw[t1]|rw[t3]|rw[hxe]|rw[e1]|rw[e2]|rw[t2]);conv=>whnf))
   exact⟨r - (i+1),fun k=>k,[1,3,4],[],aa,av,i+1,rfl,aE,rfl,rfl⟩
  ·have t3:decide ((i:Int)>0)=false:=decide_eq_false aa
   obtain rfl:i=0:=aa
   have e2:=xY (jS (((aT r c a).map tV).take 0)) (tV x)
   have ej:jS (((aT r c a).map tV).take 0)++(tV x).data.toList=jS (((aT r c a).map tV).take (0+1)):=by
    rw[jE,List.take_zero];simp[jS,Lib.join_one,Lib.join_nil]
   rw[ej]at e2
   have o2:(⟨(jS (((aT r c a).map tV).take 0)).toArray⟩:ByteArray).size+(tV x).size≤9223372036854775807:=aa
   clear ej jE hq hq2 hq3
   (repeat((first|refine ag rfl rfl ?_|refine ae rfl rfl ?_|refine gz Q3 ?_|refine aS (by assumption) ?_|refine ah Q8 ?_|refine ah Q5 ?_|refine ah mP ?_|refine ah Q7 ?_|rw[t1]|rw[t3]|rw[hxe]|rw[e2]|rw[t2]|rw[Nat.zero_add]);conv=>whnf))
   exact⟨r - (0+1),fun k=>k,[1,3,4],[],aa,av,0+1,rfl,aE,rfl,rfl⟩
 ·have t1:decide ((i:Int)<((aT r c a).length:Int))=false:=by rw[la];exact dA aE
  obtain rfl:i=r:=aa
  rw[List.take_of_length_le aa]
  (repeat((first|refine ae rfl rfl ?_|refine ah Q8 ?_|refine ah Q5 ?_|refine ah Q7 ?_|rw[t1]);conv=>whnf));exact Q4
abbrev m4:List Rat:=jA [1,2,3,4]
set_option maxHeartbeats 8000000
theorem iY (x:Int):(x % 7).toNat≤6:=aa
theorem oV {r c:Nat} {F:Nat→Nat→Rat} (hr:r≤2048) (hc:c≤2048):dV r c (mk r c F):=⟨hr,hc,dJ ..⟩
abbrev GL (m:MM):Prop:=((Lit.int .u8 m.1).wf=true)∧((Lit.int .u8 m.2.1).wf=true)∧(m.2.2.length≤maxLen∧∀x∈m.2.2,((Lit.int .i64 x.1).wf=true)∧((Lit.int .u32 x.2).wf=true))
theorem mo {m:MM} (w:GL m):Eb m:=⟨wf_u8 w.1,wf_u8 w.2.1,w.2.2.1,qH w.2.2⟩
theorem jB (x:Int) (h:0≤x∧x<256) (m:Int) (hm:0<m∧m<256):IntKind.u8.wrap (x.tmod m)=x.tmod m∧IntKind.i64.wrap (x.tmod m)=((x % m).toNat:Nat):=by
 have h1:=Int.emod_nonneg x (show m≠0 by omega)
 have h2:=Int.emod_lt_of_pos x hm.1
 rw[Int.tmod_eq_emod_of_nonneg h.1]
 constructor
 ·exact wrap_u8 h1 aa
 ·rw[wrap_i64 aa aa];omega
theorem v8 {r s t:Nat} {a b:List Rat} (ha:dV r s a) (hb:dV s t b):dV r t (fA r s t a b):=oV ha.r hb.c
theorem oW {r c:Nat} {a:List Rat} (ha:dV r c a):dV c r (iG r c a):=oV ha.c ha.r
theorem GM (m:MM) (hm:Eb m):ab Tryz.prog 15 [mQ m] [] (mA ((m.1 % 7).toNat:Nat) ((m.2.1 % 7).toNat:Nat) (cM m.2.2 ((m.1 % 7).toNat*(m.2.1 % 7).toNat))) [] []:=by
 obtain⟨e1,e2⟩:=jB m.1 hm.1 7 aI
 obtain⟨e3,e4⟩:=jB m.2.1 hm.2.1 7 aI
 have h1:=iY m.1
 have h2:=iY m.2.1
 generalize hr:(m.1 % 7).toNat=r at*
 generalize hc:(m.2.1 % 7).toNat=c at*
 have k1:=oT m hm (r:=r) (c:=c) aa aa
 refine bT [] Tryz.func15 ?_
 intro W0 w0 ρ0 hE
 conv=>whnf
 (repeat((first|refine And.intro Q6 ?_|refine aS (by assumption) ?_|rw[e2]|rw[e4]);conv=>whnf));exact Q4
set_option maxHeartbeats 40000000
theorem kX {a b:Rat} (h:a=b):vG A7 ez 10 52 (bD a) (bD b)=some true:=by rw[oP,decide_eq_true h]
end Go.Proofs.YtfpagioknjjacaaGreatDoor
namespace Go.Sx
set_option linter.unusedSimpArgs false
set_option linter.unusedVariables false
section
variable {P:Program} {o:Oper} {ft:List (Nat×SV)} {fk:List (Nat×aF)}
theorem CY {t e:TypeId} {x y:Operand} {ti te:TI} {kl kc:IntKind} {n:Nat} (ho:o.op= .makeSlice t x y) (hx:bp ft x (.val (.int kl n))) (hy:bp ft y (.val (.int kc n)))
  (ht:aG P t ti) (hk:ti.kind= .aO e) (he:aG P e te) (hz:te.zero=[.frac 0]) (hs:te.size=5) (hb:(te.bytes:Int)*n≤281474976710656∧(n:Int)≤9223372036854775807):
  bS P o ft fk (aN (List.replicate n 0)) [] []:=
 dv fun ρ a w hp=>by
  have e1:=aK (hx ρ a hp.dy)
  have e2:=aK (hy ρ a hp.dy)
  have hu:=ht.kind;rw[hk]at hu
  obtain⟨i,z,i1,i2,i3,i4,i5,i6,i7,_⟩:=he.info
  have vE:=run_make (P:=P) (w:=w) t e i z hu i1 i4 kl kc n n (Int.natCast_nonneg _) (Int.le_refl _) (by rw[i3];exact hb.1) hb.2
  have RI:z.cells.toList=bD 0:=by rw[i5,hz];rfl
  have fV:madeCells z.cells (n*i.size)=((List.replicate n (bD 0)).flatten).toArray:=by
   have:=fb z.cells te.size i7 n
   rw[i2]
   apply Array.ext'
   rw[this,RI]
  have lC:aw ρ (List.replicate n (SV.frac 0)) (List.replicate n (bD 0)):=by
   clear vE fV hb hx hy e1 e2
   induction n with
   |zero=>simp[aw]
   |succ n ih=>simp only[List.replicate_succ,aw];exact⟨_,_,rfl,rfl,ih⟩
  have od:bn (List.replicate n (SV.frac 0))=true:=by
   rw[←List.map_replicate (f:=SV.frac)]
   exact bN (fun _=>rfl) _
  obtain⟨ρ',cj⟩:=FZ (w:=w) (e:=e) (s:=5) (n:=n) hp.bf lC od (fun x hx=>by rw[(List.mem_replicate.1 hx).2];rfl) (by simp)
  refine⟨_,_,ρ', ?_,by rw[aN,bF,List.map_replicate];exact cj⟩
  simp only[execOp,ho,e1,e2,Sem.run_bind,vE,Result.andThen_ok,Sem.run_pure,fV,Int.toNat_natCast]
end
end Go.Sx
namespace Go.Proofs.YtfpagioknjjacaaGreatDoor
open Go.Sx
set_option linter.unusedSimpArgs false
set_option linter.unusedVariables false
set_option maxRecDepth 100000
set_option maxHeartbeats 8000000
theorem YV {r c s t:Nat} {a b:List Rat} (ha:dV r c a) (hb:dV s t b) (h:c≠s):ab Tryz.prog 67 [mA r c a,mA s t b] [] (.ck [mA 0 0 [],iv 1]) [] []:=by
 have k0:=Kv ha hb
 have t2:((c:Int) != (s:Int))=true:=bne_iff_ne.2 aa
 refine fZ [2,3,9] Tryz.func67 ?_
 intro w0 ρ0 hE
 conv=>whnf
 (repeat((first|refine ae rfl rfl ?_|refine aS (by assumption) ?_|rw[bne_self_eq_false]|refine ao t2 ?_|refine ah Q5 ?_|refine ah Q7 ?_);conv=>whnf));exact Zs
end Go.Proofs.YtfpagioknjjacaaGreatDoor
namespace Go.Sx
set_option linter.unusedSimpArgs false
set_option linter.unusedVariables false
theorem cG {E:Env} (k:Nat) {blk:aF} {c:Code} {K:bI} {fr:List (Nat×SV)} {hp:List (Nat×aF)} (hk:find hp k=none) (he:blk.data.empty) (hs:ey E c K fr ((k,blk)::hp)):ey E c K fr hp:=
 ⟨fun a w hR=>hs.run a w (z7 hk he hR)⟩
end Go.Sx
namespace Go.Proofs.YtfpagioknjjacaaGreatDoor
open Go.Sx
set_option linter.unusedSimpArgs false
set_option linter.unusedVariables false
set_option maxRecDepth 100000
set_option maxHeartbeats 40000000
abbrev zL (n:Nat):List Rat:=List.replicate n 0
theorem fD (n:Nat):(zL n).length=n:=List.length_replicate ..
end Go.Proofs.YtfpagioknjjacaaGreatDoor
namespace Go.Sx
set_option linter.unusedSimpArgs false
set_option linter.unusedVariables false
theorem ab.aef {P:Program} {f:FuncId} {args:List SV} {fk fk':List (Nat×aF)} {c:SV} {new upd:List (Nat×aF)} (h:ab P f args fk' c new upd) (hk:∀ρ w,oB fk new ρ w→oB fk' new ρ w):ab P f args fk c new upd:=by
 rcases h with⟨h1,h2⟩|h
 ·exact .inl ⟨h1,fun ρ w z hz hp=>h2 ρ w z hz (hk ρ w hp)⟩
 ·exact .inr fun ρ w z hz hp=>h ρ w z hz (hk ρ w hp)
def roB (b:Bool) (x:aF):aF:=⟨x.ty,b&&x.wr,x.data⟩
theorem oB.some {ρ:bU} {w:World} {fk new:List (Nat×aF)} (g:Nat→Bool) (hp:oB fk new ρ w):oB (fk.map fun x=>(x.1,roB (g x.1) x.2)) new ρ w:=by
 refine⟨fun k b hk=> ?_,fun k k' x x' b b' hk nu e1 e2 e3 e4 e5 e6=> ?_,hp.bf,fun k b x hk hw hl hx=> ?_,hp.fresh⟩
 ·obtain⟨⟨q,b0⟩,hq,he⟩:=List.mem_map.1 hk
  cases he
  exact hp.n0 q b0 hq
 ·obtain⟨⟨q,b0⟩,hq,he⟩:=List.mem_map.1 hk
  obtain⟨⟨q',b0'⟩,AV,he'⟩:=List.mem_map.1 nu
  cases he
  cases he'
  have:=hp.sep q q' x x' b0 b0' hq AV e1 e2 e3 e4 e5 e6
  simp[roB,this]
 ·obtain⟨⟨q,b0⟩,hq,he⟩:=List.mem_map.1 hk
  cases he
  exact hp.eV q b0 x hq (by simp[roB]at hw;exact hw.2) hl hx
def sn:List Nat→List (Nat×aF)
 |[]=>[]
 |k::r=>(k,⟨0,true,.dead⟩)::sn r
theorem gG {mv:List Nat} {hp:List (Nat×aF)} {k:Nat}:(k∈mv→find (sn mv++hp) k=some ⟨0,true,.dead⟩)∧(k∉mv→find (sn mv++hp) k=find hp k):=by
 induction mv with
 |nil=>exact⟨(fun h=>by cases h),fun _=>rfl⟩
 |cons j r ih=>
  simp only[sn,List.cons_append,find]
  cases hb:Nat.beq j k with
  |true=>
   obtain rfl:=Nat.eq_of_beq_eq_true hb
   exact⟨fun _=>rfl,fun h=>absurd (List.mem_cons_self ..) h⟩
  |false=>
   have bW:k≠j:=by rintro rfl;simp[Nat.beq_refl]at hb
   exact⟨fun h=>ih.1 ((List.mem_cons.1 h).resolve_left bW),fun h=>ih.2 fun g=>h (List.mem_cons_of_mem _ g)⟩
def OF (σ:Nat→Nat) (ks mv:List Nat):List Nat→Bool
 |[]=>true
 |k::r=>(vF k mv||(vF k ks&&Nat.beq (σ k) k))&&OF σ ks mv r
theorem Ae {σ:Nat→Nat} {ks mv:List Nat}:∀{l:List Nat},OF σ ks mv l=true→∀k∈l,k∈mv∨(k∈ks∧σ k=k)
 |j::r,h,k,hk=>by
  simp only[OF,Bool.and_eq_true,Bool.or_eq_true,jh]at h
  rcases List.mem_cons.1 hk with rfl|hk
  ·exact h.1.imp id fun g=>⟨g.1,Nat.eq_of_beq_eq_true g.2⟩
  ·exact Ae h.2 k hk
def BL (σ:Nat→Nat) (mv:List Nat):List Nat→Bool
 |[]=>true
 |k::r=> !(vF (σ k) mv)&&BL σ mv r
theorem vo {σ:Nat→Nat} {mv:List Nat}:∀{l:List Nat},BL σ mv l=true→∀k∈l,σ k∉mv
 |j::r,h,k,hk=>by
  simp only[BL,Bool.and_eq_true,Bool.not_eq_true',←Bool.not_eq_true,jh]at h
  rcases List.mem_cons.1 hk with rfl|hk
  ·exact h.1
  ·exact vo h.2 k hk
def Fi (fx:List Nat) (σ:Nat→Nat) (ts ks mv:List Nat) (fr:List (Nat×SV)) (hp:List (Nat×aF)):Bool:=
 eg ks fr ts&&(dz ks hp ks&&(rJ σ ks&&(OF σ ks mv fx&&(BL σ mv ks&&eJ mv fx))))
theorem OG {E:Env} (hE:E.OK) {σ:Nat→Nat} {ts ks mv:List Nat} {fr:List (Nat×SV)} {hp:List (Nat×aF)} (h:Fi E.fx σ ts ks mv fr hp=true) {a:Act} {w:World} (hR:RR E (fn fr hp) a w):
  RR E (fn (fg σ fr ts) (sn mv++gJ σ hp ks)) a w:=by
 simp only[Fi,Bool.and_eq_true]at h
 obtain⟨h1,h2,h3,h4,h5,h6⟩:=h
 obtain⟨ρ,hext,hfx,hR⟩:=hR
 have RY:=qy h3
 have Hr:=Ae h4
 have ach:=vo h5
 have Zy:=dD h6
 let ρ':bU:=⟨fun k'=>if k'∈mv then ρ.key k' else match ks.find? (fun k=>σ k==k')with
  |some k=>ρ.key k
  |none=>none,ρ.bf,ρ.cw⟩
 have pL:∀k∈mv,ρ'.key k=ρ.key k:=fun k hk=>if_pos hk
 have b9:∀k∈ks,ρ'.key (σ k)=ρ.key k:=by
  intro k hk
  show(if σ k∈mv then ρ.key (σ k)else match ks.find? (fun j=>σ j==σ k)with|some k=>ρ.key k|none=>none)=ρ.key k
  rw[if_neg (ach k hk)]
  cases hf:ks.find? (fun j=>σ j==σ k)with
  |none=>have:=List.find?_eq_none.1 hf k hk;simp at this
  |some j=>
   have hj:=List.mem_of_find?_eq_some hf
   have hs:=List.find?_some hf
   have:j=k:=RY j hj k hk (by simpa using hs)
   rw[this]
 have Jl:∀k' x,ρ'.key k'=some x→k'∈mv∨(k'∉mv∧∃k∈ks,σ k=k'∧ρ.key k=some x):=by
  intro k' x hx
  by_cases hm:k'∈mv
  ·exact .inl hm
  have hx:(if k'∈mv then ρ.key k' else match ks.find? (fun j=>σ j==k')with|some k=>ρ.key k|none=>none)=some x:=hx
  rw[if_neg hm]at hx
  cases hf:ks.find? (fun j=>σ j==k')with
  |none=>rw[hf]at hx;cases hx
  |some j=>rw[hf]at hx;exact .inr ⟨hm,j,List.mem_of_find?_eq_some hf,by simpa using List.find?_some hf,hx⟩
 have hold:∀k' b',(fn (fg σ fr ts) (sn mv++gJ σ hp ks) (.k k')).blk=some b'→(k'∈mv∧b'=⟨0,true,.dead⟩)∨∃k∈ks,σ k=k'∧∃b,find hp k=some b∧b'=dU σ b∧∀j∈oI b.data,j∈ks:=by
  intro k' b' hb
  simp only[fn,LV.blk]at hb
  by_cases hm:k'∈mv
  ·rw[gG.1 hm]at hb;cases hb;exact .inl ⟨hm,rfl⟩
  ·rw[gG.2 hm]at hb;exact .inr (qz h2 k' b' hb)
 have zh:∀k' b',(fn (fg σ fr ts) (sn mv++gJ σ hp ks) (.k k')).blk=some b'→b'.data.live=true→∃k∈ks,σ k=k'∧∃b,find hp k=some b∧b'=dU σ b∧∀j∈oI b.data,j∈ks:=by
  intro k' b' hb hl
  rcases hold k' b' hb with⟨_,rfl⟩|g
  ·cases hl
  ·exact g
 have n0:∀k∈E.fx,ρ'.key k=ρ.key k:=by
  intro k hk
  rcases Hr k hk with e|⟨e1,e2⟩
  ·exact pL k e
  ·have:=b9 k e1
   rw[e2]at this;exact this
 refine⟨ρ',⟨⟨fun k x hx=> ?_,hext.le.bf⟩,hext.bf,fun k hk=> ?_⟩,fun k hk=> ?_,{defers:=hR.defers,size:=hR.size,fr:= ?_,bK:=hR.bK,hp:= ?_}⟩
 ·rw[n0 k (hE.ug k x hx)];exact hext.le.key k x hx
 ·rw[n0 k hk];exact hext.fix k hk
 ·simp only[fn,LV.blk]
  rcases Hr k hk with e|⟨e1,e2⟩
  ·rw[gG.1 e];simp
  ·by_cases hm:k∈mv
   ·rw[gG.1 hm];simp
   ·rw[gG.2 hm]
    obtain⟨b,hb⟩:=mK (σ:=σ) h2 k e1
    rw[e2]at hb
    rw[hb];simp
 ·intro t sv ht
  obtain⟨c,c1,rfl,c3⟩:=rK h1 t sv ht
  exact(vO (ρ:=ρ) (ρ':=ρ') (σ:=σ) rfl c _ (fun k hk=>b9 k (c3 k hk))).2 (hR.fr t c (by simp only[fn,LV.sv];exact c1))
 ·constructor
  ·intro k' b' hb
   rcases hold k' b' hb with⟨_,rfl⟩|⟨k,hk,rfl,b,b1,rfl,b3⟩
   ·exact .inl rfl
   ·exact(jk (ρ:=ρ) (ρ':=ρ') (σ:=σ) rfl k b (b9 k hk) (fun j hj=>b9 j (b3 j hj))).2 (hR.hp.blk k b (by simp only[fn,LV.blk];exact b1))
  ·intro k1 k2 x1 x2 b1 b2 RZ MH bW he hb1 hb2 eR iC
   obtain⟨j1,m1,rfl,c1,d1,rfl,_⟩:=zh k1 b1 hb1 eR
   obtain⟨j2,m2,rfl,c2,d2,rfl,_⟩:=zh k2 b2 hb2 iC
   rw[b9 j1 m1]at RZ
   rw[b9 j2 m2]at MH
   exact hR.hp.sep j1 j2 x1 x2 c1 c2 RZ MH (fun h=>bW (by rw[h])) he (by simp only[fn,LV.blk];exact d1) (by simp only[fn,LV.blk];exact d2) (by rwa [dU,cK]at eR) (by rwa [dU,cK]at iC)
  ·intro k' b' x hb hw hl hx
   obtain⟨k,hk,rfl,b,b1,rfl,_⟩:=zh k' b' hb hl
   rw[b9 k hk]at hx
   exact hR.hp.own k b x (by simp only[fn,LV.blk];exact b1) hw (by rwa [dU,cK]at hl) hx
  ·intro k' x hx
   simp only[fn,LV.blk]
   rcases Jl k' x hx with hm|⟨hm,k,hk,rfl,_⟩
   ·exact⟨_,gG.1 hm⟩
   ·rw[gG.2 hm]
    exact mK (σ:=σ) h2 k hk
  ·exact hR.hp.bf
  ·intro k' b' x hb hw hl hx
   obtain⟨k,hk,rfl,b,b1,rfl,_⟩:=zh k' b' hb hl
   rw[b9 k hk]at hx
   exact hR.hp.eV k b x (by simp only[fn,LV.blk];exact b1) hw (by rwa [dU,cK]at hl) hx
theorem K8 {E:Env} (hE:E.OK) (σ:Nat→Nat) (ts ks mv:List Nat) {c:Code} {K:bI} {fr:List (Nat×SV)} {hp:List (Nat×aF)} (h:Fi E.fx σ ts ks mv fr hp=true)
  (hs:ey E c K (fg σ fr ts) (sn mv++gJ σ hp ks)):ey E c K fr hp:=⟨fun a w hR=>hs.run a w (OG hE h hR)⟩
theorem K9 {E:Env} (hE:E.OK) (σ:Nat→Nat) (ts ks:List Nat) {c:Code} {K:bI} {fr:List (Nat×SV)} {hp:List (Nat×aF)} (h:ig E.fx σ ts ks fr hp=true)
  (hs:ey E c K (fg σ fr ts) (gJ σ hp ks)):ey E c K fr hp:=⟨vP hE σ ts ks h hs.run⟩
theorem get_nil {hp:List (Nat×aF)}:∀j c,(j,c)∈([]:List (Nat×aF))→find hp j=some c:=fun _ _ h=>by cases h
theorem dH {hp l:List (Nat×aF)} {k:Nat} {b:aF} (h:find hp k=some b) (r:∀j c,(j,c)∈l→find hp j=some c):∀j c,(j,c)∈(k,b)::l→find hp j=some c:=by
 intro j c hm
 rcases List.mem_cons.1 hm with e|e
 ·cases e;exact h
 ·exact r j c e
theorem bo.same {fk:List (Nat×aF)}:bo fk [] fun k=>k:=⟨fun _ _ _ _ _ _ h _=>h,(fun _ _ h=>by cases h),fun _ _ h=>by cases h⟩
mutual
theorem BM:∀c:SV,eW (fun k=>k) c=c
 |.ptr .. |.aO .. |.any|.val _|.nat _|.int _|.frac _|.atom _=>rfl
 |.agg cs=>by rw[eW,jR cs]
 |.ck vs=>by rw[eW,jR vs]
 |.clo f a b=>by rw[eW,jR a,jR b]
 |.yld k rc ts a=>by rw[eW,jR a]
theorem jR:∀l:List SV,lD (fun k=>k) l=l
 |[]=>rfl
 |c::l=>by rw[lD,BM c,jR l]
end
theorem GN (b:aF):dU (fun k=>k) b=b:=by
 obtain⟨ty,wr,d⟩:=b
 cases d<;>simp only[dU,y3,jR]
theorem pM:∀l:List (Nat×aF),lE (fun k=>k) l=l
 |[]=>rfl
 |(k,b)::r=>by rw[lE,GN,pM r]
theorem Af {P:Program} {T:List (TypeId×TI)} {Z:List Nat} (hT:ic P T) (hm:P.follows .mixedOrders=true) {f:FuncId} {fn':Func} {code:Code} (hf:P.funcs[f]? =some fn') (hb:fn'.body=some code)
  (hn:(fn'.name== "runtime.NumGoroutine")=false) {args:List SV} {fk:List (Nat×aF)} {c:SV} {upd:List (Nat×aF)} (hs:cI args fk c [] upd) (hnt:Nat.ble args.length fn'.ntmps=true)
  (h:∀W0 w0 ρ0,Env.OK ⟨P,T,W0,w0,fn'.ntmps,ρ0,az fk,Z,none⟩→A6 ⟨P,T,W0,w0,fn'.ntmps,ρ0,az fk,Z,none⟩ code (IE T fn'.results.toList (Fin c [] upd)) (enum 0 args) fk):
  ab P f args fk c [] upd:=by
 have:=gh hT hm hf hb hn hs hnt (fun k=>k) bo.same h
 rwa [jR,pM,BM,pM upd]at this
section
variable {P:Program} {o:Oper} {fr:List (Nat×SV)} {hp:List (Nat×aF)}
theorem Dr {ρ:bU} {v:Value} {k i:Nat} (h:Has ρ (.ptr k 1 i 0) v):Has ρ (.ptr k 1 0 i) v:=by
 obtain⟨z,⟨b,t',h1,h2⟩,h3⟩:=h
 refine⟨z,⟨b,t',h1, ?_⟩,h3⟩
 rw[h2];simp
theorem fQ {K:SV→List (Nat×aF)→List (Nat×aF)→List (Nat×aF)→Prop} {t ty:TypeId} {x:Operand} {ti:TI} {k i:Nat} {wr:Bool} {cs l:List SV} {c:SV} (ho:o.op= .load t x) (hx:bp fr x (.ptr k 1 i 0))
  (hf:find hp k=some ⟨ty,wr,.one cs⟩) (ht:aG P t ti) (hs:sub 64 cs i ti.size=some l) (gV:ti.size≠0) (hsh:eC ti l=some c) (hK:K c [(k,⟨ty,wr,.one cs⟩)] [] []):
  ∃c fk new upd,bS P o fr fk c new upd∧(∀j b,(j,b)∈fk→find hp j=some b)∧(∀j b,(j,b)∈new→find hp j=none)∧(∀j b,(j,b)∈upd→∃b0,(j,b0)∈fk∧b0.wr=true∧b0.data.live=true∧b.wr=true)∧K c fk new upd:=
 ⟨c,_,[],[],FX (ob:=none) (i:=0) (s:=1) ho (fun ρ a h=>Dr (hx ρ a h)) ht (List.mem_singleton.2 rfl) rfl trivial hs gV hsh,dh hf,aA,ar,hK⟩
theorem La {K:SV→List (Nat×aF)→List (Nat×aF)→List (Nat×aF)→Prop} {t ty:TypeId} {x y:Operand} {ti:TI} {k i:Nat} {cs cs' nw:List SV} {sv:SV} (ho:o.op= .store t x y) (hx:bp fr x (.ptr k 1 i 0))
  (hy:bp fr y sv) (hf:find hp k=some ⟨ty,true,.one cs⟩) (ht:aG P t ti) (hc:ot sv=some nw) (hw:SV.de nw=ti.size) (hle:i+ti.size≤SV.de cs) (cc:put 64 cs i ti.size nw=some cs')
  (hK:K .any [(k,⟨ty,true,.one cs⟩)] [] [(k,⟨ty,true,.one cs'⟩)]):
  ∃c fk new upd,bS P o fr fk c new upd∧(∀j b,(j,b)∈fk→find hp j=some b)∧(∀j b,(j,b)∈new→find hp j=none)∧(∀j b,(j,b)∈upd→∃b0,(j,b0)∈fk∧b0.wr=true∧b0.data.live=true∧b.wr=true)∧K c fk new upd:=
 ⟨.any,_,[],_,Cq (ob:=none) (i:=0) (s:=1) ho (fun ρ a h=>Dr (hx ρ a h)) hy ht (List.mem_singleton.2 rfl) rfl trivial hc hw hle cc rfl,dh hf,aA,dd (List.mem_singleton.2 rfl) rfl rfl rfl,hK⟩
end
end Go.Sx
namespace Go.Proofs.YtfpagioknjjacaaGreatDoor
open Go.Sx
set_option linter.unusedSimpArgs false
set_option linter.unusedVariables false
set_option maxRecDepth 100000
set_option maxHeartbeats 40000000
abbrev wkC (r m p:Nat) (d:Rat):List SV:=[.aO 1002 1 0 r,iv m,.aO 1003 1 0 p,.frac d]
abbrev Zz (b:Bool) (r m p:Nat) (d:Rat):aF:=⟨269,b,.one (wkC r m p d)⟩
abbrev II (b:Bool) (l:List SV):aF:=⟨36,b,.one l⟩
abbrev rk (i c:Nat):SV:=.aO (1010+i) 5 0 c
abbrev ZA (b:Bool) (l:List Int):aF:=⟨3,b,.ints .i64 l⟩
abbrev HU (b:Bool) (l:List Rat):aF:=⟨52,b,.cb l⟩
abbrev uH (r c:Nat):List SV:=(List.range r).map fun i=>rk i c
def GO (b:Nat→Bool) (M:Nat→List Rat):Nat→Nat→List (Nat×aF)
 |0,_=>[]
 |n+1,i=>(1010+i,HU (b i) (M i))::GO b M n (i+1)
abbrev hpE (uW uR uP:Bool) (w:Nat→Bool) (r m c p:Nat) (d:Rat) (pv:List Int) (M:Nat→List Rat):List (Nat×aF):=
 (1001,Zz uW r m p d)::(1002,II uR (uH r c))::(1003,ZA uP pv)::GO w M r 0
theorem YW {r i k:Nat} (m c p:Nat) (d:Rat) (pv:List Int) (M:Nat→List Rat) (hr:r≤6) (hi:i<r) (hk:k<i):
  ab Tryz.prog 307 [.ptr 1001 0 0 0,iv i,iv k] (hpE true true false (fun _=>false) r m c p d pv M) (.ck []) []
   [(1001,Zz true r m p (-d)),(1002,II true (((uH r c).set i (rk k c)).set k (rk i c)))]:=by
 have k1:=Bh d
 obtain rfl|rfl|rfl|rfl|rfl:r=2∨r=3∨r=4∨r=5∨r=6:=aa
 all_goals obtain rfl|rfl|rfl|rfl|rfl:i=1∨i=2∨i=3∨i=4∨i=5:=aa
 all_goals first|omega|skip
 all_goals obtain rfl|rfl|rfl|rfl|rfl:k=0∨k=1∨k=2∨k=3∨k=4:=aa
 all_goals first|omega|skip
 all_goals
  refine Af (Z:=[]) aJ bO Tryz.func307 rfl av (cI.of rfl rfl rfl rfl rfl rfl rfl rfl rfl rfl rfl) rfl ?_
  intro W0 w0 ρ0 hE
  conv=>whnf
  (repeat((first|refine ag rfl rfl ?_|refine aq av ?_|refine aC Q3 ?_|refine aS (by assumption) ?_|refine fQ rfl (ak rfl) rfl (jz rfl) rfl (Nat.succ_ne_zero _) rfl ?_|refine La rfl (ak rfl) (ak rfl) rfl (jz rfl) rfl rfl (Nat.le_of_ble_eq_true rfl) rfl ?_);conv=>whnf))
  exact⟨au.refl _,get_nil,dH rfl (dH rfl get_nil)⟩
theorem OH (i:Int):ab Tryz.prog 307 [.ptr 1001 0 0 0,iv i,iv i] [(1001,⟨0,false,.dead⟩)] (.ck []) [] []:=by
 refine Af (Z:=[]) aJ bO Tryz.func307 rfl av (cI.of rfl rfl rfl rfl rfl rfl rfl rfl rfl rfl rfl) rfl ?_
 intro W0 w0 ρ0 hE
 conv=>whnf
 (repeat(first|(refine ae rfl rfl ?_;conv=>whnf)|(rw[bne_self_eq_false];conv=>whnf)))
 exact⟨au.refl _,get_nil,get_nil⟩
end Go.Proofs.YtfpagioknjjacaaGreatDoor
namespace Go.Sx
set_option linter.unusedSimpArgs false
set_option linter.unusedVariables false
def nb (hp:List (Nat×aF)):List Nat→List (Nat×aF)
 |[]=>[]
 |k::r=>match find hp k with
  |some b=>(k,b)::nb hp r
  |none=>nb hp r
theorem oX (hp:List (Nat×aF)):∀ks,gJ (fun k=>k) hp ks=nb hp ks
 |[]=>rfl
 |k::r=>by
  rw[gJ,nb,oX hp r]
  cases find hp k with
  |none=>rfl
  |some b=>simp only[GN]
theorem sq {E:Env} (hE:E.OK) {c:Code} {K:bI} {fr:List (Nat×SV)} {hp:List (Nat×aF)} (ts:List Nat) (I:Nat→List (Nat×SV)→List (Nat×aF)→Prop) (m:Nat)
  (h0:ig E.fx (fun k=>k) ts E.fx fr hp=true) (hI:I m (fg (fun k=>k) fr ts) (nb hp E.fx))
  (h:∀m fr hp,I m fr hp→A6 E c (fun e fr' cc=>match e with
   |.normal=>∃m',m'<m∧ig E.fx (fun k=>k) ts E.fx fr' cc=true∧I m' (fg (fun k=>k) fr' ts) (nb cc E.fx)
   |e=>K e fr' cc) fr hp):ey E (.loop c) K fr hp:=by
 refine⟨?_⟩
 refine vP hE (fun k=>k) ts E.fx h0 (A8 (fun m fr hp=>∃fr0 n7,(∀a w,RR E (fn fr hp) a w→RR E (fn fr0 n7) a w)∧I m fr0 n7) m ⟨_,_,fun _ _ h=>h,by rw[oX];exact hI⟩ ?_)
 rintro m fr hp ⟨fr0,n7,hw,hI⟩ a w hR
 refine Code.wpIn_mono ?_ (iN hE c _ fr0 n7 (h m fr0 n7 hI) a w (hw a w hR))
 rintro e a' w' ⟨fr',cc,h1,h2⟩
 cases e with
 |normal=>
  obtain⟨m',aE,IF,hI'⟩:=h1
  rw[←oX]at hI'
  exact⟨fr',cc,⟨m',aE,_,_,fun a w hR=>py hE IF hR,hI'⟩,h2⟩
 |_=>exact⟨fr',cc,h1,h2⟩
theorem kg {fx:List Nat} {σ:Nat→Nat} {ts ks:List Nat} {fr:List (Nat×SV)} {hp:List (Nat×aF)} (h1:eg ks fr ts=true) (h2:dz ks hp ks=true) (h3:(rJ σ ks&&ve σ ks fx)=true):ig fx σ ts ks fr hp=true:=by
 rw[ig,h1,h2,h3];rfl
theorem me {ks:List Nat} {hp:List (Nat×aF)}:dz ks hp []=true:=rfl
theorem bz {ks r:List Nat} {hp:List (Nat×aF)} {k:Nat} {b:aF} (h:find hp k=some b) (h1:eJ (oI b.data) ks=true) (h2:dz ks hp r=true):dz ks hp (k::r)=true:=by
 simp only[dz,h,h1,h2,Bool.and_self]
theorem Lb {l m r:List Nat}:eJ (l++m) r=(eJ l r&&eJ m r):=by
 induction l with
 |nil=>rfl
 |cons x l ih=>simp only[List.cons_append,eJ,ih,Bool.and_assoc]
theorem uI {r:List Nat}:eJ (ij []) r=true:=rfl
theorem cH {k:Nat} {b:aF} {l:List (Nat×aF)} {r:List Nat} (h:eJ (oI b.data) r=true) (h2:eJ (ij l) r=true):eJ (ij ((k,b)::l)) r=true:=by
 rw[ij,Lb,h,h2];rfl
theorem BN {A B:List SV} {x:SV} (hx:x.width=1):∀(f:Nat),(∀a∈A,a.width=1)→A.length+1<f→sub f (A++x::B) A.length 1=some [x]:=by
 induction A with
 |nil=>
  intro f _ hf
  match f,hf with
  |f+2,_=>simp[sub,hx]
 |cons a A ih=>
  intro f ha hf
  match f,hf with
  |f+1,hf=>
   have:=ih f (fun b hb=>ha b (List.mem_cons_of_mem _ hb)) (by simp only[List.length_cons]at hf;omega)
   simp only[List.cons_append,List.length_cons,sub,ha a (List.mem_cons_self ..),Nat.add_sub_cancel]
   rw[show Nat.ble 1 (A.length+1)=true from Nat.ble_eq_true_of_le aa]
   exact this
inductive WL:List SV→List SV→Prop
 |refl {l}:WL l l
 |eq {c l m}:WL l m→WL (c::l) (c::m)
 |any {c l m}:c.width=1→WL l m→WL (c::l) (.any::m)
theorem WL.has {ρ:bU} {l m:List SV} (h:WL l m):∀z,aw ρ l z→aw ρ m z:=by
 induction h with
 |refl=>exact fun _ h=>h
 |eq _ ih=>
  intro z hz
  simp only[aw]at hz ⊢
  obtain⟨x,r,rfl,h1,h2⟩:=hz
  exact⟨x,r,rfl,h1,ih r h2⟩
 |any hw _ ih=>
  intro z hz
  simp only[aw]at hz ⊢
  obtain⟨x,r,rfl,h1,h2⟩:=hz
  refine⟨x,r,rfl, ?_,ih r h2⟩
  obtain⟨g1,g2⟩:=aL.len _ x h1
  rw[hw]at g1
  match x,g1,g2 with
  |[v],_,g2=>simp only[aL];exact⟨v,rfl,g2 v (List.mem_singleton.2 rfl)⟩
inductive kH:aF→aF→Prop
 |dead {b ty}:kH b ⟨ty,false,.dead⟩
 |same {ty wr wr' d}:(wr'=true→wr=true)→kH ⟨ty,wr,d⟩ ⟨ty,wr',d⟩
 |one {ty wr wr' cs cs'}:(wr'=true→wr=true)→WL cs cs'→kH ⟨ty,wr,.one cs⟩ ⟨ty,wr',.one cs'⟩
theorem EI {p:Prop} (h:false=true):p:=by cases h
theorem kH.ok {b b':aF} (h:kH b b') {ρ:bU} {w:World} {k:Nat} (hb:hO ρ w k b):hO ρ w k b':=by
 cases h with
 |dead=>exact .inl rfl
 |same=>exact hb
 |one _ hl=>
  rcases hb with h|⟨b,t,vs,ex,h1,h2,⟨z,h3,h4⟩,h5⟩|⟨h1,h2⟩
  ·cases h
  ·exact .inr (.inl ⟨b,t,vs,ex,h1,h2,⟨z,hl.has z h3,h4⟩,h5⟩)
  ·exact .inr (.inr ⟨h1,h2⟩)
theorem kH.live {b b':aF} (h:kH b b') (hl:b'.data.live=true):b.data.live=true∧(b'.wr=true→b.wr=true):=by
 cases h with
 |dead=>cases hl
 |same g=>exact⟨hl,g⟩
 |one g _=>exact⟨rfl,g⟩
def y8 (hp:List (Nat×aF)):List (Nat×aF)→List (Nat×aF)
 |[]=>[]
 |(k,_)::r=>match find hp k with
  |some b=>(k,b)::y8 hp r
  |none=>y8 hp r
theorem xZ {hp:List (Nat×aF)}:∀{l:List (Nat×aF)} (j:Nat) (b:aF),(j,b)∈y8 hp l→find hp j=some b
 |(k,_)::r,j,b,hm=>by
  rw[y8]at hm
  cases hf:find hp k with
  |none=>rw[hf]at hm;exact xZ j b hm
  |some c=>
   rw[hf]at hm
   rcases List.mem_cons.1 hm with e|e
   ·cases e;exact hf
   ·exact xZ j b e
inductive EH (hp:List (Nat×aF)):List (Nat×aF)→Prop
 |nil:EH hp []
 |cons {k b b' l}:find hp k=some b→kH b b'→EH hp l→EH hp ((k,b')::l)
theorem EH.mem {hp l:List (Nat×aF)} (h:EH hp l):∀k b',(k,b')∈l→∃b,(k,b)∈y8 hp l∧kH b b':=by
 induction h with
 |nil=>intro _ _ h;cases h
 |cons hf hw _ ih=>
  intro j b' hm
  rw[y8,hf]
  rcases List.mem_cons.1 hm with e|e
  ·cases e;exact⟨_,List.mem_cons_self ..,hw⟩
  ·obtain⟨c,h1,h2⟩:=ih j b' e
   exact⟨c,List.mem_cons_of_mem _ h1,h2⟩
theorem oB.view {hp l new:List (Nat×aF)} {ρ:bU} {w:World} (h:EH hp l) (cc:oB (y8 hp l) new ρ w):oB l new ρ w:=by
 refine⟨fun k b hk=> ?_,fun k k' x x' b b' hk nu e1 e2 e3 e4 e5 e6=> ?_,cc.bf,fun k b x hk hw hl hx=> ?_,cc.fresh⟩
 ·obtain⟨c,h1,h2⟩:=h.mem k b hk
  exact h2.ok (cc.n0 k c h1)
 ·obtain⟨c,h1,h2⟩:=h.mem k b hk
  obtain⟨c',h1',h2'⟩:=h.mem k' b' nu
  have:=cc.sep k k' x x' c c' h1 h1' e1 e2 e3 e4 (h2.live e5).1 (h2'.live e6).1
  cases hb:b.wr with
  |false=>rfl
  |true=>rw[(h2.live e5).2 hb]at this;cases this
 ·obtain⟨c,h1,h2⟩:=h.mem k b hk
  exact cc.eV k c x h1 ((h2.live hl).2 hw) (h2.live hl).1 hx
section
variable {P:Program} {f:FuncId} {args:List SV} {c:SV} {hp:List (Nat×aF)}
theorem qe {k:SV→List (Nat×aF)→List (Nat×aF)→List (Nat×aF)→Prop} {l upd:List (Nat×aF)} (h:ab P f args l c [] upd) (hw:EH hp l) (hu:qk (y8 hp l) upd) (hk:k c (y8 hp l) [] upd):
  ∃fk c new upd,ab P f args fk c new upd∧CT hp fk∧vg hp new∧qk fk upd∧k c fk new upd:=
 ⟨y8 hp l,c,[],upd,ab.aef h fun _ _=>oB.view hw,xZ,aA,hu,hk⟩
end
theorem dm {fk upd:List (Nat×aF)} (h:zG fk upd=true) (hw:(upd.all fun x=>x.2.wr)=true):qk fk upd:=fun j b hm=>by
 obtain⟨b0,h1,h2,h3⟩:=nE h j b hm
 exact⟨b0,h1,h2,h3,List.all_eq_true.1 hw _ hm⟩
def OI (σ:Nat→Nat) (k:Nat):List Nat→Bool
 |[]=>true
 |j::r=>(Nat.beq j k|| !(Nat.beq (σ k) (σ j)))&&OI σ k r
theorem Ag {σ:Nat→Nat} {k:Nat}:∀{l:List Nat},OI σ k l=true→∀j∈l,k≠j→σ k≠σ j
 |i::r,h,j,hj,bW=>by
  simp only[OI,Bool.and_eq_true,Bool.or_eq_true,Bool.not_eq_true']at h
  rcases List.mem_cons.1 hj with rfl|hj
  ·rcases h.1 with g|g
   ·exact absurd (Nat.eq_of_beq_eq_true g).symm bW
   ·intro e;rw[e]at g;simp at g
  ·exact Ag h.2 j hj bW
def BO (σ:Nat→Nat) (ks:List Nat):List (Nat×aF)→Bool
 |[]=>true
 |(k,b)::r=>(!b.wr||OI σ k ks)&&BO σ ks r
theorem vp {σ:Nat→Nat} {ks:List Nat}:∀{l:List (Nat×aF)},BO σ ks l=true→∀q b,(q,b)∈l→b.wr=true→∀j∈ks,q≠j→σ q≠σ j
 |(k,b)::r,h,q,c,hm,hw,j,hj,bW=>by
  simp only[BO,Bool.and_eq_true,Bool.or_eq_true,Bool.not_eq_true']at h
  rcases List.mem_cons.1 hm with e|e
  ·cases e
   rcases h.1 with g|g
   ·rw[hw]at g;cases g
   ·exact Ag g j hj bW
  ·exact vp h.2 q c e hw j hj bW
theorem bo.of {fk:List (Nat×aF)} {σ:Nat→Nat} (h:BO σ (az fk) fk=true):bo fk [] σ:=
 ⟨fun q q' b b' hq AV bW hw=>vp h q b hq hw q' (aV.2 ⟨b',AV⟩) bW,(fun _ _ h=>by cases h),fun _ _ h=>by cases h⟩
end Go.Sx
namespace Go.Proofs.YtfpagioknjjacaaGreatDoor
open Go.Sx
set_option linter.unusedSimpArgs false
set_option linter.unusedVariables false
set_option maxRecDepth 100000
set_option maxHeartbeats 40000000
theorem Fj {l:List Rat} {j:Nat} {x:Rat} (h:j<l.length):(l.set j x).getD j 0=x:=by simp[List.getD_eq_getElem?_getD,h]
theorem sr {l:List Rat} {j k:Nat} {x:Rat} (h:k≠j):(l.set j x).getD k 0=l.getD k 0:=by simp[List.getD_eq_getElem?_getD,List.getElem?_set_ne (Ne.symm h)]
theorem uJ {o:List Rat} {n:Nat} {F:Nat→Rat} (hl:o.length=n) (h:∀k,k<n→o.getD k 0=F k):o=(List.range n).map F:=by
 refine List.ext_getElem (by simp[hl]) fun k h1 h2=> ?_
 have:=h k aa
 rw[List.getD_eq_getElem?_getD,List.getElem?_eq_getElem h1]at this
 simpa using this
abbrev wvB (r m:Nat) (d:Rat):aF:=⟨269,false,.one [.aO 1002 1 0 r,iv m,.any,.frac d]⟩
abbrev qB (q:Rat):aF:=⟨52,false,.one [.frac q]⟩
abbrev qp (A B:List SV) (n:Nat):List SV:=A++ .aO 1010 5 0 n::B
theorem OJ {r i:Nat} (A B:List SV) (m c:Nat) (d q:Rat) (x:List Rat) (F:Nat→Rat) (g:FuncId) (hi:A.length=i) (hA:∀a∈A,a.width=1) (hr:r≤40) (y9:i<r) (hc:c≤4096) (hx:x.length=c)
  (hR:eJ (gg (qp A B c)) [1001,1002,1006,1010]=true)
  (hf:∀k,k<c→ab Tryz.prog g ([]++([iv (k:Nat),.frac (x.getD k 0)]++[.ptr 1006 0 0 0])) [(1006,qB q)] (.frac (F k)) [] []) (σ:Nat→Nat) (hσ:bo [(1001,wvB r m d),(1002,II false (qp A B c)),(1006,qB q),(1010,HU true x)] [] σ):
  ab Tryz.prog 346 (lD σ [.ptr 1001 0 0 0,iv i,.clo g [] [.ptr 1006 0 0 0]]) (lE σ [(1001,wvB r m d),(1002,II false (qp A B c)),(1006,qB q),(1010,HU true x)]) (eW σ (.ck [])) (lE σ []) (lE σ [(1010,HU true ((List.range c).map F))]):=by
 refine gh (Z:=[]) aJ bO Tryz.func346 rfl av (cI.of rfl (by exact cH rfl (cH hR (cH rfl (cH rfl uI)))) rfl rfl rfl rfl rfl rfl rfl rfl rfl) rfl σ hσ ?_
 intro W0 w0 ρ0 hE
 have hs:sub 64 (qp A B c) A.length 1=some [.aO 1010 5 0 c]:=BN rfl 64 hA aa
 obtain⟨AA,hAA⟩:∃X,X=A:=⟨A,rfl⟩
 rcases A with _|⟨a,A⟩
 all_goals
  subst hi
  conv=>whnf
  (repeat((first|refine aC Q3 ?_|refine fQ rfl (ak rfl) rfl (jz rfl) hs (Nat.succ_ne_zero _) rfl ?_|rw[Int.toNat_natCast]|rw[Nat.zero_add]);conv=>whnf))
  refine sq hE [0,1,2,14,15,16] (fun m' fr hp=>∃(j:Nat) (o:List Rat),m'=c - j∧j≤c∧o.length=c∧(∀k,k<j→o.getD k 0=F k)∧(∀k,j≤k→o.getD k 0=x.getD k 0)∧
   fr=[(0,.ptr 1001 0 0 0),(1,iv AA.length),(2,.clo g [] [.ptr 1006 0 0 0]),(14,.aO 1010 5 0 c),(15,iv c),(16,iv (j:Nat))]∧hp=[(1001,wvB r m d),(1002,II false (qp AA B c)),(1006,qB q),(1010,HU true o)]) c ?_ ?_ ?_
  ·exact kg av (by exact bz rfl rfl (bz rfl hR (bz rfl rfl (bz rfl rfl me)))) av
  ·exact⟨0,x,rfl,Nat.zero_le _,hx,fun k h=>aa,fun k _=>rfl,by subst hAA;rfl,by subst hAA;rfl⟩
  rintro m _ _ ⟨j,o,rfl,hj,hl,ho,hu,rfl,rfl⟩
  subst hAA
  conv=>whnf
  by_cases aE:j<c
  ·have t1:=dx aE
   have t2:=br (i:=j) aa
   have hk:=hf j aE
   rw[←hu j (Nat.le_refl _)]at hk
   (repeat((first|refine aq av ?_|refine bg Q3 ?_|refine aC Q3 ?_|refine mj (by assumption) rfl ?_|refine ao t1 ?_|refine fQ rfl (ak rfl) rfl (jz rfl) hs (Nat.succ_ne_zero _) rfl ?_|rw[t1]|rw[t2]|rw[Int.toNat_natCast]|rw[Nat.zero_add]);conv=>whnf))
   refine⟨c - (j+1),aa,kg av (by exact bz rfl rfl (bz rfl hR (bz rfl rfl (bz rfl rfl me)))) av,j+1,o.set j (F j),rfl,aE,by rw[List.length_set];exact hl, ?_, ?_,rfl,rfl⟩
   ·intro k h
    by_cases e:k=j
    ·rw[e,Fj aa]
    ·rw[sr e];exact ho k aa
   ·intro k h
    rw[sr aa];exact hu k aa
  ·have t1:=dA aE
   obtain rfl:j=c:=aa
   have hx:=uJ hl ho
   (repeat(first|(refine ay t1 ?_;conv=>whnf)))
   exact⟨au.refl _,get_nil,dH (by rw[←hx];rfl) get_nil⟩
theorem fR {n:Nat} (h:sz n≤4398046511104):(af n).length<274877906944:=by
 have:=Gi (n:=n) (M:=137438953472) aa
 omega
theorem BP:mR 4398046511104 where
 qg:=aI
 cmp a b ha hb:=C3 a b (by have:=fR ha;omega) (by have:=fR hb;omega)
 add a b h:=Qt a b (by have:=fR (n:=a) (Nat.le_trans (fK aa) h);omega) (by have:=fR (n:=b) (Nat.le_trans (fK aa) h);omega)
 sub a b ha h:=Qw a b (by have:=fR ha;omega) h
 X9 a b hb h:=JY a b (by have:=fR hb;have:=gL (Nat.lt_trans h (cg b));omega) (by have:=fR hb;omega) h
 mul a b h:=Qy a b (fR aa) (fR aa)
 div a b ha hb h0:=Kb a b (fR ha) (fR hb) h0
 abH a:=JS a
 gcd a b ha hb:=QC a b (fR ha) (fR hb)
theorem acj (a b:Rat) (h:fs a+fs b≤4398046511104):ab Tryz.prog 80 [.frac a,.frac b] [] (.frac (a+b)) [] []:=J6 BP a b (by unfold fs at h;omega)
theorem Lc (a b:Rat) (h:fs a+fs b≤4398046511104):ab Tryz.prog 81 [.frac a,.frac b] [] (.frac (a*b)) [] []:=EM BP a b (by unfold fs at h;omega)
theorem QO (a b:Rat) (hb:b≠0) (h:fs a+fs b≤4398046511104):ab Tryz.prog 141 [.frac a,.frac b] [] (.ck [.frac (a/b),.val (.int .i64 0)]) [] []:=JQ BP a b hb (by unfold fs at h;omega)
theorem ack (a b:Rat) (h:fs a+fs b≤4398046511104):ab Tryz.prog 142 [.frac a,.frac b] [] (.frac (a - b)) [] []:=by
 have k1:=Bh b
 have k2:=acj a (-b) (by rw[qF];exact h)
 rw[←Rat.sub_eq_add_neg]at k2
 refine bT [] Tryz.func142 ?_
 intro W0 w0 ρ0 hE
 conv=>whnf
 (repeat(first|(refine aq av ?_;conv=>whnf)|(refine aS (by assumption) ?_;conv=>whnf)));exact Q4
theorem Ld (k:Int) (x q:Rat) (hq:q≠0) (h:fs x+fs q≤4398046511104):ab Tryz.prog 347 ([]++([iv k,.frac x]++[.ptr 1006 0 0 0])) [(1006,qB q)] (.frac (x/q)) [] []:=by
 have k1:=QO x q hq h
 refine Af (Z:=[]) aJ bO Tryz.func347 rfl av (cI.of rfl rfl rfl rfl rfl rfl rfl rfl rfl rfl rfl) rfl ?_
 intro W0 w0 ρ0 hE
 conv=>whnf
 (repeat(first|(refine aS (by assumption) ?_;conv=>whnf)))
 exact⟨au.refl _,get_nil,get_nil⟩
abbrev wbB:aF:=⟨264,false,.one [.ptr 1001 0 0 0]⟩
abbrev OL (C D:List SV) (n:Nat):List SV:=C++ .aO 1011 5 0 n::D
theorem Lf {r top k:Nat} (C D:List SV) (m c A:Nat) (d x q:Rat) (T o:List Rat) (hi:C.length=top) (hC:∀a∈C,a.width=1) (hr:r≤40) (ht:top<r) (hk:k<c) (hT:T.length=c)
  (hR:eJ (gg (OL C D c)) [1006,1005,1001,1002,1011,1010]=true) (hx:fs x≤A) (hq:fs q≤A) (hn:fs (T.getD k 0)≤2*A) (hA:4*A≤4398046511104):
  ab Tryz.prog 348 ([]++([iv (k:Nat),.frac x]++[.ptr 1006 0 0 0,.ptr 1005 0 0 0,bE [iv top]])) [(1006,qB q),(1005,wbB),(1001,wvB r m d),(1002,II false (OL C D c)),(1011,HU false T),(1010,HU false o)] (.frac (x - q*T.getD k 0)) [] []:=by
 have k1:=Lc q (T.getD k 0) aa
 have k2:=ack x (q*T.getD k 0) (by have:=eE q (T.getD k 0);omega)
 refine Af (Z:=[]) aJ bO Tryz.func348 rfl av (cI.of rfl (by exact cH rfl (cH rfl (cH rfl (cH hR (cH rfl (cH rfl uI)))))) rfl rfl rfl rfl rfl rfl rfl rfl rfl) rfl ?_
 intro W0 w0 ρ0 hE
 have hs:sub 64 (OL C D c) C.length 1=some [.aO 1011 5 0 c]:=BN rfl 64 hC aa
 rcases C with _|⟨a,C⟩
 all_goals
  subst hi
  conv=>whnf
  (repeat((first|refine aq av ?_|refine bg Q3 ?_|refine aC Q3 ?_|refine aS (by assumption) ?_|refine ah Q5 ?_|refine fQ rfl (ak rfl) rfl (jz rfl) hs (Nat.succ_ne_zero _) rfl ?_|rw[Int.toNat_natCast]|rw[Nat.zero_add]);conv=>whnf))
  exact⟨au.refl _,get_nil,get_nil⟩
end Go.Proofs.YtfpagioknjjacaaGreatDoor
namespace Go.Sx
set_option linter.unusedSimpArgs false
set_option linter.unusedVariables false
section
variable {P:Program} {f:FuncId} {args:List SV} {c:SV} {hp:List (Nat×aF)}
end
end Go.Sx
namespace Go.Proofs.YtfpagioknjjacaaGreatDoor
open Go.Sx
set_option linter.unusedSimpArgs false
set_option linter.unusedVariables false
set_option maxRecDepth 100000
set_option maxHeartbeats 40000000
abbrev YX (top:Nat):List SV:=[.ptr 1006 0 0 0,.ptr 1005 0 0 0,bE [iv top]]
abbrev fk2 (r m c:Nat) (A B:List SV) (d q:Rat) (T x:List Rat) (b:Bool):List (Nat×aF):=[(1006,qB q),(1005,wbB),(1001,wvB r m d),(1002,II false (qp A B c)),(1011,HU false T),(1010,HU b x)]
theorem OM {r i top:Nat} (A B:List SV) (m c:Nat) (d q:Rat) (x T:List Rat) (F:Nat→Rat) (g:FuncId) (hi:A.length=i) (hA:∀a∈A,a.width=1) (hr:r≤40) (y9:i<r) (hc:c≤4096) (hx:x.length=c)
  (hR:eJ (gg (qp A B c)) [1006,1005,1001,1002,1011,1010]=true)
  (hf:∀k o,k<c→ab Tryz.prog g ([]++([iv (k:Nat),.frac (x.getD k 0)]++YX top)) (fk2 r m c A B d q T o false) (.frac (F k)) [] []) (σ:Nat→Nat) (hσ:bo (fk2 r m c A B d q T x true) [] σ):
  ab Tryz.prog 346 (lD σ [.ptr 1001 0 0 0,iv i,.clo g [] (YX top)]) (lE σ (fk2 r m c A B d q T x true)) (eW σ (.ck [])) (lE σ []) (lE σ [(1010,HU true ((List.range c).map F))]):=by
 refine gh (Z:=[]) aJ bO Tryz.func346 rfl av (cI.of rfl (by exact cH rfl (cH rfl (cH rfl (cH hR (cH rfl (cH rfl uI)))))) rfl rfl rfl rfl rfl rfl rfl rfl rfl) rfl σ hσ ?_
 intro W0 w0 ρ0 hE
 have hs:sub 64 (qp A B c) A.length 1=some [.aO 1010 5 0 c]:=BN rfl 64 hA aa
 obtain⟨AA,hAA⟩:∃X,X=A:=⟨A,rfl⟩
 rcases A with _|⟨a,A⟩
 all_goals
  subst hi
  conv=>whnf
  (repeat((first|refine aC Q3 ?_|refine fQ rfl (ak rfl) rfl (jz rfl) hs (Nat.succ_ne_zero _) rfl ?_|rw[Int.toNat_natCast]|rw[Nat.zero_add]);conv=>whnf))
  refine sq hE [0,1,2,14,15,16] (fun m' fr hp=>∃(j:Nat) (o:List Rat),m'=c - j∧j≤c∧o.length=c∧(∀k,k<j→o.getD k 0=F k)∧(∀k,j≤k→o.getD k 0=x.getD k 0)∧
   fr=[(0,.ptr 1001 0 0 0),(1,iv AA.length),(2,.clo g [] (YX top)),(14,.aO 1010 5 0 c),(15,iv c),(16,iv (j:Nat))]∧hp=fk2 r m c AA B d q T o true) c ?_ ?_ ?_
  ·exact kg av (by exact bz rfl rfl (bz rfl rfl (bz rfl rfl (bz rfl hR (bz rfl rfl (bz rfl rfl me)))))) av
  ·exact⟨0,x,rfl,Nat.zero_le _,hx,fun k h=>aa,fun k _=>rfl,by subst hAA;rfl,by subst hAA;rfl⟩
  rintro m _ _ ⟨j,o,rfl,hj,hl,ho,hu,rfl,rfl⟩
  subst hAA
  conv=>whnf
  by_cases aE:j<c
  ·have t1:=dx aE
   have t2:=br (i:=j) aa
   have hk:=fun b=>hf j b aE
   rw[←hu j (Nat.le_refl _)]at hk
   (repeat((first|refine aq av ?_|refine bg Q3 ?_|refine aC Q3 ?_|refine ao t1 ?_|refine fQ rfl (ak rfl) rfl (jz rfl) hs (Nat.succ_ne_zero _) rfl ?_|refine qe (hk o) (EH.cons rfl (.same fun h=>h) (EH.cons rfl (.same fun h=>h) (EH.cons rfl (.same fun h=>h) (EH.cons rfl (.same fun h=>h) (EH.cons rfl (.same fun h=>h) (EH.cons rfl (.same EI) .nil)))))) ar ?_|rw[t1]|rw[t2]|rw[Int.toNat_natCast]|rw[Nat.zero_add]);conv=>whnf))
   refine⟨c - (j+1),aa,kg av (by exact bz rfl rfl (bz rfl rfl (bz rfl rfl (bz rfl hR (bz rfl rfl (bz rfl rfl me)))))) av,j+1,o.set j (F j),rfl,aE,by rw[List.length_set];exact hl, ?_, ?_,rfl,rfl⟩
   ·intro k h
    by_cases e:k=j
    ·rw[e,Fj aa]
    ·rw[sr e];exact ho k aa
   ·intro k h
    rw[sr aa];exact hu k aa
  ·have t1:=dA aE
   obtain rfl:j=c:=aa
   have hx:=uJ hl ho
   (repeat(first|(refine ay t1 ?_;conv=>whnf)))
   exact⟨au.refl _,get_nil,dH (by rw[←hx];rfl) get_nil⟩
theorem Ah (f:Nat→Rat):∀n,aD (n+1) f=f 0+aD n (fun i=>f (i+1))
 |0=>by simp only[aD];grind
 |n+1=>by rw[aD,Ah f n,aD];grind
theorem cv {f:Nat→Rat} {n:Nat} (h:∀i,i<n→f i=0):aD n f=0:=by
 rw[ai n h,oQ]
theorem iZ {f:Nat→Rat} {j:Nat}:∀n,j<n→(∀i,i<n→i≠j→f i=0)→aD n f=f j
 |0,h,_=>aa
 |n+1,hj,h=>by
  rw[aD]
  by_cases e:j=n
  ·subst e;rw[cv fun i hi=>h i aa aa];grind
  ·rw[iZ n aa (fun i hi hn=>h i aa hn),h n aa (fun g=>e g.symm)];grind
theorem ON {f:Nat→Rat} {j:Nat} {n:Nat} (hj:j+1<n) (h:∀i,i<n→i≠j→i≠j+1→f i=0) (h2:f j+f (j+1)=0):aD n f=0:=by
 have e:aD n f=aD n (fun i=>(if i=j then f j else 0)+(if i=j+1 then f (j+1)else 0)):=ai n fun i hi=>by
  by_cases h1:i=j
  ·subst h1;simp;grind
  ·by_cases h3:i=j+1
   ·subst h3;simp;grind
   ·rw[h i hi h1 h3,if_neg h1,if_neg h3];grind
 rw[e,sum_add,iZ (f:=fun i=>if i=j then f j else 0) (j:=j) n aa (fun i _ hn=>if_neg hn),iZ (f:=fun i=>if i=j+1 then f (j+1)else 0) (j:=j+1) n hj (fun i _ hn=>if_neg hn)]
 simp[h2]
abbrev Mx:=Nat→Nat→Rat
def sg:Nat→Rat
 |0=>1
 |n+1=> - sg n
theorem x0 (m:Nat):∀n,sg (m+n)=sg m*sg n
 |0=>by rw[sg,Nat.add_zero];grind
 |n+1=>by rw[←Nat.add_assoc,sg,sg,x0 m n];grind
theorem GP (n:Nat):sg n*sg n=1:=by
 induction n with
 |zero=>rw[sg];grind
 |succ n ih=>rw[sg];grind
def sk (k j:Nat):Nat:=if j<k then j else j+1
theorem QP (k j:Nat):sk k j≠k:=by unfold sk;split<;>omega
theorem QQ {n k j:Nat} (hj:j<n):sk k j<n+1:=by unfold sk;split<;>omega
theorem nc {k j:Nat} (h:j<k):sk k j=j:=if_pos h
theorem su {k j:Nat} (h:k≤j):sk k j=j+1:=if_neg aa
theorem acm {k l j:Nat} (h:l≤k):sk (k+1) (sk l j)=sk l (sk k j):=by
 unfold sk
 by_cases h1:j<l
 ·simp[h1,show j<k by omega,show j<k+1 by omega]
 ·by_cases h2:j<k
  ·simp[h1,h2]
  ·simp[h1,h2,show ¬j+1<l by omega]
def mn (A:Mx) (k:Nat):Mx:=fun i j=>A (i+1) (sk k j)
def bL:Nat→Mx→Rat
 |0,_=>1
 |n+1,A=>aD (n+1) fun k=>sg k*A 0 k*bL n (mn A k)
theorem cW (n:Nat) (A:Mx):bL (n+1) A=aD (n+1) fun k=>sg k*A 0 k*bL n (mn A k):=rfl
theorem aW:∀{n:Nat} {A B:Mx},(∀i k,i<n→k<n→A i k=B i k)→bL n A=bL n B
 |0,_,_,_=>rfl
 |n+1,A,B,h=>by
  rw[cW,cW]
  refine ai _ fun k hk=> ?_
  rw[h 0 k aa hk,aW (n:=n) (A:=mn A k) (B:=mn B k) (fun i j hi hj=>h _ _ aa (QQ hj))]
def setRow (A:Mx) (i:Nat) (x:Nat→Rat):Mx:=fun p q=>if p=i then x q else A p q
theorem aX (A:Mx) (i:Nat) (x:Nat→Rat):setRow A i x i=x:=by funext q;simp[setRow]
theorem aY (A:Mx) {i p:Nat} (x:Nat→Rat) (h:p≠i):setRow A i x p=A p:=by funext q;simp[setRow,h]
theorem setRow_self (A:Mx) (i:Nat):setRow A i (A i)=A:=by
 funext p q
 by_cases h:p=i
 ·subst h;rw[aX]
 ·rw[aY _ _ h]
theorem Fk (A:Mx) (i:Nat) (x y:Nat→Rat):setRow (setRow A i x) i y=setRow A i y:=by
 funext p q;unfold setRow;split<;>rfl
theorem gR (A:Mx) {i j:Nat} (x y:Nat→Rat) (h:i≠j):setRow (setRow A i x) j y=setRow (setRow A j y) i x:=by
 funext p q;unfold setRow
 by_cases h1:p=i
 ·subst h1;simp[h]
 ·simp[h1]
structure Alt (n:Nat) (F:Mx→Rat):Prop where
 congr:∀A B,(∀i k,i<n→k<n→A i k=B i k)→F A=F B
 MQ:∀A i x c y,i<n→F (setRow A i fun k=>x k+c*y k)=F (setRow A i x)+c*F (setRow A i y)
 alt:∀A i,i+1<n→(∀k,k<n→A i k=A (i+1) k)→F A=0
theorem BQ (A:Mx) (x:Nat→Rat) (k:Nat):mn (setRow A 0 x) k=mn A k:=by
 funext i j;rw[mn,aY _ _ aa];rfl
theorem Fl (A:Mx) (x:Nat→Rat) (k i:Nat):mn (setRow A (i+1) x) k=setRow (mn A k) i fun j=>x (sk k j):=by
 funext p q
 by_cases h:p=i
 ·subst h;rw[aX,mn,aX]
 ·rw[aY _ _ h,mn,aY _ _ aa];rfl
theorem wc:∀(n:Nat) (A:Mx) (i:Nat) (x:Nat→Rat) (c:Rat) (y:Nat→Rat),i<n→bL n (setRow A i fun k=>x k+c*y k)=bL n (setRow A i x)+c*bL n (setRow A i y)
 |0,_,_,_,_,_,h=>aa
 |n+1,A,0,x,c,y,_=>by
  rw[cW,cW,cW,bs,←sum_add]
  refine ai _ fun k _=> ?_
  rw[aX,aX,aX,BQ,BQ,BQ]
  grind
 |n+1,A,i+1,x,c,y,h=>by
  rw[cW,cW,cW,bs,←sum_add]
  refine ai _ fun k _=> ?_
  rw[aY _ _ aa,aY _ _ aa,aY _ _ aa,Fl,Fl,Fl,wc n _ _ _ _ _ aa]
  grind
theorem Lg (n:Nat) (T:Nat→Nat→Rat) (h:∀k l,l≤k→k<n→T (k+1) l= - T l k):aD (n+1) (fun k=>aD n (T k))=0:=by
 have e1:aD (n+1) (fun k=>aD n (T k))=aD (n+1) (fun k=>aD n fun l=>if l<k then T k l else 0)+aD (n+1) (fun k=>aD n fun l=>if l<k then 0 else T k l):=by
  rw[←sum_add]
  refine ai _ fun k _=> ?_
  rw[←sum_add]
  exact ai _ fun l _=>by split<;>grind
 have e2:aD (n+1) (fun k=>aD n fun l=>if l<k then T k l else 0)=aD n fun k=>aD n fun l=>if l<k+1 then T (k+1) l else 0:=by
  rw[Ah,cv fun l _=>if_neg aa];grind
 have e3:aD (n+1) (fun k=>aD n fun l=>if l<k then 0 else T k l)=aD n fun k=>aD n fun l=>if k<l then 0 else T l k:=by
  rw[aD,cv (f:=fun l=>if l<n then 0 else T n l) fun l hl=>if_pos hl,di];grind
 rw[e1,e2,e3,←sum_add]
 refine cv fun k hk=> ?_
 rw[←sum_add]
 refine cv fun l hl=> ?_
 by_cases h1:l≤k
 ·rw[if_pos aa,if_neg aa,h k l h1 hk];grind
 ·rw[if_neg aa,if_pos aa];grind
theorem sA:∀(n:Nat) (A:Mx) (i:Nat),i+1<n→(∀k,k<n→A i k=A (i+1) k)→bL n A=0
 |0,_,_,h,_=>aa
 |1,_,_,h,_=>aa
 |n+2,A,0,_,h=>by
  rw[cW]
  have e:∀k,k<n+2→sg k*A 0 k*bL (n+1) (mn A k)=aD (n+1) fun l=>sg k*A 0 k*(sg l*A 1 (sk k l)*bL n (mn (mn A k) l)):=fun k _=>by
   rw[cW,bs];rfl
  rw[ai _ e]
  refine Lg (n+1) (fun k l=>sg k*A 0 k*(sg l*A 1 (sk k l)*bL n (mn (mn A k) l))) fun k l hl hk=> ?_
  have e1:mn (mn A (k+1)) l=mn (mn A l) k:=by
   funext i j
   rw[mn,mn,mn,mn,acm hl]
  show sg (k+1)*A 0 (k+1)*(sg l*A 1 (sk (k+1) l)*bL n (mn (mn A (k+1)) l))= - (sg l*A 0 l*(sg k*A 1 (sk l k)*bL n (mn (mn A l) k)))
  rw[e1,nc aa,su hl,h (k+1) aa,h l aa,sg]
  grind
 |n+2,A,i+1,hi,h=>by
  rw[cW]
  refine cv fun k _=> ?_
  rw[sA (n+1) (mn A k) i aa (fun j hj=>h _ (QQ hj))];grind
theorem ed (n:Nat):Alt n (bL n):=⟨fun _ _=>aW,fun A i x c y=>wc n A i x c y,fun A i=>sA n A i⟩
section
variable {n:Nat} {F:Mx→Rat} (hF:Alt n F)
include hF
theorem Alt.add (A:Mx) {i:Nat} (x y:Nat→Rat) (hi:i<n):F (setRow A i fun k=>x k+y k)=F (setRow A i x)+F (setRow A i y):=by
 have:=hF.MQ A i x 1 y hi
 rw[show(fun k=>x k+1*y k)=fun k=>x k+y k from by funext k;grind]at this
 rw[this];grind
theorem Alt.zero (A:Mx) {i:Nat} (hi:i<n):F (setRow A i fun _=>0)=0:=by
 have:=hF.add A (fun _=>0) (fun _=>0) hi
 rw[show(fun _:Nat=>(0:Rat)+0)=fun _=>0 from by funext k;grind]at this
 grind
theorem Alt.smul (A:Mx) {i:Nat} (c:Rat) (x:Nat→Rat) (hi:i<n):F (setRow A i fun k=>c*x k)=c*F (setRow A i x):=by
 have:=hF.MQ A i (fun _=>0) c x hi
 rw[hF.zero A hi,show(fun k=>(0:Rat)+c*x k)=fun k=>c*x k from by funext k;grind]at this
 rw[this];grind
theorem Alt.sum (A:Mx) {i:Nat} (hi:i<n) (a:Nat→Rat) (e:Nat→Nat→Rat):∀m,F (setRow A i fun k=>aD m fun p=>a p*e p k)=aD m fun p=>a p*F (setRow A i (e p))
 |0=>by simp only[aD];exact hF.zero A hi
 |m+1=>by
  simp only[aD]
  rw[hF.MQ A i (fun k=>aD m fun p=>a p*e p k) (a m) (e m) hi,Alt.sum A hi a e m]
def aP (A:Mx) (i j:Nat):Mx:=fun p=>if p=i then A j else if p=j then A i else A p
omit hF in
theorem Lh (A:Mx) {i j:Nat} (h:i≠j):aP A i j=setRow (setRow A i (A j)) j (A i):=by
 funext p q
 unfold aP
 by_cases h1:p=i
 ·subst h1;rw[if_pos rfl,aY _ _ h,aX]
 ·by_cases h2:p=j
  ·subst h2;rw[if_neg h1,if_pos rfl,aX]
  ·rw[if_neg h1,if_neg h2,aY _ _ h2,aY _ _ h1]
theorem Alt.GQ (A:Mx) {i j:Nat} (hi:i<n) (hj:j<n) (bW:i≠j) (h0:∀x,F (setRow (setRow A i x) j x)=0):F (aP A i j)= - F A:=by
 have h1:=h0 (fun k=>A i k+A j k)
 rw[hF.add _ _ _ hj,gR _ _ _ bW,hF.add _ _ _ hi,gR _ _ _ bW,hF.add _ _ _ hi,
  gR _ _ _ bW.symm,h0,gR _ _ _ bW.symm,gR _ _ _ bW.symm,gR _ _ _ bW.symm,h0]at h1
 have e1:setRow (setRow A i (A i)) j (A j)=A:=by rw[setRow_self,setRow_self]
 rw[←Lh A bW]at h1
 rw[e1]at h1
 grind
theorem Alt.QR (A:Mx) {i:Nat} (hi:i+1<n):F (aP A i (i+1))= - F A:=
 hF.GQ A aa hi aa fun x=>hF.alt _ i hi fun k _=>by rw[aY _ _ aa,aX,aX]
theorem Alt.same (d:Nat):∀(A:Mx) (i:Nat),i+d+1<n→(∀k,k<n→A i k=A (i+d+1) k)→F A=0:=by
 induction d with
 |zero=>exact fun A i hi h=>hF.alt A i hi h
 |succ d ih=>
  intro A i hi h
  have h1:=ih (aP A (i+d+1) (i+d+1+1)) i aa fun k hk=>by
   unfold aP
   rw[if_neg aa,if_neg aa,if_pos rfl];exact h k hk
  rw[hF.QR A aa]at h1
  grind
theorem Alt.eq (A:Mx) {i j:Nat} (hi:i<n) (hj:j<n) (bW:i≠j) (h:∀k,k<n→A i k=A j k):F A=0:=by
 rcases Nat.lt_or_gt_of_ne bW with g|g
 ·exact hF.same (j - i - 1) A i aa fun k hk=>by rw[show i+(j - i - 1)+1=j by omega];exact h k hk
 ·exact hF.same (i - j - 1) A j aa fun k hk=>by rw[show j+(i - j - 1)+1=i by omega];exact(h k hk).symm
theorem Alt.swap (A:Mx) {i j:Nat} (hi:i<n) (hj:j<n) (bW:i≠j):F (aP A i j)= - F A:=
 hF.GQ A hi hj bW fun x=>hF.eq _ hi hj bW fun k _=>by rw[aY _ _ bW,aX,aX]
theorem Alt.BR (A:Mx) {i j:Nat} (c:Rat) (hi:i<n) (hj:j<n) (bW:i≠j):F (setRow A i fun k=>A i k+c*A j k)=F A:=by
 rw[hF.MQ A i (A i) c (A j) hi,setRow_self,hF.eq (setRow A i (A j)) hi hj bW fun k _=>by rw[aX,aY _ _ (fun h=>bW h.symm)]]
 grind
def kY (k:Nat) (A:Mx):Mx:=fun i=>if i=0 then A k else if i≤k then A (i - 1)else A i
theorem Alt.top:∀(k:Nat) (A:Mx),k<n→F (kY k A)=sg k*F A
 |0,A,_=>by
  rw[show kY 0 A=A from by
   funext i;unfold kY
   by_cases h:i=0
   ·rw[if_pos h,h]
   ·rw[if_neg h,if_neg aa],sg]
  grind
 |k+1,A,h=>by
  have e:kY (k+1) A=kY k (aP A k (k+1)):=by
   funext i;unfold kY aP
   by_cases h1:i=0
   ·rw[if_pos h1,if_pos h1,if_pos rfl]
   ·rw[if_neg h1,if_neg h1]
    by_cases h2:i≤k
    ·rw[if_pos aa,if_pos h2,if_neg aa,if_neg aa]
    ·rw[if_neg h2]
     by_cases h3:i=k+1
     ·subst h3;rw[if_pos aa,if_neg aa,if_pos rfl];rfl
     ·rw[if_neg aa,if_neg aa,if_neg h3]
  rw[e,Alt.top k _ aa,hF.QR A h,sg]
  grind
end
def un (k q:Nat):Nat:=if q<k then q else q - 1
theorem acn (k j:Nat):un k (sk k j)=j:=by
 unfold un sk
 by_cases h:j<k
 ·rw[if_pos h,if_pos h]
 ·rw[if_neg h,if_neg aa];rfl
theorem QS {k q:Nat} (h:q≠k):sk k (un k q)=q:=by
 unfold un sk
 by_cases h1:q<k
 ·rw[if_pos h1,if_pos h1]
 ·rw[if_neg h1,if_neg aa];omega
theorem Li {n k q:Nat} (hq:q<n+1) (hk:k<n+1) (h:q≠k):un k q<n:=by unfold un;split<;>omega
def sC (k:Nat) (B:Mx):Mx:=fun i q=>if i=0 then delta k q else if q=k then 0 else B (i - 1) (un k q)
theorem x4 (k:Nat) (B:Mx) (i:Nat) (x:Nat→Rat):sC k (setRow B i x)=setRow (sC k B) (i+1) fun q=>if q=k then 0 else x (un k q):=by
 funext p q
 by_cases h:p=i+1
 ·subst h
  rw[aX,sC,if_neg aa,show i+1 - 1=i by omega,aX]
 ·rw[aY _ _ h,sC,sC]
  by_cases h0:p=0
  ·rw[if_pos h0,if_pos h0]
  ·rw[if_neg h0,if_neg h0,aY _ _ aa]
theorem Alt.sC {n:Nat} {F:Mx→Rat} (hF:Alt (n+1) F) {k:Nat} (hk:k<n+1):Alt n fun B=>F (sC k B) where
 congr:=fun A B h=>hF.congr _ _ fun i q hi hq=>by
  unfold Go.Proofs.YtfpagioknjjacaaGreatDoor.sC
  by_cases h0:i=0
  ·rw[if_pos h0,if_pos h0]
  ·rw[if_neg h0,if_neg h0]
   by_cases h1:q=k
   ·rw[if_pos h1,if_pos h1]
   ·rw[if_neg h1,if_neg h1];exact h _ _ aa (Li hq hk h1)
 MQ:=fun A i x c y hi=>by
  show F _=F _+c*F _
  rw[x4,x4,x4,←hF.MQ _ _ _ _ _ aa]
  congr 2
  funext q
  by_cases h:q=k
  ·rw[if_pos h,if_pos h,if_pos h];grind
  ·rw[if_neg h,if_neg h,if_neg h]
 alt:=fun A i hi h=>hF.alt _ (i+1) aa fun q hq=>by
  unfold Go.Proofs.YtfpagioknjjacaaGreatDoor.sC
  rw[if_neg (show ¬i+1=0 by omega),if_neg (show ¬i+1+1=0 by omega)]
  by_cases h1:q=k
  ·rw[if_pos h1,if_pos h1]
  ·rw[if_neg h1,if_neg h1];exact h _ (Li hq hk h1)
theorem kZ:∀(n:Nat) (F:Mx→Rat),Alt n F→∀A,F A=F delta*bL n A
 |0,F,hF,A=>by rw[hF.congr A delta fun i k hi=>aa,bL];grind
 |n+1,F,hF,A=>by
  have e0:F A=aD (n+1) fun k=>A 0 k*F (setRow A 0 (delta k)):=by
   rw[←hF.sum A aa (A 0) delta (n+1)]
   refine hF.congr _ _ fun i q hi hq=> ?_
   by_cases h:i=0
   ·subst h;rw[aX,eF,if_pos hq]
   ·rw[aY _ _ h]
  rw[e0,cW,bs]
  refine ai _ fun k hk=> ?_
  have e1:∀m,m≤n→F (setRow A 0 (delta k))=F (fun i q=>if i=0 then delta k q else if i≤m∧q=k then 0 else A i q):=by
   intro m
   induction m with
   |zero=>
    intro _
    refine hF.congr _ _ fun i q _ _=> ?_
    by_cases h:i=0
    ·subst h;rw[aX,if_pos rfl]
    ·rw[aY _ _ h,if_neg h,if_neg aa]
   |succ m ih=>
    intro hm
    rw[ih aa,←hF.BR (i:=m+1) (j:=0) (fun i q=>if i=0 then delta k q else if i≤m∧q=k then 0 else A i q) (- A (m+1) k) aa aa aa]
    refine hF.congr _ _ fun i q _ _=> ?_
    by_cases h:i=m+1
    ·subst h
     rw[aX,if_neg aa,if_neg aa,if_pos rfl,if_neg aa]
     by_cases hq:q=k
     ·subst hq;rw[if_pos ⟨Nat.le_refl _,rfl⟩];simp[delta];grind
     ·rw[if_neg (fun g=>hq g.2),delta,if_neg (fun g=>hq g.symm)];grind
    ·rw[aY _ _ h]
     by_cases h0:i=0
     ·rw[if_pos h0,if_pos h0]
     ·rw[if_neg h0,if_neg h0]
      by_cases g:i≤m∧q=k
      ·rw[if_pos g,if_pos ⟨aa,g.2⟩]
      ·rw[if_neg g,if_neg (fun g2=>g ⟨aa,g2.2⟩)]
  have e2:F (setRow A 0 (delta k))=F (sC k (mn A k)):=by
   rw[e1 n (Nat.le_refl _)]
   refine hF.congr _ _ fun i q hi _=> ?_
   unfold sC
   by_cases h0:i=0
   ·rw[if_pos h0,if_pos h0]
   ·rw[if_neg h0,if_neg h0]
    by_cases hq:q=k
    ·rw[if_pos ⟨aa,hq⟩,if_pos hq]
    ·rw[if_neg (fun g=>hq g.2),if_neg hq,mn,QS hq,show i - 1+1=i by omega]
  have e3:F (sC k delta)=sg k*F delta:=by
   rw[←hF.top k delta hk]
   refine hF.congr _ _ fun i q hi _=> ?_
   unfold sC kY
   by_cases h0:i=0
   ·rw[if_pos h0,if_pos h0]
   ·rw[if_neg h0,if_neg h0]
    by_cases hq:q=k
    ·rw[if_pos hq,hq]
     by_cases h1:i≤k
     ·rw[if_pos h1,delta,if_neg aa]
     ·rw[if_neg h1,delta,if_neg aa]
    ·rw[if_neg hq]
     unfold un delta
     by_cases h1:i≤k
     ·rw[if_pos h1]
      by_cases h2:q<k
      ·rw[if_pos h2]
      ·rw[if_neg h2,if_neg aa,if_neg aa]
     ·rw[if_neg h1]
      by_cases h2:q<k
      ·rw[if_pos h2,if_neg aa,if_neg aa]
      ·rw[if_neg h2]
       by_cases h3:i=q
       ·rw[if_pos aa,if_pos h3]
       ·rw[if_neg aa,if_neg h3]
  rw[e2,kZ n _ (hF.sC hk) (mn A k),e3]
  grind
theorem ja:∀n,bL n delta=1
 |0=>rfl
 |n+1=>by
  rw[cW,iZ (j:=0) (n+1) aa fun i _ hi=>by rw[delta,if_neg fun h=>hi h.symm];grind]
  rw[sg,aW (A:=mn delta 0) (B:=delta) fun i k _ _=>by
   show delta (i+1) (sk 0 k)=_
   rw[su aa];unfold delta
   by_cases h:i=k
   ·rw[if_pos aa,if_pos h]
   ·rw[if_neg aa,if_neg h],ja n]
  simp[delta]
def pr (n:Nat) (A B:Mx):Mx:=fun i k=>aD n fun p=>A i p*B p k
theorem sD (n:Nat) (A B:Mx):bL n (pr n A B)=bL n A*bL n B:=by
 have h:Alt n fun A=>bL n (pr n A B):={
  congr:=fun A A' h=>aW fun i k hi hk=>ai n fun p hp=>by rw[h i p hi hp]
  MQ:=fun A i x c y hi=>by
   have e:∀z,pr n (setRow A i z) B=setRow (pr n A B) i fun k=>aD n fun p=>z p*B p k:=fun z=>by
    funext p q
    by_cases h:p=i
    ·subst h;rw[aX,pr];simp only[aX]
    ·rw[aY _ _ h];unfold pr;simp only[aY _ _ h]
   show bL n _=bL n _+c*bL n _
   rw[e,e,e,←wc n _ _ _ _ _ hi]
   congr 2
   funext k
   rw[bs,←sum_add]
   exact ai n fun p _=>by grind
  alt:=fun A i hi h=>sA n _ i hi fun k _=>ai n fun p hp=>by rw[h p hp]}
 rw[kZ n _ h A]
 show bL n (pr n delta B)*bL n A=_
 rw[aW (A:=pr n delta B) (B:=B) fun i k hi _=>by rw[pr,c7,if_pos hi]]
 grind
def mq (A:Mx) (j:Nat) (x:Nat→Rat):Mx:=fun p q=>if q=j then x p else A p q
theorem nR (A:Mx) (x:Nat→Rat) (k:Nat):mn (mq A k x) k=mn A k:=by
 funext i j;rw[mn,mq,if_neg (QP _ _)];rfl
theorem uK (A:Mx) (x:Nat→Rat) {j k:Nat} (h:j≠k):mn (mq A j x) k=mq (mn A k) (un k j) fun p=>x (p+1):=by
 funext p q
 unfold mn mq
 by_cases e:sk k q=j
 ·rw[if_pos e,if_pos (by rw[←e,acn])]
 ·rw[if_neg e,if_neg fun g=>e (by rw[g,QS h])]
theorem x5:∀(n:Nat) (A:Mx) (j:Nat) (x:Nat→Rat) (c:Rat) (y:Nat→Rat),j<n→bL n (mq A j fun k=>x k+c*y k)=bL n (mq A j x)+c*bL n (mq A j y)
 |0,_,_,_,_,_,h=>aa
 |n+1,A,j,x,c,y,hj=>by
  rw[cW,cW,cW,bs,←sum_add]
  refine ai _ fun k hk=> ?_
  by_cases h:j=k
  ·subst h
   rw[nR,nR,nR]
   simp only[mq,if_true]
   grind
  ·rw[uK _ _ h,uK _ _ h,uK _ _ h,x5 n _ _ _ _ _ (Li hj hk h)]
   simp only[mq,if_neg fun g=>h (Eq.symm g)]
   grind
theorem qL:∀(n:Nat) (A:Mx) (j:Nat),j+1<n→(∀i,i<n→A i j=A i (j+1))→bL n A=0
 |0,_,_,h,_=>aa
 |n+1,A,j,hj,h=>by
  rw[cW]
  refine ON hj (fun k hk h1 h2=> ?_) ?_
  ·have:bL n (mn A k)=0:=by
    rcases Nat.lt_or_gt_of_ne h1 with g|g
    ·refine qL n _ (j - 1) aa fun i hi=> ?_
     show A (i+1) (sk k (j - 1))=A (i+1) (sk k (j - 1+1))
     rw[su aa,su aa,show j - 1+1=j by omega]
     exact h _ aa
    ·refine qL n _ j aa fun i hi=> ?_
     show A (i+1) (sk k j)=A (i+1) (sk k (j+1))
     rw[nc aa,nc aa]
     exact h _ aa
   rw[this];grind
  ·have:bL n (mn A j)=bL n (mn A (j+1)):=aW fun i q hi _=>by
    unfold mn
    by_cases e:q=j
    ·subst e;rw[su (Nat.le_refl _),nc (Nat.lt_succ_self _)];exact(h _ aa).symm
    ·by_cases g:q<j
     ·rw[nc g,nc aa]
     ·rw[su aa,su aa]
   rw[this,h 0 aa,sg];grind
def tr (A:Mx):Mx:=fun i k=>A k i
theorem ld (n:Nat) (A:Mx):bL n (tr A)=bL n A:=by
 have h:Alt n fun A=>bL n (tr A):={
  congr:=fun A A' h=>aW fun i k hi hk=>h k i hk hi
  MQ:=fun A i x c y hi=>x5 n (tr A) i x c y hi
  alt:=fun A i hi h=>qL n (tr A) i hi h}
 rw[kZ n _ h A]
 show bL n (tr delta)*bL n A=_
 rw[aW (A:=tr delta) (B:=delta) fun i k _ _=>qI k i,ja];grind
def Ec (A:Mx) (r k:Nat):Mx:=fun i j=>A (sk r i) (sk k j)
theorem BS (n:Nat) (A:Mx) {r:Nat} (hr:r<n+1):bL (n+1) A=aD (n+1) fun k=>sg (r+k)*A r k*bL n (Ec A r k):=by
 have h:=(ed (n+1)).top r A hr
 have h2:bL (n+1) A=sg r*bL (n+1) (kY r A):=by rw[h,←Rat.mul_assoc,GP];grind
 rw[h2,cW,bs]
 refine ai _ fun k _=> ?_
 have e:mn (kY r A) k=Ec A r k:=by
  funext i j
  unfold mn Ec kY
  rw[if_neg aa]
  by_cases g:i<r
  ·rw[if_pos aa,nc g];rfl
  ·rw[if_neg aa,su (k:=r) aa]
 rw[e,x0,show kY r A 0=A r from rfl];grind
theorem YY (A:Mx) (r k:Nat):Ec (tr A) r k=tr (Ec A k r):=rfl
def vq (n:Nat) (A:Mx):Mx:=fun i k=>sg (i+k)*bL (n - 1) (Ec A k i)
theorem YZ (n:Nat) (A:Mx) (i k:Nat):vq n (tr A) i k=vq n A k i:=by
 rw[vq,vq,YY,ld,Nat.add_comm]
theorem OO (A:Mx) (r k:Nat) (x:Nat→Rat):Ec (setRow A r x) r k=Ec A r k:=by
 funext i j;rw[Ec,aY _ _ (QP _ _)];rfl
theorem OP {n:Nat} (A:Mx) {i k:Nat} (hi:i<n) (hk:k<n):pr n A (vq n A) i k=if i=k then bL n A else 0:=by
 obtain⟨m,rfl⟩:∃m,n=m+1:=⟨n - 1,aa⟩
 have h:pr (m+1) A (vq (m+1) A) i k=bL (m+1) (setRow A k (A i)):=by
  rw[BS m _ hk]
  refine ai _ fun p _=> ?_
  rw[OO,aX,vq,Nat.add_comm k p,show m+1 - 1=m from rfl];grind
 rw[h]
 by_cases e:i=k
 ·subst e;rw[setRow_self,if_pos rfl]
 ·rw[if_neg e,(ed (m+1)).eq _ hi hk e fun q _=>by rw[aY _ _ e,aX]]
theorem sE {n:Nat} (A:Mx) {i k:Nat} (hi:i<n) (hk:k<n):pr n (vq n A) A i k=if i=k then bL n A else 0:=by
 have h:=OP (tr A) hk hi
 rw[ld]at h
 have e:pr n (vq n A) A i k=pr n (tr A) (vq n (tr A)) k i:=ai _ fun p _=>by rw[YZ,Rat.mul_comm];rfl
 rw[e,h]
 by_cases g:i=k
 ·rw[if_pos g,if_pos g.symm]
 ·rw[if_neg g,if_neg (fun h=>g h.symm)]
def pN:List Rat→Rat→Rat
 |[],_=>0
 |a::l,t=>a+t*pN l t
def iU (f:Rat→Rat):Prop:=∃l,∀t,f t=pN l t
theorem iU.const (c:Rat):iU fun _=>c:=⟨[c],fun t=>by simp only[pN];grind⟩
theorem iU.id:iU fun t=>t:=⟨[0,1],fun t=>by simp only[pN];grind⟩
def x6:List Rat→List Rat→List Rat
 |[],l=>l
 |l,[]=>l
 |a::l,b::m=>(a+b)::x6 l m
theorem x7:∀(l m:List Rat) (t:Rat),pN (x6 l m) t=pN l t+pN m t
 |[],m,t=>by rw[x6,pN];grind
 |a::l,[],t=>by rw[x6];simp only[pN];grind;simp
 |a::l,b::m,t=>by rw[x6];simp only[pN];rw[x7 l m t];grind
theorem Dt:∀(l m:List Rat) (d:Nat),l.length≤d→m.length≤d→(x6 l m).length≤d
 |[],m,d,_,h=>by rw[x6];exact h
 |a::l,[],d,h,_=>by rw[x6];exact h;simp
 |a::l,b::m,0,h,_=>by simp at h
 |a::l,b::m,d+1,h1,h2=>by rw[x6,List.length_cons];have:=Dt l m d (by simpa using h1) (by simpa using h2);omega
theorem BT (c:Rat):∀(l:List Rat) (t:Rat),pN (l.map (c*·)) t=c*pN l t
 |[],t=>by simp only[List.map_nil,pN];grind
 |a::l,t=>by simp only[List.map_cons,pN];rw[BT c l t];grind
theorem iU.add {f g:Rat→Rat} (hf:iU f) (hg:iU g):iU fun t=>f t+g t:=by
 obtain⟨l,hl⟩:=hf;obtain⟨m,hm⟩:=hg
 exact⟨x6 l m,fun t=>by show f t+g t=_;rw[x7,hl,hm]⟩
theorem iU.smul {f:Rat→Rat} (c:Rat) (hf:iU f):iU fun t=>c*f t:=by
 obtain⟨l,hl⟩:=hf
 exact⟨l.map (c*·),fun t=>by show c*f t=_;rw[BT,hl]⟩
theorem iU.x {f:Rat→Rat} (hf:iU f):iU fun t=>t*f t:=by
 obtain⟨l,hl⟩:=hf
 exact⟨0::l,fun t=>by show t*f t=_;rw[pN,hl];grind⟩
theorem iU.mul {f g:Rat→Rat} (hf:iU f) (hg:iU g):iU fun t=>f t*g t:=by
 obtain⟨l,hl⟩:=hf
 have:∀l:List Rat,iU fun t=>pN l t*g t:=by
  intro l
  induction l with
  |nil=>exact⟨[],fun t=>by simp only[pN];grind⟩
  |cons a l ih=>
   obtain⟨m,hm⟩:=(hg.smul a).add ih.x
   exact⟨m,fun t=>by rw[←hm t];simp only[pN];grind⟩
 obtain⟨m,hm⟩:=this l
 exact⟨m,fun t=>by show f t*g t=_;rw[hl];exact hm t⟩
theorem iU.sub {f g:Rat→Rat} (hf:iU f) (hg:iU g):iU fun t=>f t - g t:=by
 obtain⟨m,hm⟩:=hf.add (hg.smul (-1))
 exact⟨m,fun t=>by rw[←hm t];grind⟩
theorem iU.sum {f:Nat→Rat→Rat}:∀n,(∀i,i<n→iU (f i))→iU fun t=>aD n fun i=>f i t
 |0,_=>⟨[],fun t=>by simp only[aD,pN]⟩
 |n+1,h=>(iU.sum n fun i hi=>h i aa).add (h n aa)
theorem iU.bL {A:Rat→Mx}:∀n,(∀i k,iU fun t=>A t i k)→iU fun t=>bL n (A t)
 |0,_=>iU.const 1
 |n+1,h=>iU.sum (n+1) fun k _=>((h 0 k).smul (sg k)).mul (iU.bL (A:=fun t=>mn (A t) k) n fun _ _=>h _ _)
def qd (s:Rat):List Rat→List Rat
 |[]=>[]
 |_::l=>x6 l ((qd s l).map (s*·))
theorem Lj (s:Rat):∀(l:List Rat),(qd s l).length≤l.length - 1
 |[]=>by simp[qd]
 |a::l=>by
  rw[qd]
  refine Dt _ _ _ (by simp) ?_
  rw[List.length_map];have:=Lj s l;simp;omega
theorem GR (s:Rat):∀(l:List Rat) (t:Rat),pN l t - pN l s=(t - s)*pN (qd s l) t
 |[],t=>by simp only[pN,qd];grind
 |a::l,t=>by
  have:=GR s l t
  rw[qd,x7,BT];simp only[pN];grind
theorem Du:∀(d N:Nat) (l:List Rat),l.length≤d→(∀n:Nat,N≤n→pN l n=0)→∀t,pN l t=0
 |0,_,l,hl,_,t=>by
  obtain rfl:l=[]:=List.eq_nil_of_length_eq_zero aa
  rfl
 |d+1,N,l,hl,h,t=>by
  have h1:=GR (N:Rat) l
  rw[h N (Nat.le_refl _)]at h1
  have h2:=Du d (N+1) (qd N l) (by have:=Lj (N:Rat) l;omega) fun n hn=>by
   have:=h1 n
   rw[h n aa]at this
   have bW:(n:Rat) - N≠0:=by
    intro e
    have:(n:Rat)=N:=by grind
    have:=Rat.natCast_inj.1 this
    omega
   have h0:((n:Rat) - N)*pN (qd N l) n=0:=by rw[←this];grind
   rcases Rat.mul_eq_zero.1 h0 with g|g
   ·exact absurd g bW
   ·exact g
  have:=h1 t
  rw[h2 t]at this
  grind
theorem iU.zero {f:Rat→Rat} (hf:iU f) (N:Nat) (h:∀n:Nat,N≤n→f n=0) (t:Rat):f t=0:=by
 obtain⟨l,hl⟩:=hf
 rw[hl];exact Du _ N l (Nat.le_refl _) (fun n hn=>by rw[←hl];exact h n hn) t
theorem iU.ug {f h:Rat→Rat} (hf:iU f) (hh:iU h) (h0:h 0≠0) (H:∀s,h s≠0→f s=0) (t:Rat):f t=0:=by
 have key:∀l:List Rat,(∀t,pN l t*h t=0)→∀t,pN l t=0:=by
  intro l
  induction l with
  |nil=>intro _ t;rfl
  |cons a l ih=>
   intro hz t
   have h1:=hz 0
   simp only[pN]at h1
   have ha:a=0:=by
    rcases Rat.mul_eq_zero.1 h1 with g|g
    ·grind
    ·exact absurd g h0
   have hp:iU fun t=>pN l t*h t:=iU.mul ⟨l,fun _=>rfl⟩ hh
   have h2:=ih fun t=>hp.zero 1 (fun n hn=>by
    have h3:=hz n
    simp only[pN]at h3
    rw[ha]at h3
    have h4:(n:Rat)*(pN l n*h n)=0:=by grind
    rcases Rat.mul_eq_zero.1 h4 with g|g
    ·have:=Rat.natCast_inj.1 (show(n:Rat)=(0:Nat) by rw[g];rfl)
     omega
    ·exact g) t
   simp only[pN];rw[ha,h2 t];grind
 obtain⟨l,hl⟩:=hf
 rw[hl]
 refine key l (fun t=> ?_) t
 by_cases g:h t=0
 ·rw[g];grind
 ·rw[←hl,H t g];grind
def BU (A:Mx) (s:Rat):Mx:=fun i k=>s*A i k+(1 - s)*delta i k
theorem x8 (A:Mx) (i k:Nat):iU fun s=>BU A s i k:=(iU.id.mul (iU.const _)).add (((iU.const 1).sub iU.id).mul (iU.const _))
theorem Lk (A:Mx):BU A 1=A:=by funext i k;unfold BU;grind
theorem HV (A:Mx):BU A 0=delta:=by funext i k;unfold BU;grind
theorem generic (s:Nat) (A:Mx) (f:Mx→Rat) (hp:iU fun t=>f (BU A t)) (h:∀B,bL s B≠0→f B=0):f A=0:=by
 have:=hp.ug (h:=fun t=>bL s (BU A t)) (iU.bL s (x8 A)) (by show bL s (BU A 0)≠0;rw[HV,ja];decide) (fun t ht=>h _ ht) 1
 rwa [Lk]at this
theorem Alt.we {n:Nat} {F:Mx→Rat} (hF:Alt n F) (A:Mx) {i:Nat} (c:Nat→Rat) (hi:i<n):∀m,m≤i→F (setRow A i fun k=>A i k+aD m fun p=>c p*A p k)=F A
 |0,_=>by
  simp only[aD]
  rw[show(fun k=>A i k+0)=A i from by funext k;grind,setRow_self]
 |m+1,h=>by
  have h1:=hF.BR (i:=i) (j:=m) (setRow A i fun k=>A i k+aD m fun p=>c p*A p k) (c m) hi aa aa
  rw[aX,Fk,aY _ _ aa,Alt.we hF A c hi m aa]at h1
  rw[←h1]
  congr 2
  funext k
  simp only[aD];grind
theorem Dv {n:Nat} {A:Mx} (h:∀k,k<n→A n k=0):bL (n+1) A=A n n*bL n A:=by
 rw[BS n A (r:=n) aa,iZ (j:=n) (n+1) aa fun k hk bW=>by rw[h k aa];grind,x0,GP]
 rw[aW (A:=Ec A n n) (B:=A) fun i j hi hj=>by unfold Ec;rw[nc hi,nc hj]]
 grind
theorem HW {n:Nat} {A:Mx} (h:∀k,k<n→A (n+1) k=0):bL (n+2) A=A (n+1) (n+1)*bL (n+1) A - A (n+1) n*bL (n+1) (fun i j=>A i (if j<n then j else n+1)):=by
 rw[BS (n+1) A (r:=n+1) aa,aD,aD,cv fun k hk=>by rw[h k hk];grind]
 rw[aW (A:=Ec A (n+1) n) (B:=fun i j=>A i (if j<n then j else n+1)) fun i j hi hj=>by
  unfold Ec;rw[nc hi]
  by_cases g:j<n
  ·rw[nc g,if_pos g]
  ·rw[su aa,if_neg g,show j=n by omega]]
 rw[aW (A:=Ec A (n+1) (n+1)) (B:=A) fun i j hi hj=>by unfold Ec;rw[nc hi,nc hj]]
 rw[show n+1+n=(n+n)+1 by omega,sg,x0,GP,x0,GP]
 grind
def gn (s i a:Nat):Nat:=if a<s then a else s+i
def bm (s:Nat) (A:Mx) (i k:Nat):Rat:=bL (s+1) fun a b=>A (gn s i a) (gn s k b)
theorem aco (s:Nat) (A:Mx) (i k:Nat):bm s (tr A) i k=bm s A k i:=by
 unfold bm;rw[←ld];rfl
theorem OQ (A:Mx) (i k:Nat):bm 0 A i k=A i k:=by
 unfold bm gn
 rw[cW,aD,aD,bL,sg]
 simp only[Nat.not_lt_zero,if_false,Nat.zero_add];grind
theorem Dw (s:Nat) (A:Mx):bm s A 0 0=bL (s+1) A:=aW fun a b ha hb=>by
 have e:∀x,x<s+1→gn s 0 x=x:=fun x hx=>by unfold gn;split<;>omega
 rw[e a ha,e b hb]
section
variable {s:Nat} {A:Mx} (hd:bL s A≠0)
include hd
def xs (s:Nat) (A:Mx) (r:Nat→Rat) (p:Nat):Rat:=aD s fun q=>r q*(vq s A q p*(bL s A)⁻¹)
theorem Fm (r:Nat→Rat) {b:Nat} (hb:b<s):aD s (fun p=>xs s A r p*A p b)=r b:=by
 have e1:aD s (fun p=>xs s A r p*A p b)=aD s fun p=>aD s fun q=>r q*(vq s A q p*(bL s A)⁻¹)*A p b:=
  ai s fun p _=>by rw[xs,dL]
 have e2:∀q,q<s→aD s (fun p=>r q*(vq s A q p*(bL s A)⁻¹)*A p b)=r q*delta q b:=fun q hq=>by
  have h1:=sE A hq hb
  unfold pr at h1
  rw[ai s (g:=fun p=>(r q*(bL s A)⁻¹)*(vq s A q p*A p b)) fun p _=>by grind,←bs,h1,delta]
  split
  ·have:=Rat.mul_inv_cancel _ hd;grind
  ·grind
 rw[e1,di,ai s e2,eF,if_pos hb]
def MR (s:Nat) (A:Mx) (i k:Nat):Rat:=A (s+i) (s+k) - aD s fun p=>xs s A (A (s+i)) p*A p (s+k)
theorem qM (i k:Nat):bm s A i k=bL s A*MR s A i k:=by
 have h:=(ed (s+1)).we (fun a b=>A (gn s i a) (gn s k b)) (i:=s) (fun p=> - xs s A (A (s+i)) p) aa s (Nat.le_refl _)
 rw[bm,←h]
 have e:∀b,(A (gn s i s) (gn s k b)+aD s fun p=> - xs s A (A (s+i)) p*A (gn s i p) (gn s k b))=A (s+i) (gn s k b) - aD s fun p=>xs s A (A (s+i)) p*A p (gn s k b):=fun b=>by
  rw[gn,if_neg aa,ai s (g:=fun p=>(-1)*(xs s A (A (s+i)) p*A p (gn s k b))) fun p hp=>by rw[gn,if_pos hp];grind,←bs]
  grind
 rw[Dv fun b hb=>by rw[aX,e];rw[show gn s k b=b from if_pos hb,Fm hd _ hb];grind]
 rw[aX,e,show gn s k s=s+k from if_neg aa,aW (A:=setRow _ s _) (B:=A) fun a b ha hb=>by
  rw[aY _ _ aa,show gn s i a=a from if_pos ha,show gn s k b=b from if_pos hb]]
 unfold MR;grind
theorem OR (i k:Nat):bm (s+1) A i k=bL s A*(MR s A 0 0*MR s A (i+1) (k+1) - MR s A (i+1) 0*MR s A 0 (k+1)):=by
 have h:=(ed (s+2)).we (fun a b=>A (gn (s+1) i a) (gn (s+1) k b)) (i:=s+1) (fun p=> - xs s A (A (s+(i+1))) p) aa s aa
 rw[bm,←h]
 have ea:∀p,p<s→gn (s+1) i p=p:=fun p hp=>if_pos aa
 have e:∀b,(A (gn (s+1) i (s+1)) (gn (s+1) k b)+aD s fun p=> - xs s A (A (s+(i+1))) p*A (gn (s+1) i p) (gn (s+1) k b))=A (s+(i+1)) (gn (s+1) k b) - aD s fun p=>xs s A (A (s+(i+1))) p*A p (gn (s+1) k b):=fun b=>by
  rw[show gn (s+1) i (s+1)=s+(i+1)from by unfold gn;rw[if_neg aa];omega,ai s (g:=fun p=>(-1)*(xs s A (A (s+(i+1))) p*A p (gn (s+1) k b))) fun p hp=>by rw[ea p hp];grind,←bs]
  grind
 rw[HW fun b hb=>by rw[aX,e,show gn (s+1) k b=b from if_pos aa,Fm hd _ hb];grind]
 have e1:bL (s+1) (setRow (fun a b=>A (gn (s+1) i a) (gn (s+1) k b)) (s+1) fun b=>A (gn (s+1) i (s+1)) (gn (s+1) k b)+aD s fun p=> - xs s A (A (s+(i+1))) p*A (gn (s+1) i p) (gn (s+1) k b))=bm s A 0 0:=by
  rw[Dw]
  exact aW fun a b ha hb=>by rw[aY _ _ aa,show gn (s+1) i a=a from if_pos aa,show gn (s+1) k b=b from if_pos aa]
 have e2:bL (s+1) (fun a b=>setRow (fun a b=>A (gn (s+1) i a) (gn (s+1) k b)) (s+1) (fun b=>A (gn (s+1) i (s+1)) (gn (s+1) k b)+aD s fun p=> - xs s A (A (s+(i+1))) p*A (gn (s+1) i p) (gn (s+1) k b)) a (if b<s then b else s+1))=bm s A 0 (k+1):=by
  refine aW fun a b ha hb=> ?_
  show setRow _ (s+1) _ a (if b<s then b else s+1)=_
  rw[aY _ _ aa]
  show A (gn (s+1) i a) (gn (s+1) k (if b<s then b else s+1))=A (gn s 0 a) (gn s (k+1) b)
  rw[show gn (s+1) i a=a from if_pos aa,show gn s 0 a=a from by unfold gn;split<;>omega]
  congr 1
  unfold gn
  by_cases g:b<s
  ·rw[if_pos g,if_pos aa,if_pos g]
  ·rw[if_neg g,if_neg aa,if_neg g];omega
 rw[e1,e2,aX,e,e,show gn (s+1) k (s+1)=s+(k+1)from by unfold gn;rw[if_neg aa];omega,show gn (s+1) k s=s+0 from if_pos aa,qM hd,qM hd]
 have f1:(A (s+(i+1)) (s+(k+1)) - aD s fun p=>xs s A (A (s+(i+1))) p*A p (s+(k+1)))=MR s A (i+1) (k+1):=rfl
 have f2:(A (s+(i+1)) (s+0) - aD s fun p=>xs s A (A (s+(i+1))) p*A p (s+0))=MR s A (i+1) 0:=rfl
 rw[f1,f2];grind
end
theorem OS (s:Nat) (A:Mx) (i k:Nat):bm s A 0 0*bm s A (i+1) (k+1) - bm s A (i+1) 0*bm s A 0 (k+1)=bL s A*bm (s+1) A i k:=by
 have hb:∀s i k,iU fun t=>bm s (BU A t) i k:=fun s i k=>iU.bL (s+1) fun a b=>x8 A _ _
 have:=generic s A (fun A=>bm s A 0 0*bm s A (i+1) (k+1) - bm s A (i+1) 0*bm s A 0 (k+1) - bL s A*bm (s+1) A i k)
  ((((hb _ _ _).mul (hb _ _ _)).sub ((hb _ _ _).mul (hb _ _ _))).sub ((iU.bL s (x8 A)).mul (hb _ _ _))) fun B hB=>by
   rw[qM hB,qM hB,qM hB,qM hB,OR hB];grind
 grind
theorem OT {s n:Nat} {A:Mx} (hd:bL s A≠0) (hs:s<n) (h:∀i,s+i<n→bm s A i 0=0):bL n A=0:=by
 have IT:bL s (tr A)≠0:=by rwa [ld]
 rw[←ld,←(ed n).we (tr A) (i:=s) (fun p=> - xs s (tr A) (tr A s) p) hs s (Nat.le_refl _)]
 have e:∀b,b<n→(fun k=>tr A s k+aD s fun p=> - xs s (tr A) (tr A s) p*tr A p k) b=(fun _=>0) b:=fun b hb=>by
  show tr A s b+(aD s fun p=> - xs s (tr A) (tr A s) p*tr A p b)=0
  rw[ai s (g:=fun p=>(-1)*(xs s (tr A) (tr A s) p*tr A p b)) fun p _=>by grind,←bs]
  by_cases g:b<s
  ·rw[Fm IT _ g];grind
  ·have h1:=h (b - s) aa
   rw[←aco,qM IT]at h1
   have h2:MR s (tr A) 0 (b - s)=0:=by
    rcases Rat.mul_eq_zero.1 h1 with g|g
    ·exact absurd g IT
    ·exact g
   unfold MR at h2
   rw[Nat.add_zero,show s+(b - s)=b by omega]at h2
   grind
 rw[(ed n).congr (setRow (tr A) s fun k=>tr A s k+aD s fun p=> - xs s (tr A) (tr A s) p*tr A p k) (setRow (tr A) s fun _=>0) fun i k _ hk=>by
  by_cases g:i=s
  ·subst g;rw[aX,aX];exact e k hk
  ·rw[aY _ _ g,aY _ _ g],(ed n).zero _ hs]
theorem HX {s:Nat}:∀(m:Nat) {A:Mx},(∀i k,s≤i→k<s→A i k=0)→bL (s+m) A=bL s A*bL m fun i k=>A (s+i) (s+k):=by
 intro m A h
 let G:Mx→Mx:=fun S a b=>if a<s then A a b else if b<s then 0 else S (a - s) (b - s)
 have hG:Alt m fun S=>bL (s+m) (G S):={
  congr:=fun S S' hS=>aW fun a b ha hb=>by
   show G S a b=G S' a b
   simp only[G]
   by_cases g:a<s
   ·rw[if_pos g,if_pos g]
   ·rw[if_neg g,if_neg g]
    by_cases g2:b<s
    ·rw[if_pos g2,if_pos g2]
    ·rw[if_neg g2,if_neg g2];exact hS _ _ aa aa
  MQ:=fun S i x c y hi=>by
   have e:∀z,G (setRow S i z)=setRow (G S) (s+i) fun b=>if b<s then 0 else z (b - s):=fun z=>by
    funext a b
    by_cases g:a=s+i
    ·subst g
     rw[aX];simp only[G]
     rw[if_neg aa,show s+i - s=i by omega,aX]
    ·rw[aY _ _ g];simp only[G]
     by_cases g1:a<s
     ·rw[if_pos g1,if_pos g1]
     ·rw[if_neg g1,if_neg g1,aY _ _ aa]
   show bL _ _=bL _ _+c*bL _ _
   rw[e,e,e,←wc _ _ _ _ _ _ aa]
   congr 2
   funext b
   split<;>grind
  alt:=fun S i hi hS=>sA _ _ (s+i) aa fun b hb=>by
   simp only[G]
   rw[if_neg (show ¬s+i<s by omega),if_neg (show ¬s+i+1<s by omega)]
   by_cases g:b<s
   ·rw[if_pos g,if_pos g]
   ·rw[if_neg g,if_neg g,show s+i - s=i by omega,show s+i+1 - s=i+1 by omega];exact hS _ aa}
 have h1:=kZ m _ hG fun i k=>A (s+i) (s+k)
 have h2:∀m,bL (s+m) (fun a b=>if a<s then A a b else if b<s then 0 else delta (a - s) (b - s))=bL s A:=by
  intro m
  induction m with
  |zero=>exact aW fun a b ha _=>by rw[if_pos aa]
  |succ m ih=>
   rw[show s+(m+1)=s+m+1 from rfl,Dv fun k hk=>by
    rw[if_neg aa]
    by_cases g:k<s
    ·rw[if_pos g]
    ·rw[if_neg g,delta,if_neg aa],ih,if_neg aa,if_neg aa,delta,if_pos rfl];grind
 have h3:bL (s+m) A=bL (s+m) (G fun i k=>A (s+i) (s+k)):=aW fun a b ha hb=>by
  simp only[G]
  by_cases g:a<s
  ·rw[if_pos g]
  ·rw[if_neg g]
   by_cases g2:b<s
   ·rw[if_pos g2,h a b aa g2]
   ·rw[if_neg g2,show s+(a - s)=a by omega,show s+(b - s)=b by omega]
 rw[h3]
 refine h1.trans ?_
 show bL (s+m) (fun a b=>if a<s then A a b else if b<s then 0 else delta (a - s) (b - s))*_=_
 rw[h2 m]
theorem oY (n:Nat) (A B C:Mx) (i k:Nat):pr n (pr n A B) C i k=pr n A (pr n B C) i k:=by
 unfold pr
 rw[ai n (f:=fun p=>(aD n fun q=>A i q*B q p)*C p k) (g:=fun p=>aD n fun q=>A i q*B q p*C p k) fun p _=>dL _ n,di]
 exact ai n fun q _=>by rw[bs];exact ai n fun p _=>by grind
theorem iU.vq {A:Rat→Mx} (n:Nat) (h:∀i k,iU fun t=>A t i k) (i k:Nat):iU fun t=>vq n (A t) i k:=(iU.bL (A:=fun t=>Ec (A t) k i) (n - 1) fun _ _=>h _ _).smul (sg (i+k))
def turns (l:List Nat) (k:Nat):Nat:=l.countP fun u=>decide (k<u)
theorem eH (l:List Nat) (u k:Nat):turns (l++[u]) k=turns l k+if k<u then 1 else 0:=by
 simp[turns,List.countP_append,List.countP_cons]
def cN (n:Nat) (A:Mx):Nat→Nat→List Nat→Rat
 |0,_,_=>1
 |m+1,i,l=>aD n fun k=>if k∈l then 0 else sg (turns l k)*A i k*cN n A m (i+1) (l++[k])
theorem x9 (n:Nat) (A:Mx):∀(m i:Nat) (l l':List Nat),(∀k,k∈l↔k∈l')→(∀k,turns l k=turns l' k)→cN n A m i l=cN n A m i l'
 |0,_,_,_,_,_=>rfl
 |m+1,i,l,l',h1,h2=>ai n fun k _=>by
  by_cases h:k∈l
  ·rw[if_pos h,if_pos ((h1 k).1 h)]
  ·rw[if_neg h,if_neg fun g=>h ((h1 k).2 g),h2,x9 n A m (i+1) (l++[k]) (l'++[k]) (fun q=>by simp[h1 q]) (fun q=>by rw[eH,eH,h2])]
theorem oZ (n:Nat) {A B:Mx}:∀(m i:Nat) (l:List Nat),(∀a k,i≤a→a<i+m→k<n→A a k=B a k)→cN n A m i l=cN n B m i l
 |0,_,_,_=>rfl
 |m+1,i,l,h=>ai n fun k hk=>by
  rw[oZ n m (i+1) (l++[k]) fun a k ha hb hk=>h a k aa aa hk,h i k aa aa hk]
theorem Ai (n:Nat) (A:Mx) (r:Nat) (x:Nat→Rat) (c:Rat) (y:Nat→Rat):∀(m i:Nat) (l:List Nat),i≤r→r<i+m→
  cN n (setRow A r fun k=>x k+c*y k) m i l=cN n (setRow A r x) m i l+c*cN n (setRow A r y) m i l
 |0,_,_,h1,h2=>aa
 |m+1,i,l,h1,h2=>by
  rw[cN,cN,cN,bs,←sum_add]
  refine ai n fun k _=> ?_
  by_cases hk:k∈l
  ·rw[if_pos hk,if_pos hk,if_pos hk];grind
  ·rw[if_neg hk,if_neg hk,if_neg hk]
   by_cases e:i=r
   ·subst e
    have e1:∀z,cN n (setRow A i z) m (i+1) (l++[k])=cN n A m (i+1) (l++[k]):=fun z=>oZ n m (i+1) _ fun a q ha _ _=>by rw[aY _ _ aa]
    rw[e1,e1,e1,aX,aX,aX];grind
   ·rw[aY _ _ e,aY _ _ e,aY _ _ e,Ai n A r x c y m (i+1) _ aa aa];grind
theorem Ll (n:Nat) (T:Nat→Nat→Rat) (h:∀k l,k<n→l<n→T k l= - T l k):aD n (fun k=>aD n (T k))=0:=by
 have h1:aD n (fun k=>aD n (T k))=aD n fun k=>aD n fun l=>(-1)*T l k:=
  ai n fun k hk=>ai n fun l hl=>by rw[h k l hk hl];grind
 have h2:(aD n fun k=>aD n fun l=>(-1)*T l k)=aD n fun k=>(-1)*aD n fun l=>T l k:=
  ai n fun k _=>(bs _ _).symm
 have h3:(aD n fun k=>(-1)*aD n fun l=>T l k)=(-1)*aD n (fun k=>aD n (T k)):=by
  rw[←bs,←di]
 rw[h2,h3]at h1
 grind
theorem Aj (n:Nat) (A:Mx) (r:Nat) (h:∀k,k<n→A r k=A (r+1) k):∀(m i:Nat) (l:List Nat),i≤r→r+1<i+m→cN n A m i l=0
 |0,_,_,h1,h2=>aa
 |1,_,_,h1,h2=>aa
 |m+2,i,l,h1,h2=>by
  by_cases e:i=r
  ·subst e
   rw[cN]
   refine Eq.trans ?_ (Ll n (fun k q=>if k∈l then 0 else if q∈l++[k]then 0 else sg (turns l k)*A i k*(sg (turns (l++[k]) q)*A (i+1) q*cN n A m (i+1+1) (l++[k]++[q]))) ?_)
   ·refine ai n fun k _=> ?_
    by_cases hk:k∈l
    ·rw[if_pos hk,cv fun q _=>if_pos hk]
    ·rw[if_neg hk,cN,bs]
     refine ai n fun q _=> ?_
     rw[if_neg hk]
     by_cases hq:q∈l++[k]
     ·rw[if_pos hq,if_pos hq];grind
     ·rw[if_neg hq,if_neg hq]
   ·intro k q hk hq
    by_cases h1:k∈l
    ·rw[if_pos h1]
     by_cases h2:q∈l
     ·rw[if_pos h2];grind
     ·rw[if_neg h2,if_pos (by simp[h1])];grind
    ·rw[if_neg h1]
     by_cases h2:q∈l
     ·rw[if_pos (by simp[h2]),if_pos h2];grind
     ·rw[if_neg h2]
      by_cases h3:q=k
      ·subst h3;rw[if_pos (by simp)];grind
      ·rw[if_neg (by simp[h2,h3]),if_neg (by simp[h1];exact fun g=>h3 g.symm)]
       rw[x9 n A m (i+1+1) (l++[k]++[q]) (l++[q]++[k]) (fun p=>by simp;grind) (fun p=>by rw[eH,eH,eH,eH];omega)]
       rw[eH,eH,h k hk,←h q hq]
       rcases Nat.lt_or_gt_of_ne h3 with g|g
       ·rw[if_pos g,if_neg aa,sg];grind
       ·rw[if_neg aa,if_pos g];simp only[sg,Nat.add_zero];grind
  ·rw[cN]
   refine cv fun k _=> ?_
   by_cases hk:k∈l
   ·rw[if_pos hk]
   ·rw[if_neg hk,Aj n A r h (m+1) (i+1) _ aa aa];grind
theorem Ak (n:Nat):∀(m i:Nat),i+m=n→cN n delta m i (List.range i)=1
 |0,_,_=>rfl
 |m+1,i,h=>by
  rw[cN,iZ (j:=i) n aa fun k _ bW=>by
   split
   ·rfl
   ·rw[delta,if_neg (fun g=>bW g.symm)];grind]
  rw[if_neg (by simp),←List.range_succ,Ak n m (i+1) aa,delta,if_pos rfl]
  have:turns (List.range i) i=0:=by
   rw[turns,List.countP_eq_zero];intro u hu;have:=List.mem_range.1 hu;simp;omega
  rw[this,sg];grind
theorem HY (n:Nat) (A:Mx):cN n A n 0 []=bL n A:=by
 have h:Alt n fun A=>cN n A n 0 []:={
  congr:=fun A B h=>oZ n n 0 [] fun a k _ ha hk=>h a k aa hk
  MQ:=fun A i x c y hi=>Ai n A i x c y n 0 [] aa aa
  alt:=fun A i hi h=>Aj n A i h n 0 [] aa aa}
 rw[kZ n _ h A]
 show cN n delta n 0 (List.range 0)*_=_
 rw[Ak n n 0 aa];grind
def Bd (x b:Rat):Prop:= -b≤x∧x≤b
theorem Bd.Lm {x b:Rat} (h:Bd x b):0≤b:=by obtain⟨h1,h2⟩:=h;grind
theorem Bd.add {x y a b:Rat} (h:Bd x a) (k:Bd y b):Bd (x+y) (a+b):=by
 obtain⟨h1,h2⟩:=h;obtain⟨k1,k2⟩:=k;constructor<;>grind
theorem Bd.neg {x a:Rat} (h:Bd x a):Bd (-x) a:=by obtain⟨h1,h2⟩:=h;constructor<;>grind
theorem Bd.mono {x a b:Rat} (h:Bd x a) (hb:a≤b):Bd x b:=by obtain⟨h1,h2⟩:=h;constructor<;>grind
theorem Bd.mul {x y a b:Rat} (h:Bd x a) (k:Bd y b):Bd (x*y) (a*b):=by
 have ha:=h.Lm;have hb:=k.Lm
 obtain⟨h1,h2⟩:=h;obtain⟨k1,k2⟩:=k
 have p1:=Rat.mul_nonneg (show 0≤a - x by grind) (show 0≤b+y by grind)
 have p2:=Rat.mul_nonneg (show 0≤a+x by grind) (show 0≤b - y by grind)
 have p3:=Rat.mul_nonneg (show 0≤a - x by grind) (show 0≤b - y by grind)
 have p4:=Rat.mul_nonneg (show 0≤a+x by grind) (show 0≤b+y by grind)
 constructor<;>grind
theorem Bd.sg {x a:Rat} (h:Bd x a):∀n,Bd (sg n*x) a
 |0=>by rw[Go.Proofs.YtfpagioknjjacaaGreatDoor.sg,show(1:Rat)*x=x by grind];exact h
 |n+1=>by rw[Go.Proofs.YtfpagioknjjacaaGreatDoor.sg,show - Go.Proofs.YtfpagioknjjacaaGreatDoor.sg n*x= - (Go.Proofs.YtfpagioknjjacaaGreatDoor.sg n*x) by grind];exact(Bd.sg h n).neg
theorem Bd.sum {f r:Nat→Rat}:∀n,(∀i,i<n→Bd (f i) (r i))→Bd (aD n f) (aD n r)
 |0,_=>(show Bd 0 0 from⟨aI,aI⟩)
 |n+1,h=>(Bd.sum n fun i hi=>h i aa).add (h n aa)
abbrev Mz:=Nat→Nat→Int
def Y0 (A:Mz):Mx:=fun i k=>(A i k:Rat)
def Ln:Nat→(Nat→Int)→Int
 |0,_=>0
 |n+1,f=>Ln n f+f n
theorem Al (f:Nat→Int):∀n,((Ln n f:Int):Rat)=aD n fun i=>(f i:Rat)
 |0=>by simp[Ln,aD]
 |n+1=>by rw[Ln,aD,Rat.intCast_add,Al f n]
def IJ:Nat→Int
 |0=>1
 |n+1=> - IJ n
theorem sF:∀n,((IJ n:Int):Rat)=sg n
 |0=>by simp[IJ,sg]
 |n+1=>by rw[IJ,sg,Rat.intCast_neg,sF n]
theorem wg:∀n,IJ n=if n % 2=1 then -1 else 1
 |0=>rfl
 |n+1=>by
  rw[IJ,wg n]
  by_cases h:n % 2=1
  ·rw[if_pos h,if_neg aa];rfl
  ·rw[if_neg h,if_pos aa]
def iE:Nat→Mz→Int
 |0,_=>1
 |n+1,A=>Ln (n+1) fun k=>IJ k*A 0 k*iE n fun i j=>A (i+1) (sk k j)
theorem eN:∀(n:Nat) (A:Mz),((iE n A:Int):Rat)=bL n (Y0 A)
 |0,_=>by simp[iE,bL]
 |n+1,A=>by
  rw[iE,cW,Al]
  refine ai _ fun k _=> ?_
  rw[Rat.intCast_mul,Rat.intCast_mul,sF,eN n];rfl
theorem cast_inj {a b:Int} (h:(a:Rat)=(b:Rat)):a=b:=Rat.intCast_inj.1 h
theorem yc {n:Nat} {A B:Mz} (h:∀i k,i<n→k<n→A i k=B i k):iE n A=iE n B:=by
 apply cast_inj
 rw[eN,eN]
 exact aW fun i k hi hk=>by unfold Y0;rw[h i k hi hk]
def yd (s:Nat) (A:Mz) (i k:Nat):Int:=iE (s+1) fun a b=>A (gn s i a) (gn s k b)
theorem sG (s:Nat) (A:Mz) (i k:Nat):((yd s A i k:Int):Rat)=bm s (Y0 A) i k:=eN _ _
theorem Lo (A:Mz) (i k:Nat):yd 0 A i k=A i k:=by
 apply cast_inj;rw[sG,OQ];rfl
theorem HZ (s:Nat) (A:Mz):yd s A 0 0=iE (s+1) A:=by
 apply cast_inj;rw[sG,Dw,eN]
theorem Lp (s:Nat) (A:Mz) (i k:Nat):yd s A 0 0*yd s A (i+1) (k+1) - yd s A (i+1) 0*yd s A 0 (k+1)=iE s A*yd (s+1) A i k:=by
 apply cast_inj
 have:=OS s (Y0 A) i k
 simp only[Rat.intCast_sub,Rat.intCast_mul,sG,eN];exact this
theorem OU {s:Nat} {A:Mz} (h:iE s A≠0) (i k:Nat):(yd s A 0 0*yd s A (i+1) (k+1) - yd s A (i+1) 0*yd s A 0 (k+1))/iE s A=yd (s+1) A i k:=by
 rw[Lp,Int.mul_ediv_cancel_left _ h]
theorem Lq {s n:Nat} {A:Mz} (hd:iE s A≠0) (hs:s<n) (h:∀i,s+i<n→yd s A i 0=0):iE n A=0:=by
 apply cast_inj
 rw[eN]
 refine OT (s:=s) ?_ hs fun i hi=> ?_
 ·rw[←eN];intro g;exact hd (cast_inj g)
 ·rw[←sG,h i hi];rfl
def jr (A:Mz) (i j:Nat):Mz:=fun p=>if p=i then A j else if p=j then A i else A p
theorem Fo (A:Mz) (i j:Nat):Y0 (jr A i j)=aP (Y0 A) i j:=by
 funext p q
 unfold Y0 jr aP
 by_cases h:p=i
 ·rw[if_pos h,if_pos h]
 ·rw[if_neg h,if_neg h]
  by_cases h2:p=j
  ·rw[if_pos h2,if_pos h2]
  ·rw[if_neg h2,if_neg h2]
theorem Fp (A:Mz) (i:Nat):jr A i i=A:=by
 funext p;unfold jr
 by_cases h:p=i
 ·rw[if_pos h,h]
 ·rw[if_neg h,if_neg h]
theorem H0 {n:Nat} (A:Mz) {i j:Nat} (hi:i<n) (hj:j<n) (bW:i≠j):iE n (jr A i j)= - iE n A:=by
 apply cast_inj
 rw[eN,Fo,(ed n).swap _ hi hj bW,Rat.intCast_neg,eN]
theorem Lr (s:Nat) (A:Mz) (j p q:Nat):yd s (jr A s (s+j)) p q=jr (yd s A) 0 j p q:=by
 have e:∀p r,(∀a,a<s+1→jr A s (s+j) (gn s p a)=A (gn s r a))→yd s (jr A s (s+j)) p q=yd s A r q:=fun p r h=>yc fun a b ha _=>by rw[h a ha]
 unfold jr at e ⊢
 by_cases h:p=0
 ·subst h
  rw[if_pos rfl]
  refine e 0 j fun a ha=> ?_
  unfold gn
  by_cases g:a<s
  ·rw[if_pos g,if_pos g,if_neg aa,if_neg aa]
  ·rw[if_neg g,if_neg g,if_pos (Nat.add_zero s)]
 ·rw[if_neg h]
  by_cases h2:p=j
  ·subst h2
   rw[if_pos rfl]
   refine e p 0 fun a ha=> ?_
   unfold gn
   by_cases g:a<s
   ·rw[if_pos g,if_pos g,if_neg aa,if_neg aa]
   ·rw[if_neg g,if_neg g,if_neg aa,if_pos rfl,Nat.add_zero]
  ·rw[if_neg h2]
   refine e p p fun a ha=> ?_
   unfold gn
   by_cases g:a<s
   ·rw[if_pos g,if_neg aa,if_neg aa]
   ·rw[if_neg g,if_neg aa,if_neg aa]
theorem ye (s:Nat) (A:Mz) (j:Nat):iE s (jr A s (s+j))=iE s A:=yc fun i k hi _=>by
 unfold jr;rw[if_neg aa,if_neg aa]
def iH (w:Mx) (k:Nat):Nat→Nat→Option Nat
 |0,_=>none
 |m+1,i=>if w i k=0 then iH w k m (i+1)else some i
theorem Am {w:Mx} {k:Nat}:∀{m i:Nat},iH w k m i=none→∀j,i≤j→j<i+m→w j k=0
 |0,i,_,j,h1,h2=>aa
 |m+1,i,h,j,h1,h2=>by
  rw[iH]at h
  by_cases g:w i k=0
  ·rw[if_pos g]at h
   by_cases e:j=i
   ·rw[e,g]
   ·exact Am h j aa aa
  ·rw[if_neg g]at h;cases h
theorem pO {w:Mx} {k:Nat}:∀{m i j:Nat},iH w k m i=some j→i≤j∧j<i+m∧w j k≠0
 |0,i,j,h=>by cases h
 |m+1,i,j,h=>by
  rw[iH]at h
  by_cases g:w i k=0
  ·rw[if_pos g]at h
   have:=pO h
   exact⟨aa,aa,this.2.2⟩
  ·rw[if_neg g]at h
   obtain rfl:=Option.some.inj h
   exact⟨Nat.le_refl _,aa,g⟩
def dM (w:Mx) (top k:Nat):Mx:=fun a q=>if a=top then w top q/w top k else w a q - w a k*(w top q/w top k)
structure St where
 w:Mx
 aH:List Nat
 d:Rat
def jT (r:Nat) (s:St) (k:Nat):St:=
 match iH s.w k (r - s.aH.length) s.aH.length with
 |none=>s
 |some i=>⟨dM (aP s.w i s.aH.length) s.aH.length k,s.aH++[k],(if i=s.aH.length then s.d else - s.d)*aP s.w i s.aH.length s.aH.length k⟩
def iz (r c:Nat) (s:St):St:=(List.range c).foldl (jT r) s
theorem pP (r c:Nat) (s:St):iz r (c+1) s=jT r (iz r c s) c:=by
 rw[iz,List.range_succ,List.foldl_append];rfl
theorem Alt.Y1 {n:Nat} {F:Mx→Rat} (hF:Alt n F) (A:Mx) {t:Nat} (ht:t<n) (c:Nat→Rat):F (fun a q=>if a=t then A t q else A a q+c a*A t q)=F A:=by
 have h:∀m,m≤n→F (fun a q=>if a=t then A t q else if a<m then A a q+c a*A t q else A a q)=F A:=by
  intro m
  induction m with
  |zero=>
   intro _
   refine hF.congr _ _ fun a q _ _=> ?_
   by_cases e:a=t
   ·rw[if_pos e,e]
   ·rw[if_neg e,if_neg aa]
  |succ m ih=>
   intro hm
   rw[←ih aa]
   by_cases e:m=t
   ·refine hF.congr _ _ fun a q _ _=> ?_
    by_cases g:a=t
    ·rw[if_pos g,if_pos g]
    ·rw[if_neg g,if_neg g]
     by_cases g2:a<m
     ·rw[if_pos g2,if_pos aa]
     ·rw[if_neg g2,if_neg aa]
   ·rw[←hF.BR (i:=m) (j:=t) (fun a q=>if a=t then A t q else if a<m then A a q+c a*A t q else A a q) (c m) aa ht e]
    refine hF.congr _ _ fun a q _ _=> ?_
    by_cases g:a=m
    ·subst g
     rw[aX,if_neg e,if_pos aa,if_neg e,if_neg aa,if_pos rfl]
    ·rw[aY _ _ g]
     by_cases g1:a=t
     ·rw[if_pos g1,if_pos g1]
     ·rw[if_neg g1,if_neg g1]
      by_cases g2:a<m
      ·rw[if_pos g2,if_pos aa]
      ·rw[if_neg g2,if_neg aa]
 rw[←h n (Nat.le_refl _)]
 refine hF.congr _ _ fun a q ha _=> ?_
 by_cases e:a=t
 ·rw[if_pos e,if_pos e]
 ·rw[if_neg e,if_neg e,if_pos ha]
structure Inv (r:Nat) (W:Mx) (k:Nat) (s:St):Prop where
 len:s.aH.length≤r
 lt:∀j,j<s.aH.length→s.aH.getD j 0<k
 inc:∀i j,i<j→j<s.aH.length→s.aH.getD i 0<s.aH.getD j 0
 unit:∀j,j<s.aH.length→∀i,i<r→s.w i (s.aH.getD j 0)=if i=j then 1 else 0
 left:∀i,i<s.aH.length→∀q,q<s.aH.getD i 0→s.w i q=0
 low:∀i,s.aH.length≤i→i<r→∀q,q<k→s.w i q=0
 uf:∃P,bL r P*s.d=1∧∀i,i<r→∀q,s.w i q=pr r P W i q
theorem Inv.start (r:Nat) (W:Mx):Inv r W 0 ⟨W,[],1⟩ where
 len:=Nat.zero_le _
 lt:=fun j h=>by simp at h
 inc:=fun i j _ h=>by simp at h
 unit:=fun j h=>by simp at h
 left:=fun j h=>by simp at h
 low:=fun i _ _ q h=>aa
 uf:=⟨delta,by rw[ja];grind,fun i hi q=>by rw[pr,c7,if_pos hi]⟩
theorem iV {l:List Nat} {a j:Nat} (h:j<l.length):(l++[a]).getD j 0=l.getD j 0:=by
 rw[List.getD_eq_getElem?_getD,List.getD_eq_getElem?_getD,List.getElem?_append_left h]
theorem pQ {l:List Nat} {a:Nat}:(l++[a]).getD l.length 0=a:=by simp[List.getD_eq_getElem?_getD]
theorem yf {w:Mx} {i t a:Nat} (h:a<t) (hi:t≤i):aP w i t a=w a:=by
 unfold aP;rw[if_neg aa,if_neg aa]
theorem Fq {w:Mx} {i t a r:Nat} (hi:t≤i) (y9:i<r) (h:t≤a) (har:a<r):∃b,t≤b∧b<r∧aP w i t a=w b:=by
 unfold aP
 by_cases h1:a=i
 ·rw[if_pos h1];exact⟨t,Nat.le_refl _,aa,rfl⟩
 ·rw[if_neg h1]
  by_cases h2:a=t
  ·rw[if_pos h2];exact⟨i,hi,y9,rfl⟩
  ·rw[if_neg h2];exact⟨a,h,har,rfl⟩
theorem pR {w:Mx} {i t:Nat}:aP w i t t=w i:=by
 unfold aP
 by_cases h:t=i
 ·rw[if_pos h,h]
 ·rw[if_neg h,if_pos rfl]
theorem OV (r:Nat) (P W:Mx) (i t a q:Nat):pr r (aP P i t) W a q=aP (pr r P W) i t a q:=by
 show(aD r fun p=>(if a=i then P t else if a=t then P i else P a) p*W p q)=(if a=i then pr r P W t else if a=t then pr r P W i else pr r P W a) q
 by_cases h:a=i
 ·rw[if_pos h,if_pos h];rfl
 ·rw[if_neg h,if_neg h]
  by_cases h2:a=t
  ·rw[if_pos h2,if_pos h2];rfl
  ·rw[if_neg h2,if_neg h2];rfl
theorem Inv.step {r:Nat} {W:Mx} {k:Nat} {s:St} (h:Inv r W k s):Inv r W (k+1) (jT r s k):=by
 unfold jT
 cases hp:iH s.w k (r - s.aH.length) s.aH.length with
 |none=>
  have hz:=Am hp
  have:=h.len
  show Inv r W (k+1) s
  exact {h with
   lt:=fun j hj=>by have:=h.lt j hj;omega
   low:=fun i h1 h2 q hq=>by
    by_cases e:q=k
    ·rw[e];exact hz i h1 aa
    ·exact h.low i h1 h2 q aa}
 |some i=>
  obtain⟨g1,g2,g3⟩:=pO hp
  dsimp only
  have hl:=h.len
  have y9:i<r:=aa
  have ht:s.aH.length<r:=aa
  have agG:s.aH.length=s.aH.length:=rfl
  revert g1 g2 ht hl
  generalize Nn:s.aH.length=t
  intro g1 g2 hl ht
  have n7:aP s.w i t t k≠0:=by rw[pR];exact g3
  have hz:∀a,t≤a→a<r→∀q,q<k→aP s.w i t a q=0:=fun a h1 h2 q hq=>by
   obtain⟨b,b1,b2,e⟩:=Fq (w:=s.w) g1 y9 h1 h2
   rw[e];exact h.low b aa b2 q hq
  have hu:∀j,j<t→∀a,a<r→aP s.w i t a (s.aH.getD j 0)=if a=j then 1 else 0:=fun j hj a ha=>by
   by_cases hat:a<t
   ·rw[yf hat g1];exact h.unit j aa a ha
   ·rw[hz a aa ha _ (h.lt j aa),if_neg aa]
  have hc:∀a,a<t→∀q,q<k→dM (aP s.w i t) t k a q=s.w a q:=fun a ha q hq=>by
   unfold dM
   rw[if_neg aa,hz t (Nat.le_refl _) ht q hq,yf ha g1];grind
  have hlen:(s.aH++[k]).length=t+1:=by rw[List.length_append,Nn];rfl
  refine {len:=by simp only[hlen];omega,lt:= ?_,inc:= ?_,unit:= ?_,left:= ?_,low:= ?_,uf:= ?_}
  ·intro j hj
   simp only[hlen]at hj
   show(s.aH++[k]).getD j 0<k+1
   by_cases e:j<t
   ·rw[iV aa];have:=h.lt j aa;omega
   ·obtain rfl:j=t:=aa
    rw[←Nn,pQ];omega
  ·intro a b rY hb
   simp only[hlen]at hb
   show(s.aH++[k]).getD a 0<(s.aH++[k]).getD b 0
   by_cases e:b<t
   ·rw[iV aa,iV aa];exact h.inc a b rY aa
   ·obtain rfl:b=t:=aa
    rw[iV aa]
    rw[show(s.aH++[k]).getD b 0=k from by rw[←Nn,pQ]]
    exact h.lt a aa
  ·intro j hj a ha
   simp only[hlen]at hj
   show dM (aP s.w i t) t k a ((s.aH++[k]).getD j 0)=_
   by_cases e:j<t
   ·rw[iV aa]
    unfold dM
    rw[hu j e t ht,hu j e a ha,if_neg (show ¬t=j by omega)]
    by_cases g:a=t
    ·rw[if_pos g,if_neg aa,Rat.div_def];grind
    ·rw[if_neg g,Rat.div_def];split<;>grind
   ·obtain rfl:j=t:=aa
    rw[show(s.aH++[k]).getD j 0=k from by rw[←Nn,pQ]]
    unfold dM
    by_cases g:a=j
    ·rw[if_pos g,if_pos g,Rat.div_def,Rat.mul_inv_cancel _ n7]
    ·rw[if_neg g,if_neg g,Rat.div_def,Rat.mul_inv_cancel _ n7];grind
  ·intro a ha q hq
   simp only[hlen]at ha
   change q<(s.aH++[k]).getD a 0 at hq
   show dM (aP s.w i t) t k a q=0
   by_cases e:a<t
   ·rw[iV aa]at hq
    have:=h.lt a aa
    rw[hc a e q aa]
    exact h.left a aa q hq
   ·obtain rfl:a=t:=aa
    rw[show(s.aH++[k]).getD a 0=k from by rw[←Nn,pQ]]at hq
    unfold dM
    rw[if_pos rfl,hz a (Nat.le_refl _) ht q hq,Rat.div_def];grind
  ·intro a h1 h2 q hq
   simp only[hlen]at h1
   show dM (aP s.w i t) t k a q=0
   unfold dM
   rw[if_neg aa]
   by_cases e:q=k
   ·rw[e,Rat.div_def,Rat.mul_inv_cancel _ n7];grind
   ·rw[hz a aa h2 q aa,hz t (Nat.le_refl _) ht q aa,Rat.div_def];grind
  ·obtain⟨P,hP1,hP2⟩:=h.uf
   have Y2:∀a,a<r→∀q,aP s.w i t a q=pr r (aP P i t) W a q:=fun a ha q=>by
    rw[OV];unfold aP
    by_cases e1:a=i
    ·rw[if_pos e1,if_pos e1];exact hP2 t ht q
    ·rw[if_neg e1,if_neg e1]
     by_cases e2:a=t
     ·rw[if_pos e2,if_pos e2];exact hP2 i y9 q
     ·rw[if_neg e2,if_neg e2];exact hP2 a ha q
   have hsd:bL r (aP P i t)*(if i=t then s.d else - s.d)=1:=by
    by_cases e:i=t
    ·subst e
     rw[if_pos rfl,show aP P i i=P from by
      funext a;unfold aP
      by_cases e1:a=i
      ·rw[if_pos e1,e1]
      ·rw[if_neg e1,if_neg e1],hP1]
    ·rw[if_neg e,(ed r).swap P y9 ht e];grind
   generalize aP s.w i t=w1 at*
   generalize aP P i t=Q at*
   have hinv:=Rat.mul_inv_cancel _ n7
   refine⟨fun a q=>if a=t then(w1 t k)⁻¹*Q t q else Q a q+(- w1 a k*(w1 t k)⁻¹)*Q t q, ?_, ?_⟩
   ·have e1:=(ed r).Y1 (setRow Q t fun q=>(w1 t k)⁻¹*Q t q) ht fun a=> - w1 a k
    rw[(ed r).smul Q _ _ ht,show setRow Q t (fun q=>Q t q)=Q from setRow_self Q t]at e1
    rw[aW (B:=fun a q=>if a=t then setRow Q t (fun q=>(w1 t k)⁻¹*Q t q) t q else setRow Q t (fun q=>(w1 t k)⁻¹*Q t q) a q+ - w1 a k*setRow Q t (fun q=>(w1 t k)⁻¹*Q t q) t q) fun a q _ _=>by
     rw[aX]
     by_cases e:a=t
     ·rw[if_pos e,if_pos e]
     ·rw[if_neg e,if_neg e,aY _ _ e];grind,e1]
    show(w1 t k)⁻¹*bL r Q*((if i=t then s.d else - s.d)*w1 t k)=1
    grind
   ·intro a ha q
    show dM w1 t k a q=_
    unfold dM pr
    by_cases e:a=t
    ·rw[if_pos e,Y2 t ht q,Rat.div_def,pr,ai r (f:=fun p=>(if a=t then(w1 t k)⁻¹*Q t p else Q a p+(- w1 a k*(w1 t k)⁻¹)*Q t p)*W p q) (g:=fun p=>(w1 t k)⁻¹*(Q t p*W p q)) fun p _=>by rw[if_pos e];grind,←bs];grind
    ·rw[if_neg e,Y2 t ht q,Y2 a ha q,Rat.div_def,pr,ai r (f:=fun p=>(if a=t then(w1 t k)⁻¹*Q t p else Q a p+(- w1 a k*(w1 t k)⁻¹)*Q t p)*W p q) (g:=fun p=>Q a p*W p q+(- w1 a k*(w1 t k)⁻¹)*(Q t p*W p q)) fun p _=>by rw[if_neg e];grind,sum_add,←bs]
     unfold pr;grind
theorem Inv.red {r:Nat} {W:Mx}:∀c,Inv r W c (iz r c ⟨W,[],1⟩)
 |0=>Inv.start r W
 |c+1=>by rw[pP];exact(Inv.red c).step
end Go.Proofs.YtfpagioknjjacaaGreatDoor
