/- The texts Qe. -/
import Derived.Test.YtfpagioknjjacaaGreatDoorQMElimsKnown2
namespace Go.Sx
set_option linter.unusedSimpArgs false
set_option linter.unusedVariables false
set_option maxRecDepth 100000
set_option maxHeartbeats 4000000
structure R1 (ρ:bU) (s:Nat) (cs:List SV) (z:List (List Value)):Prop where
 has:aw ρ cs z
 wid:∀c∈cs,c.width=s
theorem aw.each {ρ:bU} {s:Nat}:∀{cs:List SV} {z:List (List Value)},aw ρ cs z→(∀c∈cs,c.width=s)→∀u∈z,u.length=s∧∀v∈u,v.oneCell'=true
 |[],z,h,_,u,hu=>by simp only[aw]at h;subst h;cases hu
 |c::l,z,h,hw,u,hu=>by
  simp only[aw]at h
  obtain⟨x,r,rfl,h1,h2⟩:=h
  rcases List.mem_cons.1 hu with rfl|hu
  ·have:=aL.len c _ h1
   rw[hw c (List.mem_cons_self ..)]at this
   exact this
  ·exact aw.each h2 (fun d hd=>hw d (List.mem_cons_of_mem _ hd)) u hu
theorem R1.len {ρ:bU} {s:Nat} {cs:List SV} {z:List (List Value)} (h:R1 ρ s cs z):z.length=cs.length∧∀u∈z,u.length=s:=⟨cV h.has,fun u hu=>(h.has.each h.wid u hu).1⟩
theorem R1.wD {ρ:bU} {s:Nat} {cs:List SV} {z:List (List Value)} (h:R1 ρ s cs z):∀u∈z,∀v∈u,v.oneCell'=true:=fun u hu=>(h.has.each h.wid u hu).2
theorem R1.data {ρ:bU} {s:Nat} {cs:List SV} {z:List (List Value)} (h:R1 ρ s cs z):da ρ (.one cs) z.flatten:=⟨z,h.has,rfl⟩
theorem R1.ef {ρ:bU} {s:Nat} {cs:List SV} {z:List (List Value)} (_:R1 ρ s cs z):(Data.one cs).oq=false:=rfl
theorem R1.app {ρ:bU} {s n i m:Nat} {cs cs2:List SV} {z z2:List (List Value)} (h:R1 ρ s cs z) (h2:R1 ρ s cs2 z2) (hn:n=cs.length) (hi:i=0) (hm:m=cs2.length):R1 ρ s (cs++cs2) (z.take n++(z2.drop i).take m):=by
 rw[hn,←h.len.1,List.take_length,hi,List.drop_zero,hm,←h2.len.1,List.take_length]
 exact⟨cU h.has h2.has,fun c hc=>(List.mem_append.1 hc).elim (h.wid c) (h2.wid c)⟩
theorem Ao {ρ:bU} {w:World} {k s:Nat} {ty:TypeId} {wr:Bool} {cs:List SV} (hb:hO ρ w k ⟨ty,wr,.one cs⟩) (hw:qw s cs=true):
  ∃z,R1 ρ s cs z∧((∃b t ex,ρ.key k=some (b,t)∧w.heap[b]? =some (.cells (z.flatten++ex).toArray ty (0,0))∧(z.flatten++ex).length=t∧(∀v∈ex,v.oneCell'=true))∨(ρ.key k=none∧z=[])):=by
 rcases hb with h0|⟨b,t,vs,ex,h1,h2,h3,h4,h5⟩|⟨_,h2⟩
 ·cases h0
 ·obtain⟨z,hz,rfl⟩:=h3
  exact⟨z,⟨hz,jX hw⟩,.inl ⟨b,t,ex,h1,by rw[h2,Data.cT rfl],h4,h5⟩⟩
 ·exact h2.elim
theorem qR {P:Program} {cs:List SV} {ty:TypeId} {wr:Bool} {ρ:bU} {w:World} {k s i n:Nat} {v:Value} (hv:Has ρ (.aO k s i n) v) (hb:hO ρ w k ⟨ty,wr,.one cs⟩) (hw:qw s cs=true) (yM:i+n≤cs.length):
  ∃z,R1 ρ s cs z∧(∀w',(∀b,b<w.heap.size→w'.heap[b]? =w.heap[b]?)→(Builtin.firstCells s n v).run P w'= .ok (((z.drop i).take n).flatten).toArray w')∧Builtin.lenOf v=Pure.pure n:=by
 obtain⟨z,hz,hcase⟩:=Ao hb hw
 obtain⟨zl,zw⟩:=hz.len
 refine⟨z,hz, ?_⟩
 rcases fI hv with⟨b,t,cap,e1,e2,e3,rfl⟩|⟨rfl,a,rfl⟩
 ·rcases hcase with⟨b',t',ex,h1,h2,h3,h4⟩|⟨h1,_⟩
  ·rw[e1]at h1
   cases h1
   refine⟨fun w' yV=> ?_,rfl⟩
   have rq:b<w.heap.size:=by
    rcases Nat.lt_or_ge b w.heap.size with h'|h'
    ·exact h'
    ·simp[Array.getElem?_eq_none h']at h2
   have hh:w'.heap[b]? =some (.cells (z.flatten++ex).toArray ty (0,0)):=by rw[yV b rq];exact h2
   have wN:((z.drop i).take n).flatten=(z.flatten.drop (i*s)).take (n*s):=by
    rw[cC (s:=s) _ _ (fun u hu=>zw u (List.mem_of_mem_drop hu)),fJ (s:=s) _ _ zw]
   have hlen:(((z.drop i).take n).flatten).length=n*s:=by
    rw[aQ (s:=s) _ (fun u hu=>zw u (List.mem_of_mem_drop (List.mem_of_mem_take hu))),List.length_take,List.length_drop]
    congr 1
    omega
   refine run_firstCells_some (P:=P) w' s n _ n cap _ hlen ?_
   intro j u hj
   have fU:(⟨b,i*s,none⟩:Addr).add j=⟨b,i*s+j,none⟩:=by unfold Addr.add;split<;>simp_all
   rw[fU,cell_of_row w' b (i*s+j) _ ty (0,0) hh]
   have h6:=lW wN j u hj
   have aE:i*s+j<z.flatten.length:=(List.getElem?_eq_some_iff.1 h6).1
   simp only[List.getElem?_toArray]
   rw[List.getElem?_append_left aE]
   exact h6
  ·rw[e1]at h1;cases h1
 ·refine⟨fun w' _=> ?_,rfl⟩
  cases a with
  |none=>simp[Builtin.firstCells]
  |some a=>simp[Builtin.firstCells,loadCells,loadCellsFrom]
theorem qS {P:Program} {o:Oper} {fr:List (Nat×SV)} {fk:List (Nat×aF)} {t t2 e:TypeId} {x y:Operand} {xs:Array Operand} {ts:Array TypeId} {ti D8 te:TI} {k k2 kn n i2 m:Nat} {cs cs2:List SV} {ty2:TypeId} {wr2:Bool} (ho:o.op= .call ⟨.builtin .append,xs,ts⟩) (mr:xs= #[x,y]) (jE:ts= #[t,t2])
  (hx:bp fr x (.aO k te.size 0 n)) (hy:bp fr y (.aO k2 te.size i2 m)) (ht:aG P t ti) (hk:ti.kind= .aO e) (Cg:aG P t2 D8) (hk2:D8.kind= .aO e) (he:aG P e te)
  (hf:(k,⟨e,true,.one cs⟩)∈fk) (hf2:(k2,⟨ty2,wr2,.one cs2⟩)∈fk) (Ru:qw te.size cs=true) (nv:qw te.size cs2=true) (p9:0<m) (Qr:i2=0)
  (hn:n=cs.length) (hm:m=cs2.length) (hbytes:(n+m)*te.bytes≤140737488355328) (h63:n+m≤9223372036854775807):
  bS P o fr fk (.aO kn te.size 0 (n+m)) [(kn,⟨e,true,.one (cs++cs2)⟩)] [(k,⟨e,true,.dead⟩)]:=
 dv fun ρ a w hp=>by
  have CC:=hx ρ a hp.dy
  have Hi:=hy ρ a hp.dy
  obtain⟨i,zv,i1,i2',i3,i4,i5,i6,i7,_⟩:=he.info
  have hu:=ht.kind;rw[hk]at hu
  have zm:=Cg.kind;rw[hk2]at zm
  obtain⟨z,hz,RI⟩:=Ao (hp.n0 k _ hf) Ru
  obtain⟨z2,lC,hrun2,hlen2⟩:=qR (P:=P) Hi (hp.n0 k2 _ hf2) nv aa
  obtain⟨zl,zw⟩:=hz.len
  obtain⟨zl2,zw2⟩:=lC.len
  have bY:=hz.app lC hn Qr hm
  have dp:=hp.fresh kn _ (List.mem_cons_self ..)
  have ie:∀u∈(z2.drop i2).take m,u.length=te.size:=fun u hu=>zw2 u (List.mem_of_mem_drop (List.mem_of_mem_take hu))
  have gf:((z2.drop i2).take m).length=m:=by rw[List.length_take,List.length_drop];omega
  have oE:(((z2.drop i2).take m).flatten).length=m*te.size:=by rw[aQ _ ie,gf]
  have jg:∀u∈(((z2.drop i2).take m).flatten),u.oneCell'=true:=fun u hu=>by
   obtain⟨q,hq,hu⟩:=List.mem_flatten.1 hu
   exact lC.wD q (List.mem_of_mem_drop (List.mem_of_mem_take hq)) u hu
  have fa:∀v w',(Builtin.append_ ts o.type #[a.eval x,a.eval y]).run P w= .ok v w'→(execOp a.eval o).run P w= .ok (.value v) w':=by
   intro v w' h
   simp only[execOp,ho,resolve,invoke,builtin,mr,Sem.run_bind,Sem.run_pure,Result.andThen_ok,List.map_toArray,List.map_cons,List.map_nil]
   rw[h]
   rfl
  have AT:∀v∈zv.cells.toList,v.oneCell'=true:=by
   have h1:=(aw.len (ρ:=ρ) te.zero _ (dX i6)).2
   rw[i5,List.flatMap_def];exact h1
  have AU:¬((n+m:Nat):Int)>IntKind.i64.max:=by
   have:IntKind.i64.max=9223372036854775807:=aI
   omega
  have grow:∀(base:Option Addr) (cap:Nat),a.eval x= .slice base n cap→cap<n+m→(∀w',(∀b,b<w.heap.size→w'.heap[b]? =w.heap[b]?)→(Builtin.firstCells te.size n (.slice base n cap)).run P w'= .ok ((z.take n).flatten).toArray w')→
    ∃v w' ρ',(execOp a.eval o).run P w= .ok (.value v) w'∧jH ρ w (.aO kn te.size 0 (n+m)) [(kn,⟨e,true,.one (cs++cs2)⟩)] [(k,⟨e,true,.dead⟩)] v ρ' w':=by
   intro base cap hbx hcap hfirst
   have wO:¬Builtin.nextslicecap (n+m) cap*i.bytes>2^48:=by
    have:=growslice_fits (bytes:=te.bytes) hcap hbytes
    rw[i3];simpa using this
   have Na:n+m≤grownCap w (n+m) cap e:=by
    simp only[grownCap,Question.cut]
    omega
   have cj:=je (hL:=bY.ef) (ρ:=ρ) (w:=w.drew) (k:=kn) (s:=te.size) (n:=n+m) (cap:=grownCap w (n+m) cap e) (ty:=e) (d:=.one (cs++cs2)) (vs:=(z.take n++(z2.drop i2).take m).flatten) (ex:=(Builtin.zeroCells zv.cells (grownCap w (n+m) cap e - (n+m))).toList) dp bY.data Na
    (by
     have h1:((z.take n++(z2.drop i2).take m).flatten).length=(n+m)*te.size:=by
      rw[aQ (s:=te.size) _ (fun u hu=>(List.mem_append.1 hu).elim (fun h=>zw u (List.mem_of_mem_take h)) (ie u)),List.length_append,gf,List.length_take]
      congr 1
      omega
     rw[List.length_append,h1,Array.length_toList]
     have h2:(Builtin.zeroCells zv.cells (grownCap w (n+m) cap e - (n+m))).size=(grownCap w (n+m) cap e - (n+m))*te.size:=by simp[Builtin.zeroCells,i7]
     rw[h2,←Nat.add_mul,show n+m+(grownCap w (n+m) cap e - (n+m))=grownCap w (n+m) cap e from by omega]
     exact Nat.le_refl _) (gd AT _)
   refine⟨_,_,_,fa _ _ ?_,{cj with
    bK:=⟨cj.bK.os,cj.bK.tape,cj.bK.output,cj.bK.size,fun b hb hn=>cj.bK.block b hb (fun hh=>by obtain⟨_,_,_,hh,_⟩:=hh;cases hh)⟩
    blk:=fun j b hj=>by
     rcases hj with hj|hj
     ·simp only[List.mem_singleton,Prod.mk.injEq]at hj
      obtain⟨rfl,rfl⟩:=hj
      exact .inl rfl
     ·exact cj.blk j b (.inr hj)
    once:=fun j b b' h1 h2 h3 h4=>by
     simp only[List.mem_singleton,Prod.mk.injEq]at h1 h2
     rw[h2.2]at h4
     cases h4
    AM:=fun j b q hj hq=>.inl ((cj.AM j b q hj hq).elim id (fun hh=>by obtain⟨_,_,_,hh,_⟩:=hh;cases hh))}⟩
   have yL:(if false=true then(Pure.pure 0:Sem Nat)else Builtin.lenOf (a.eval y)).run P w= .ok m w:=by rw[hlen2];rfl
   have rr:¬n+m≤cap:=aa
   have hnb:(w.drew).heap=w.heap:=rfl
   have Hj:=hfirst w.drew (fun b _=>rfl)
   have q0:=hrun2 w.drew (fun b _=>rfl)
   simp only[Builtin.append_,jE,hbx,List.getElem?_toArray,List.getElem?_cons_zero,List.getElem?_cons_succ,Sem.run_bind,run_underlying hu,run_underlying zm,Result.andThen_ok,he.sizeOf,Sem.run_pure,Bool.false_eq_true,if_false,hlen2]
   have ru:∀w',(typeInfo e).run P w'= .ok i w':=fun w'=>by simp[typeInfo,i1]
   have AR:∀w',(Go.zeroValue e).run P w'= .ok zv w':=fun w'=>by simp[Go.zeroValue,typeInfo,i1,i4]
   have rv:¬(((n+m:Nat):Int)>IntKind.i64.max∧(False∨i.bytes=0)):=fun h=>AU h.1
   have jL:(Question.appendCap (n+m) cap e).forced=false:=rfl
   simp only[rr,if_false,Sem.run_bind,ru,Result.andThen_ok,rv,wO,run_choose,jL,Bool.false_eq_true,World.drew_eq,run_askRoom,Hj,Bool.not_false,if_true,q0,AR,newRow,run_newObj,Sem.run_pure,World.alloc_eq]
   have iM:((z.take n).flatten.toArray++((z2.drop i2).take m).flatten.toArray++Builtin.zeroCells zv.cells (grownCap w (n+m) cap e - (n+m)))=((z.take n++(z2.drop i2).take m).flatten++(Builtin.zeroCells zv.cells (grownCap w (n+m) cap e - (n+m))).toList).toArray:=by
    apply Array.ext'
    simp
   show Result.ok (Value.slice (some ⟨w.drew.heap.size,0,none⟩) (n+m) (grownCap w (n+m) cap e)) (w.drew.alloc (.cells ((z.take n).flatten.toArray++((z2.drop i2).take m).flatten.toArray++Builtin.zeroCells zv.cells (grownCap w (n+m) cap e - (n+m))) e))=_
   rw[iM]
  rcases fI CC with⟨b,tt,cap,e1,e2,e3,e4⟩|⟨rfl,ad,e4⟩
  ·rcases RI with⟨b',tt',ex,c1,c2,c3,c4⟩|⟨c1,_⟩
   ·rw[e1]at c1
    cases c1
    rcases Nat.lt_or_ge cap (n+m)with aE|IC
    ·refine grow _ cap e4 aE ?_
     obtain⟨z3,hz3,hrun3,_⟩:=qR (P:=P) CC (hp.n0 k _ hf) Ru aa
     intro w' yV
     have h0:=run_firstCells_some (P:=P) w' te.size n ⟨b,0*te.size,none⟩ n cap ((z.take n).flatten) (by
      rw[aQ (s:=te.size) _ (fun u hu=>zw u (List.mem_of_mem_take hu)),List.length_take];congr 1;omega) (by
      intro j u hj
      have rq:b<w.heap.size:=by
       rcases Nat.lt_or_ge b w.heap.size with h'|h'
       ·exact h'
       ·simp[Array.getElem?_eq_none h']at c2
      have hh:w'.heap[b]? =some (.cells (z.flatten++ex).toArray e (0,0)):=by rw[yV b rq];exact c2
      have fU:(⟨b,0*te.size,none⟩:Addr).add j=⟨b,j,none⟩:=jY b te.size j
      rw[fU,cell_of_row w' b j _ e (0,0) hh]
      rw[cC (s:=te.size) _ _ zw]at hj
      have h6:z.flatten[j]? =some u:=by
       rw[List.getElem?_take]at hj
       split at hj
       ·exact hj
       ·cases hj
      have CD:j<z.flatten.length:=(List.getElem?_eq_some_iff.1 h6).1
      simp only[List.getElem?_toArray]
      rw[List.getElem?_append_left CD]
      exact h6)
     exact h0
    ·-- in place
     have rq:b<w.heap.size:=by
      rcases Nat.lt_or_ge b w.heap.size with h'|h'
      ·exact h'
      ·simp[Array.getElem?_eq_none h']at c2
     have q0:=hrun2 w (fun b _=>rfl)
     have uZ:0*te.size+n*te.size+(((z2.drop i2).take m).flatten).length≤(z.flatten++ex).length:=by
      rw[oE,c3,Nat.zero_mul,Nat.zero_add,←Nat.add_mul]
      exact Nat.le_trans (Nat.mul_le_mul_right _ IC) (by simpa using e3)
     have Ei:=run_storeCells_at (P:=P) b (n*te.size) e (((z2.drop i2).take m).flatten) 0 (z.flatten++ex).toArray w c2 (by simp only[List.size_toArray];simpa using uZ) jg
     have fU:(⟨b,0*te.size,none⟩:Addr).add (n*te.size)=⟨b,n*te.size,none⟩:=jY b te.size _
     have fV:((z.flatten++ex).take (n*te.size+0)++(((z2.drop i2).take m).flatten)++(z.flatten++ex).drop (n*te.size+0+(((z2.drop i2).take m).flatten).length))=
       (z.take n++(z2.drop i2).take m).flatten++(z.flatten++ex).drop (n*te.size+m*te.size):=by
      rw[Nat.add_zero,oE,List.flatten_append,cC (s:=te.size) _ _ zw,List.take_append_of_le_length (by rw[aQ (s:=te.size) _ zw];exact Nat.mul_le_mul_right _ aa)]
     rw[fV]at Ei
     let ρ':bU:=⟨fun j=>if j=kn then some (b,tt)else ρ.key j,ρ.bf,ρ.cw⟩
     have hle:ρ.Le ρ':=⟨fun j q hq=>by
      show(if j=kn then _ else _)=_
      by_cases hj:j=kn
      ·subst hj;rw[dp]at hq;cases hq
      ·rw[if_neg hj];exact hq,fun b o hb=>hb⟩
     refine⟨.slice (some ⟨b,0*te.size,none⟩) (n+m) cap,w.setRow b ((z.take n++(z2.drop i2).take m).flatten++(z.flatten++ex).drop (n*te.size+m*te.size)).toArray,ρ',fa _ _ ?_, ?_⟩
     ·simp only[Builtin.append_,jE,e4,List.getElem?_toArray,List.getElem?_cons_zero,List.getElem?_cons_succ,Sem.run_bind,run_underlying hu,run_underlying zm,Result.andThen_ok,he.sizeOf,Sem.run_pure,Bool.false_eq_true,if_false,hlen2,IC,if_true,Bool.not_false,q0,fU,Ei]
     ·refine⟨hle,gv (.inl ⟨b,tt,cap, ?_,IC,e3,rfl⟩), ?_,⟨rfl,rfl,rfl,by simp[World.setRow], ?_⟩, ?_, ?_, ?_, ?_,fun b o hb=>.inl hb⟩
      ·show(if kn=kn then _ else _)=_
       rw[if_pos rfl]
      ·intro j hj
       show(if j=kn then _ else _)=_
       rw[if_neg]
       rintro rfl
       exact hj _ (List.mem_cons_self ..)
      ·intro q hq hnq
       refine dj fun I5=>hnq ⟨k,_,tt,List.mem_cons_self .., ?_⟩
       rw[I5];exact e1
      ·intro j bj hj
       rcases hj with hj|hj
       ·simp only[List.mem_singleton,Prod.mk.injEq]at hj
        obtain⟨rfl,rfl⟩:=hj
        exact .inl rfl
       ·simp only[List.mem_singleton,Prod.mk.injEq]at hj
        obtain⟨rfl,rfl⟩:=hj
        refine .inr (.inl ⟨b,tt,_,(z.flatten++ex).drop (n*te.size+m*te.size), ?_,by rw[Data.cT bY.ef];exact dC c2,bY.data.mono hle, ?_, ?_⟩)
        ·show(if j=j then _ else _)=_
         rw[if_pos rfl]
        ·have h1:((z.take n++(z2.drop i2).take m).flatten).length=(n+m)*te.size:=by
          rw[aQ (s:=te.size) _ (fun u hu=>(List.mem_append.1 hu).elim (fun h=>zw u (List.mem_of_mem_take h)) (ie u)),List.length_append,gf,List.length_take]
          congr 1
          omega
         rw[List.length_append,h1,List.length_drop,c3,Nat.add_mul]
         rw[oE,c3]at uZ
         omega
        ·intro u hu
         have:=List.mem_of_mem_drop hu
         rcases List.mem_append.1 this with h|h
         ·obtain⟨q,hq,hu'⟩:=List.mem_flatten.1 h
          exact hz.wD q hq u hu'
         ·exact c4 u h
      ·intro j c c' h1 h2 h3 h4
       simp only[List.mem_singleton,Prod.mk.injEq]at h1 h2
       rw[h2.2]at h4
       cases h4
      ·intro j bj q hj hq
       simp only[List.mem_singleton,Prod.mk.injEq]at hj
       obtain⟨rfl,rfl⟩:=hj
       have AV:(if j=j then some (b,tt)else ρ.key j)=some q:=hq
       rw[if_pos rfl]at AV
       cases AV
       exact .inr ⟨k,_,tt,List.mem_cons_self ..,rfl,e1⟩
      ·intro j bj j' bj' q q' hj ou bW
       simp only[List.mem_singleton,Prod.mk.injEq]at hj ou
       exact absurd (hj.1.trans ou.1.symm) bW
   ·rw[e1]at c1;cases c1
  ·rcases Nat.eq_zero_or_pos m with rfl|Zp
   ·exact absurd p9 (Nat.lt_irrefl 0)
   ·refine grow ad 0 e4 aa ?_
    intro w' _
    cases ad with
    |none=>simp[Builtin.firstCells]
    |some q=>simp[Builtin.firstCells,loadCells,loadCellsFrom]
theorem pa {P:Program} {o:Oper} {fr:List (Nat×SV)} {fk:List (Nat×aF)} {t t2 e:TypeId} {x y:Operand} {xs:Array Operand} {ts:Array TypeId} {ti D8 te:TI} {k2 kn i2 m:Nat} {cs2:List SV} {ty2:TypeId} {wr2:Bool} (ho:o.op= .call ⟨.builtin .append,xs,ts⟩) (mr:xs= #[x,y]) (jE:ts= #[t,t2])
  (hx:bp fr x (.val (.slice none 0 0))) (hy:bp fr y (.aO k2 te.size i2 m)) (ht:aG P t ti) (hk:ti.kind= .aO e) (Cg:aG P t2 D8) (hk2:D8.kind= .aO e) (he:aG P e te)
  (hf2:(k2,⟨ty2,wr2,.one cs2⟩)∈fk) (nv:qw te.size cs2=true) (p9:0<m) (Qr:i2=0)
  (hm:m=cs2.length) (hbytes:m*te.bytes≤140737488355328) (h63:m≤9223372036854775807):
  bS P o fr fk (.aO kn te.size 0 m) [(kn,⟨e,true,.one cs2⟩)] []:=
 dv fun ρ a w hp=>by
  have CC:=aK (hx ρ a hp.dy)
  have Hi:=hy ρ a hp.dy
  obtain⟨i,zv,i1,i2',i3,i4,i5,i6,i7,_⟩:=he.info
  have hu:=ht.kind;rw[hk]at hu
  have zm:=Cg.kind;rw[hk2]at zm
  obtain⟨z2,lC,hrun2,hlen2⟩:=qR (P:=P) Hi (hp.n0 k2 _ hf2) nv aa
  obtain⟨zl2,zw2⟩:=lC.len
  have bY:R1 ρ te.size cs2 ((z2.drop i2).take m):=by
   rw[Qr,List.drop_zero,hm,←lC.len.1,List.take_length];exact lC
  have dp:=hp.fresh kn _ (List.mem_cons_self ..)
  have ie:∀u∈(z2.drop i2).take m,u.length=te.size:=fun u hu=>zw2 u (List.mem_of_mem_drop (List.mem_of_mem_take hu))
  have gf:((z2.drop i2).take m).length=m:=by rw[List.length_take,List.length_drop];omega
  have fa:∀v w',(Builtin.append_ ts o.type #[a.eval x,a.eval y]).run P w= .ok v w'→(execOp a.eval o).run P w= .ok (.value v) w':=by
   intro v w' h
   simp only[execOp,ho,resolve,invoke,builtin,mr,Sem.run_bind,Sem.run_pure,Result.andThen_ok,List.map_toArray,List.map_cons,List.map_nil]
   rw[h]
   rfl
  have AT:∀v∈zv.cells.toList,v.oneCell'=true:=by
   have h1:=(aw.len (ρ:=ρ) te.zero _ (dX i6)).2
   rw[i5,List.flatMap_def];exact h1
  rcases Nat.eq_zero_or_pos m with rfl|Zp
  ·exact absurd p9 (Nat.lt_irrefl 0)
  ·have AU:¬((0+m:Nat):Int)>IntKind.i64.max:=by
    have:IntKind.i64.max=9223372036854775807:=aI
    omega
   have wO:¬Builtin.nextslicecap (0+m) 0*i.bytes>2^48:=by
    have:=growslice_fits (bytes:=te.bytes) (show 0<0+m by omega) (by rw[Nat.zero_add];exact hbytes)
    rw[i3];simpa using this
   have Na:m≤grownCap w (0+m) 0 e:=by
    simp only[grownCap,Question.cut]
    omega
   have cj:=je (hL:=bY.ef) (ρ:=ρ) (w:=w.drew) (k:=kn) (s:=te.size) (n:=m) (cap:=grownCap w (0+m) 0 e) (ty:=e) (d:=.one cs2) (vs:=((z2.drop i2).take m).flatten) (ex:=(Builtin.zeroCells zv.cells (grownCap w (0+m) 0 e - (0+m))).toList) dp bY.data Na
    (by
     have h1:(((z2.drop i2).take m).flatten).length=m*te.size:=by rw[aQ (s:=te.size) _ ie,gf]
     rw[List.length_append,h1,Array.length_toList]
     have h2:(Builtin.zeroCells zv.cells (grownCap w (0+m) 0 e - (0+m))).size=(grownCap w (0+m) 0 e - (0+m))*te.size:=by simp[Builtin.zeroCells,i7]
     rw[h2,←Nat.add_mul,show m+(grownCap w (0+m) 0 e - (0+m))=grownCap w (0+m) 0 e from by omega]
     exact Nat.le_refl _) (gd AT _)
   refine⟨_,_,_,fa _ _ ?_,{cj with bK:=⟨cj.bK.os,cj.bK.tape,cj.bK.output,cj.bK.size,cj.bK.block⟩}⟩
   have rr:¬0+m≤0:=aa
   have q0:=hrun2 w.drew (fun b _=>rfl)
   have ru:∀w',(typeInfo e).run P w'= .ok i w':=fun w'=>by simp[typeInfo,i1]
   have AR:∀w',(Go.zeroValue e).run P w'= .ok zv w':=fun w'=>by simp[Go.zeroValue,typeInfo,i1,i4]
   have rv:¬(((0+m:Nat):Int)>IntKind.i64.max∧(False∨i.bytes=0)):=fun h=>AU h.1
   have jL:(Question.appendCap (0+m) 0 e).forced=false:=rfl
   have Hj:∀w',(Builtin.firstCells te.size 0 (.slice none 0 0)).run P w'= .ok #[] w':=fun w'=>by simp[Builtin.firstCells]
   simp only[Builtin.append_,jE,CC,List.getElem?_toArray,List.getElem?_cons_zero,List.getElem?_cons_succ,Sem.run_bind,run_underlying hu,run_underlying zm,Result.andThen_ok,he.sizeOf,Sem.run_pure,Bool.false_eq_true,if_false,hlen2]
   simp only[rr,if_false,Sem.run_bind,ru,Result.andThen_ok,rv,wO,run_choose,jL,Bool.false_eq_true,World.drew_eq,run_askRoom,Hj,Bool.not_false,if_true,q0,AR,newRow,run_newObj,Sem.run_pure,World.alloc_eq]
   have iM:((#[]:Array Value)++((z2.drop i2).take m).flatten.toArray++Builtin.zeroCells zv.cells (grownCap w (0+m) 0 e - (0+m)))=(((z2.drop i2).take m).flatten++(Builtin.zeroCells zv.cells (grownCap w (0+m) 0 e - (0+m))).toList).toArray:=by
    apply Array.ext'
    simp
   show Result.ok (Value.slice (some ⟨w.drew.heap.size,0,none⟩) (0+m) (grownCap w (0+m) 0 e)) (w.drew.alloc (.cells ((#[]:Array Value)++((z2.drop i2).take m).flatten.toArray++Builtin.zeroCells zv.cells (grownCap w (0+m) 0 e - (0+m))) e))=_
   rw[iM,Nat.zero_add]
theorem lh {P:Program} {o:Oper} {fr:List (Nat×SV)} {fk:List (Nat×aF)} {t e:TypeId} {len k:Nat} {parts:Array (Nat×Operand)} {ti te:TI} {ps:List (Nat×List SV)} {l:List SV} (ho:o.op= .buildSlice t len parts) (ht:aG P t ti) (hk:ti.kind= .aO e) (he:aG P e te)
  (iF:gw fr parts.toList=some ps) (hb:jy 64 (fun i=>some (i*te.size,te.size)) (CA len te.zero) ps=some l) (hw:qw te.size l=true) (hln:l.length=len) (gV:len*te.size≤16777216):
  bS P o fr fk (.aO k te.size 0 len) [(k,⟨e,true,.one l⟩)] []:=
 dv fun ρ a w hp=>by
  obtain⟨i,z,i1,i2,i3,i4,i5,i6,i7,_⟩:=he.info
  have hu:=ht.kind;rw[hk]at hu
  obtain⟨p1,p2⟩:=iL iF ρ a hp.dy
  have yL:=rn (dX (ρ:=ρ) i6) len
  have CB:(madeCells z.cells (len*te.size)).toList=((List.replicate len (te.zero.map eY)).flatten).flatten:=by
   rw[fb z.cells te.size i7 len,i5]
   have:∀n,(List.replicate n (te.zero.flatMap eY)).flatten=((List.replicate n (te.zero.map eY)).flatten).flatten:=by
    intro n
    induction n with
    |zero=>rfl
    |succ n ih=>rw[List.replicate_succ,List.replicate_succ,List.flatten_cons,List.flatten_cons,List.flatten_append,←ih,List.flatMap_def]
   exact this len
  obtain⟨L',z',e1,e2,e3⟩:=mF (ρ:=ρ) ps _ l (parts.toList.map fun p=>(p.1,Act.eval a p.2)) (madeCells z.cells (len*te.size)) _ hb yL CB p1 p2
  have bY:R1 ρ te.size l z':=⟨e2,jX hw⟩
  have hlen:=bY.len
  have mG:(parts.map fun(i,x)=>(i,Act.eval a x)).toList=parts.toList.map fun p=>(p.1,Act.eval a p.2):=by simp
  have MI:L'=(z'.flatten++[]).toArray:=by rw[List.append_nil,←e3]
  refine⟨_,_,_, ?_,je (hL:=bY.ef) (ty:=e) (d:=.one l) (s:=te.size) (n:=len) (cap:=len) (vs:=z'.flatten) (ex:=[]) (hp.fresh k _ (List.mem_cons_self ..)) bY.data (Nat.le_refl _) ?_ (by simp)⟩
  ·have I4:¬len*te.size>16777216:=aa
   by_cases h0:len*te.size=0
   ·have hm:(Array.range 0).map (fun x=>(#[]:Array Value)[x % (#[]:Array Value).size]!)=madeCells z.cells (len*te.size):=by simp[h0,madeCells]
    simp only[execOp,ho,Instr.buildSlice,Sem.run_bind,run_underlying hu,Result.andThen_ok,he.sizeOf,h0,mG]
    rw[h0]at hm
    simp only[Nat.reducePow,Nat.not_lt_zero,gt_iff_lt,if_false,if_true,Sem.run_bind,Sem.run_pure,Result.andThen_ok,hm]
    rw[h0]at e1
    simp only[e1,Sem.run_bind,newRow,run_newObj,Sem.run_pure,Result.andThen_ok,MI,World.alloc_eq]
   ·have hm:(Array.range (len*te.size)).map (fun x=>z.cells[x % z.cells.size]!)=madeCells z.cells (len*te.size):=rfl
    have AR:(Go.zeroValue e).run P w= .ok z w:=by simp[Go.zeroValue,typeInfo,i1,i4]
    simp only[execOp,ho,Instr.buildSlice,Sem.run_bind,run_underlying hu,Result.andThen_ok,he.sizeOf,h0,mG,Nat.reducePow,I4,if_false,AR,Sem.run_pure,hm,e1,newRow,run_newObj,MI,World.alloc_eq]
  ·rw[List.append_nil,aQ _ hlen.2,cV e2,hln]
   exact Nat.le_refl _
theorem DA {P:Program} {ρ:bU} {w:World} {s n:Nat} {vs:List SV} {d:Data} {v:Value} (hv:Has ρ (eI s vs) v) (himm:∀b o,ρ.bf b=some o→w.heap[b]? =some o)
  (hr:∀z,aw (cR ρ.bf ρ.cw) vs z→(∀x∈vs,x.width=s)→Rows ρ s d z) (hn:n=vs.length):
  ∃z,Rows ρ s d z∧(∀c,c≤n→(Builtin.firstCells s c v).run P w= .ok (((z.drop 0).take c).flatten).toArray w)∧Builtin.lenOf v=Pure.pure n:=by
 subst hn
 rcases ry hv with⟨rfl,a,rfl⟩|⟨b,cap,z,pre,ex,ty,fz,h1,h2,h3,h4,h5,h6⟩
 ·refine⟨[],hr [] (by simp only[aw]) (fun x hx=>by cases hx),fun c hc=> ?_,rfl⟩
  obtain rfl:c=0:=by simpa using hc
  cases a with
  |none=>simp[Builtin.firstCells]
  |some a=>simp[Builtin.firstCells,loadCells,loadCellsFrom]
 ·have hzr:=hr z h2 h3
  obtain⟨zl,zw⟩:=hzr.len
  have qu:z.length=vs.length:=cV h2
  subst h6
  refine⟨z,hzr,fun c hc=> ?_,rfl⟩
  have hh:=himm _ _ h1
  rw[List.drop_zero]
  have wN:(z.take c).flatten=z.flatten.take (c*s):=cC (s:=s) _ _ zw
  have hlen:(z.take c).flatten.length=c*s:=by
   rw[aQ (s:=s) _ (fun u hu=>zw u (List.mem_of_mem_take hu)),List.length_take]
   congr 1
   omega
  refine run_firstCells_some (P:=P) w s c _ vs.length cap _ hlen ?_
  intro j u hj
  have fU:(⟨b,pre.length,none⟩:Addr).add j=⟨b,pre.length+j,none⟩:=by unfold Addr.add;split<;>simp_all
  rw[fU,cell_of_row w b (pre.length+j) _ ty fz hh]
  rw[wN,List.getElem?_take]at hj
  split at hj
  ·have aE:j<z.flatten.length:=(List.getElem?_eq_some_iff.1 hj).1
   simp only[List.getElem?_toArray]
   rw[List.getElem?_append_right aa,Nat.add_sub_cancel_left,List.getElem?_append_left aE]
   exact hj
  ·cases hj
theorem pb {P:Program} {o:Oper} {fr:List (Nat×SV)} {fk:List (Nat×aF)} {t t2 e ty:TypeId} {x y:Operand} {xs:Array Operand} {ts:Array TypeId} {ti te:TI} {k i n m c:Nat} {d d' d2:Data} {vs:List SV} (ho:o.op= .call ⟨.builtin .copy,xs,ts⟩) (mr:xs= #[x,y]) (jE:ts= #[t,t2])
  (hx:bp fr x (.aO k te.size i n)) (hy:bp fr y (eI te.size vs)) (q0:∀(ρ:bU) z,aw (cR ρ.bf ρ.cw) vs z→(∀x∈vs,x.width=te.size)→Rows ρ te.size d2 z) (ht:aG P t ti) (hk:ti.kind= .aO e) (he:aG P e te)
  (hf:(k,⟨ty,true,d⟩)∈fk) (hl:d.live=true) (hw:cZ d=some te.size)
  (hn:i+n≤en d) (Zy:m=vs.length) (hm:0+m≤en d2) (hc:c=Nat.min m n) (hd:vh d i d2 0 c=some d'):
  bS P o fr fk (.val (.int .i64 (c:Nat))) [] [(k,⟨ty,true,d'⟩)]:=
 dv fun ρ a w hp=>by
  have CC:=hx ρ a hp.dy
  have Hi:=hy ρ a hp.dy
  have hu:=ht.kind;rw[hk]at hu
  have hcm:c≤m:=hc▸Nat.min_le_left _ _
  have hcn:c≤n:=hc▸Nat.min_le_right _ _
  obtain⟨z2,lC,hrun2,hlen2⟩:=DA (P:=P) (d:=d2) Hi hp.bf (q0 ρ) Zy
  have CW:=hrun2 c hcm
  obtain⟨zl2,zw2⟩:=lC.len
  have ie:∀u∈(z2.drop 0).take c,u.length=te.size:=fun u hu=>zw2 u (List.mem_of_mem_drop (List.mem_of_mem_take hu))
  have gf:((z2.drop 0).take c).length=c:=by rw[List.length_take,List.length_drop];omega
  have fa:∀v w',(Builtin.copy_ ts o.type #[a.eval x,a.eval y]).run P w= .ok v w'→(execOp a.eval o).run P w= .ok (.value v) w':=by
   intro v w' h
   simp only[execOp,ho,resolve,invoke,builtin,mr,Sem.run_bind,Sem.run_pure,Result.andThen_ok,List.map_toArray,List.map_cons,List.map_nil]
   rw[h]
   rfl
  have wI:∀v∈(((z2.drop 0).take c).flatten),v.oneCell'=true:=fun u hu=>by
   obtain⟨q,hq,hu⟩:=List.mem_flatten.1 hu
   exact lC.wD q (List.mem_of_mem_drop (List.mem_of_mem_take hq)) u hu
  rcases fI CC with⟨b,t',cap,e1,e2,e3,hv⟩|⟨rfl,a',hv⟩
  ·obtain⟨z,ex,hz,g1,g2,g3⟩:=F8 (hp.n0 k _ hf) hl hw e1
   obtain⟨zl,zw⟩:=hz.len
   simp only at zl
   have bY:=(nD hd hz lC).1
   have Cc:(((z2.drop 0).take c).flatten).length=c*te.size:=by rw[aQ _ ie,gf]
   have wO:i*te.size+c*te.size≤(z.flatten++ex).length:=by
    have:=Nat.mul_le_mul_right te.size (show i+c≤i+cap by omega)
    rw[Nat.add_mul]at this
    omega
   have ud:=run_storeCells_at (P:=P) b (i*te.size) ty (((z2.drop 0).take c).flatten) 0 (z.flatten++ex).toArray w g1 (by simp only[List.size_toArray];omega) wI
   have qu:z.flatten.length=z.length*te.size:=aQ _ zw
   have Sb:(i+c)*te.size≤z.flatten.length:=by
    rw[qu];exact Nat.mul_le_mul_right _ aa
   have hiz:i*te.size≤z.flatten.length:=by
    rw[qu];exact Nat.mul_le_mul_right _ aa
   have hL:(z.flatten++ex).take (i*te.size)++((z2.drop 0).take c).flatten++(z.flatten++ex).drop (i*te.size+(((z2.drop 0).take c).flatten).length)=(z.take i++((z2.drop 0).take c++z.drop (i+c))).flatten++ex:=by
    rw[Cc,←Nat.add_mul,List.take_append_of_le_length hiz,List.drop_append_of_le_length Sb,List.flatten_append,List.flatten_append,cC _ _ zw,fJ _ _ zw]
    simp only[List.append_assoc]
   simp only[Nat.add_zero,hL]at ud
   refine⟨goInt c,w.setRow b ((z.take i++((z2.drop 0).take c++z.drop (i+c))).flatten++ex).toArray,ρ,fa _ _ ?_, ?_⟩
   ·simp only[Builtin.copy_,jE,hv,List.getElem?_toArray,List.getElem?_cons_zero,List.getElem?_cons_succ,Sem.run_bind,run_underlying hu,Result.andThen_ok,hlen2,Sem.run_pure,he.sizeOf]
    rw[←hc,CW]
    simp only[Result.andThen_ok,ud]
   ·refine⟨.refl ρ,cd rfl,fun _ _=>rfl,⟨rfl,rfl,rfl,by simp[World.setRow],fun j hj hnj=> ?_⟩,fun j bj hj=> ?_,(fun j c1 c2 h1 h2 h3 h4=> ?_),(fun _ _ _ h=>by cases h),(fun _ _ _ _ _ _ h=>by cases h),fun b o h=>.inl h⟩
    ·refine dj fun Zo=>hnj ⟨k,_,t',List.mem_cons_self .., ?_⟩
     rw[Zo];exact e1
    ·rcases hj with hj|hj
     ·simp only[List.mem_singleton,Prod.mk.injEq]at hj
      obtain⟨rfl,rfl⟩:=hj
      refine .inr (.inl ⟨b,t',_,ex,e1,by rw[Data.cT bY.ef];exact dC g1,bY.data, ?_,g3⟩)
      rw[←g2,List.length_append,List.length_append,aQ _ bY.len.2,qu]
      congr 2
      rw[List.length_append,List.length_append,List.length_take,List.length_drop,gf]
      omega
     ·cases hj
    ·simp only[List.mem_singleton,Prod.mk.injEq]at h1 h2
     obtain⟨_,rfl⟩:=h1
     obtain⟨_,rfl⟩:=h2
     rw[h3]at h4;cases h4
  ·obtain rfl:c=0:=aa
   obtain⟨z,hz,hcase⟩:=jf (hp.n0 k _ hf) hl hw
   have bY:=(nD hd hz lC).1
   have JG:z.take i++((z2.drop 0).take 0++z.drop (i+0))=z:=by simp
   rw[JG]at bY
   refine⟨goInt 0,w,ρ,fa _ _ ?_, ?_⟩
   ·simp only[Builtin.copy_,jE,hv,List.getElem?_toArray,List.getElem?_cons_zero,List.getElem?_cons_succ,Sem.run_bind,run_underlying hu,Result.andThen_ok,hlen2,Sem.run_pure,he.sizeOf]
    rw[←hc,CW]
    cases a' with
    |none=>simp[goInt]
    |some a'=>simp[goInt,storeCells]
   ·refine⟨.refl ρ,cd rfl,fun _ _=>rfl,.refl _ _,fun j bj hj=> ?_,(fun j c1 c2 h1 h2 h3 h4=> ?_),(fun _ _ _ h=>by cases h),(fun _ _ _ _ _ _ h=>by cases h),fun b o h=>.inl h⟩
    ·rcases hj with hj|hj
     ·simp only[List.mem_singleton,Prod.mk.injEq]at hj
      obtain⟨rfl,rfl⟩:=hj
      rcases hcase with⟨b',t',ex,h1,h2,h3,h4⟩|⟨h1,h2⟩
      ·exact .inr (.inl ⟨b',t',_,ex,h1,by rw[Data.cT bY.ef];exact h2,bY.data,h3,h4⟩)
      ·refine .inr (.inr ⟨h1, ?_⟩)
       exact CV bY (by rw[h2];rfl)
     ·cases hj
    ·simp only[List.mem_singleton,Prod.mk.injEq]at h1 h2
     obtain⟨_,rfl⟩:=h1
     obtain⟨_,rfl⟩:=h2
     rw[h3]at h4;cases h4
end Go.Sx
