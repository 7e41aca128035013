/- The texts Fz1. -/
import Derived.Test.YthaeohlijigplaaGreatQLTopFound17
namespace Go.Proofs.YthaeohlijigplaaGreat
open Go.Sx
set_option linter.unusedSimpArgs false
set_option linter.unusedVariables false
set_option maxRecDepth 100000
set_option maxHeartbeats 32000000
theorem SWx_freezeI {E:Env} (t k:Nat) {c:Code} {K:Post'} {fr:List (Nat×SV)} {hp:List (Nat×Blk)} {ty:TypeId} {n:Nat} {kd:IntKind} {xs:List Int} (hW:∀b,¬E.W0 b) (ht:lk fr t=some (.slc k 1 0 n)) (hk:find hp k=some ⟨ty,true,.ints kd xs⟩)
  (hn:n=xs.length) (hs:SWx E c K ((t,ivec kd xs)::fr) (setB hp k ⟨ty,true,.dead⟩)):SWx E c K fr hp:=by
 refine SWx_freeze t k (xs:=xs.map (iel kd)) hW ht hk rfl rfl (keylessL_map (fun _=>rfl) xs) (by simp;omega) ?_
 rw[cutL_all (by simp;omega)]
 exact hs
def midM (n:Nat) (es:List E4):Nat→MapI
 |0=>[]
 |k+1=>updL (midM n es k) (ke (ge es k).1 (ge es k).2.1) ((n+k:Nat):Int)
def redT (mm:MapI) (t:T3):List T3:=
 [(t.1,getI mm (ke t.1 t.2.1),getI mm (ke t.2.2 t.1)),(getI mm (ke t.1 t.2.1),t.2.1,getI mm (ke t.2.1 t.2.2)),(getI mm (ke t.2.2 t.1),getI mm (ke t.2.1 t.2.2),t.2.2),(getI mm (ke t.1 t.2.1),getI mm (ke t.2.1 t.2.2),getI mm (ke t.2.2 t.1))]
def redA (mm:MapI) (ts:List T3):Nat→List T3
 |0=>[]
 |i+1=>redA mm ts i++redT mm (gt ts i)
def parR:Nat→List Int
 |0=>[]
 |i+1=>parR i++[((i:Nat):Int),((i:Nat):Int),((i:Nat):Int),((i:Nat):Int)]
theorem redA_len (mm:MapI) (ts:List T3):∀i,(redA mm ts i).length=4*i
 |0=>rfl
 |i+1=>by simp[redA,redT,redA_len mm ts i];omega
theorem parR_len:∀i,(parR i).length=4*i
 |0=>rfl
 |i+1=>by simp[parR,parR_len i];omega
def redL (m:Me):List T3:=redA (midM m.ps.length (edgesL m.ts) (edgesL m.ts).length) m.ts m.ts.length
def redM (m:Me):Me:=halvesM m (edgesL m.ts) (redL m)
theorem r_Red {B:Nat} (m:Me) (hf:m.Fit) (h0:m.ps≠[]) (hn:m.ts≠[]) (hok:OkTs m.ps.length m.ts) (hb:∀i,PB B (gp m.ps i)) (hB:16*B≤1073741824) (hl1:m.ps.length+(edgesL m.ts).length≤4096) (hl2:4*m.ts.length≤8192)
  (hev:∀k,k<(edgesL m.ts).length→pv m.ps.length (ge (edgesL m.ts) k).1=true∧pv m.ps.length (ge (edgesL m.ts) k).2.1=true) (hok2:OkTs (m.ps.length+(edgesL m.ts).length) (redL m)):
  CallOK Tryz.prog 41 [meA m] [] (.tup [meA (redM m),ivec .i64 (parR m.ts.length),iv 0]) [] []:=by
 have ht:redL m≠[]:=by
  intro h
  have:=congrArg List.length h
  rw[redL,redA_len]at this
  have h4:4*m.ts.length=0:=by simpa using this
  exact hn (List.length_eq_zero_iff.1 (by omega))
 have kn:=m_Numbered m hf hok
 have ke1:=m_Edges m hf (by omega) hok hn
 have kh:=r_HalvesA m (edgesL m.ts) (redL m) hf h0 hb hB (by omega) (by omega) hev (by rw[redL,redA_len];omega) hok2 ht
 have hred:redL m=redA (midM m.ps.length (edgesL m.ts) (edgesL m.ts).length) m.ts m.ts.length:=rfl
 have hrm:redM m=halvesM m (edgesL m.ts) (redL m):=rfl
 rw[hrm]
 generalize redL m=rl at*
 generalize edgesL m.ts=es at*
 obtain⟨ps,ts,ss⟩:=m
 generalize halvesM ⟨ps,ts,ss⟩ es rl=hm at*
 simp only at*
 have c1:decide (IntKind.i64.wrap ((ps.length:Int)+es.length)>4096)=false:=by rw[wrap_i64 (by omega) (by omega)];exact decide_eq_false (by omega)
 have c2:decide (IntKind.i64.wrap (4*(ts.length:Int))>8192)=false:=by rw[wrap_i64 (by omega) (by omega)];exact decide_eq_false (by omega)
 have w4:IntKind.i64.wrap (4*(ts.length:Int))=((4*ts.length:Nat):Int):=by rw[wrap_i64 (by omega) (by omega)];omega
 refine callF (Z:=[1,8,11,100021]) tabOK mixedOK Tryz.func41 rfl (by kernel_rfl) (by first|rfl|(simp[keylessL,keyless,keylessL_map, *];done)) (by first|rfl|(simp[keylessL,keyless,keylessL_map, *];done)) (by kernel_rfl) rfl ?_
 intro w0 ρ0 hE
 conv=>whnf
 (repeat((first|refine step_w1 rfl rfl ?_|refine step_w2 rfl rfl ?_|refine g_c (by assumption) ?_|refine g_o (op_pickF rfl (ev_ok rfl) (ev_ok rfl)) ?_|refine g_o (op_lenM rfl rfl rfl (ev_ok rfl) (tgt rfl) rfl) ?_|refine g_o (op_loadA rfl (ev_ok rfl) (tgt rfl) rfl (Nat.succ_ne_zero _) rfl) ?_|refine g_o (op_fieldA rfl (ev_ok rfl) (tgt rfl) rfl rfl (Nat.succ_ne_zero _) rfl) ?_|refine⟨_,[],_,[],op_makeMap (k:=36) rfl,nil_fk,one_new rfl,nil_upd, ?_⟩|rw[c1]|rw[c2]);conv=>whnf))
 refine SW_loopN hE (fun k=>k) [1,2,5,6,37,38,39] [2,36] (fun M fr hp=>∃k,M=es.length - k∧k≤es.length∧fr=[(1,ptrA [mvec 10 ptA ps,mvec 3 triA ts,mvec 3 triA ss]),(2,.ptr 2 0 0 0),(5,mvec 4 edA es),(6,.mp 36),(37,mvec 4 edA es),(38,iv (es.length:Nat)),(39,iv (k:Nat))]∧
  hp=[(2,⟨35,true,.one [.val (.slice none 0 0),.val (.slice none 0 0),.val (.slice none 0 0)]⟩),(36,⟨0,true,.mp (mE eI (midM ps.length es k))⟩)]) es.length ?_ ?_ ?_
 ·kernel_rfl
 ·exact⟨0,rfl,by omega,rfl,rfl⟩
 rintro m _ _ ⟨k,rfl,hk,rfl,rfl⟩
 by_cases hlt:k<es.length
 ·have s1:=dlt hlt
  have wk:=winc (i:=k) (by omega)
  have wn:IntKind.i64.wrap ((ps.length:Int)+(k:Nat))=((ps.length+k:Nat):Int):=by rw[wrap_i64 (by omega) (by omega)];omega
  obtain⟨x,y,u,v,hgn⟩:∃x y u v,ge es k=(x,y,u,v):=⟨_,_,_,_,rfl⟩
  have hg:es.getD k (0,0,0,0)=(x,y,u,v):=hgn
  have kof:=r_of x y
  have hm1:midM ps.length es (k+1)=updL (midM ps.length es k) (ke x y) ((ps.length+k:Nat):Int):=by simp only[midM,hgn]
  conv=>whnf
  (repeat((first|refine step_w1 rfl rfl ?_|refine step_i (by kernel_rfl) ?_|refine g_c (by assumption) ?_|refine g_o (op_lenM rfl rfl rfl (ev_ok rfl) (tgt rfl) rfl) ?_|refine g_o (op_loadA rfl (ev_ok rfl) (tgt rfl) rfl (Nat.succ_ne_zero _) rfl) ?_|refine g_o (op_fieldA rfl (ev_ok rfl) (tgt rfl) rfl rfl (Nat.succ_ne_zero _) rfl) ?_|refine g_o (op_indexM (α:=E4) (d:=(0,0,0,0)) rfl (ev_ok rfl) (ev_ok rfl) (tgt rfl) rfl (tgt rfl) rfl (by omega)) ?_|refine⟨_,[(36,_)],[],[(36,_)],op_mapUpdate eI (p:=ke x y) (v:=((ps.length+k:Nat):Int)) rfl (ev_ok rfl) (ev_ok rfl) (ev_ok rfl) rfl um_r key_r (List.mem_cons_self ..),one_fk rfl,nil_new,one_upd (List.mem_cons_self ..) rfl rfl rfl, ?_⟩|rw[s1]|rw[hg]|rw[wk]|rw[wn]|rw[Int.toNat_natCast]|rw[Nat.zero_add]);conv=>whnf))
  exact⟨es.length - (k+1),fun k=>k,[1,2,5,6,37,38,39],[2,36],by omega,by kernel_rfl,k+1,rfl,by omega,rfl,by rw[hm1];rfl⟩
 ·have s1:=dge hlt
  obtain rfl:k=es.length:=by omega
  obtain⟨mm,hmm⟩:∃mm,midM ps.length es es.length=mm:=⟨_,rfl⟩
  rw[hmm]at hred ⊢
  conv=>whnf
  (repeat(first|(refine step_w2 rfl rfl ?_;conv=>whnf)|(refine step_oA (by first|omega|decide|(simp only[tl0,dlen,List.length_replicate,List.length_set,List.length_map,List.length_zipWith,List.length_take,List.length_append,List.length_cons,List.length_nil];omega)) ?_;conv=>whnf)|(refine g_o (op_lenM rfl rfl rfl (ev_ok rfl) (tgt rfl) rfl) ?_;conv=>whnf)|(refine g_o (op_loadA rfl (ev_ok rfl) (tgt rfl) rfl (Nat.succ_ne_zero _) rfl) ?_;conv=>whnf)|(refine g_o (op_fieldA rfl (ev_ok rfl) (tgt rfl) rfl rfl (Nat.succ_ne_zero _) rfl) ?_;conv=>whnf)|(refine⟨⟨Int.le_refl _,by omega,by simp only[tiB84];omega,by omega⟩, ?_⟩;conv=>whnf)|(rw[s1];conv=>whnf)|(rw[w4];conv=>whnf)))
  refine SW_loopN hE (fun k=>k) [1,2,3,5,6,9,67,68,69] [2,36,60,65] (fun M fr hp=>∃i,M=ts.length - i∧i≤ts.length∧fr=[(1,ptrA [mvec 10 ptA ps,mvec 3 triA ts,mvec 3 triA ss]),(2,.ptr 2 0 0 0),(3,.slc 65 1 0 (parR i).length),(5,mvec 4 edA es),(6,.mp 36),(9,.slc 60 3 0 (redA mm ts i).length),(67,mvec 3 triA ts),(68,iv (ts.length:Nat)),(69,iv (i:Nat))]∧
   hp=[(2,⟨35,true,.one [.val (.slice none 0 0),.val (.slice none 0 0),.val (.slice none 0 0)]⟩),(36,⟨0,true,.mp (mE eI mm)⟩),(60,⟨84,true,.seq 3 ((redA mm ts i).map triA)⟩),(65,⟨3,true,.ints .i64 (parR i)⟩)]) ts.length ?_ ?_ ?_
  ·kernel_rfl
  ·exact⟨0,rfl,by omega,rfl,rfl⟩
  rintro m _ _ ⟨i,rfl,hi,rfl,rfl⟩
  have hra:=redA_len mm ts i
  have hpa:=parR_len i
  by_cases hie:i<ts.length
  ·have s2:=dlt hie
   have wk:=winc (i:=i) (by omega)
   obtain⟨a,b,c,hgn⟩:∃a b c,gt ts i=(a,b,c):=⟨_,_,_,rfl⟩
   have hg:ts.getD i (0,0,0)=(a,b,c):=hgn
   have kf1:=r_of a b
   have kf2:=r_of b c
   have kf3:=r_of c a
   obtain⟨x,hx⟩:∃x,(Sx.look mm (ke a b)).getD 0=x:=⟨_,rfl⟩
   obtain⟨y,hy⟩:∃y,(Sx.look mm (ke b c)).getD 0=y:=⟨_,rfl⟩
   obtain⟨z,hz⟩:∃z,(Sx.look mm (ke c a)).getD 0=z:=⟨_,rfl⟩
   have hrs:redA mm ts (i+1)=redA mm ts i++[(a,x,z),(x,b,y),(z,y,c),(x,y,z)]:=by simp only[redA,redT,hgn,getI,hx,hy,hz]
   conv=>whnf
   (repeat(first|(refine step_w1 rfl rfl ?_;conv=>whnf)|(refine step_i (by kernel_rfl) ?_;conv=>whnf)|(refine step_oA (by first|omega|decide|(simp only[tl0,dlen,List.length_replicate,List.length_set,List.length_map,List.length_zipWith,List.length_take,List.length_append,List.length_cons,List.length_nil];omega)) ?_;conv=>whnf)|(refine g_c (by assumption) ?_;conv=>whnf)|(refine g_o (op_loadA rfl (ev_ok rfl) (tgt rfl) rfl (Nat.succ_ne_zero _) rfl) ?_;conv=>whnf)|(refine g_o (op_indexM (α:=T3) (d:=(0,0,0)) rfl (ev_ok rfl) (ev_ok rfl) (tgt rfl) rfl (tgt rfl) rfl (by omega)) ?_;conv=>whnf)|(refine⟨_,[(36,_)],[],[],op_lookup eI 0 (p:=ke a b) rfl (ev_ok rfl) (ev_ok rfl) rfl um_r key_r zI (List.mem_cons_self ..),one_fk rfl,nil_new,nil_upd, ?_⟩;conv=>whnf)|(refine⟨_,[(36,_)],[],[],op_lookup eI 0 (p:=ke b c) rfl (ev_ok rfl) (ev_ok rfl) rfl um_r key_r zI (List.mem_cons_self ..),one_fk rfl,nil_new,nil_upd, ?_⟩;conv=>whnf)|(refine⟨_,[(36,_)],[],[],op_lookup eI 0 (p:=ke c a) rfl (ev_ok rfl) (ev_ok rfl) rfl um_r key_r zI (List.mem_cons_self ..),one_fk rfl,nil_new,nil_upd, ?_⟩;conv=>whnf)|(refine⟨⟨by simp[dlen],by simp[dlen],by simp only[tiB84];omega,by omega⟩, ?_⟩;conv=>whnf)|(rw[s2];conv=>whnf)|(rw[hg];conv=>whnf)|(rw[wk];conv=>whnf)|(rw[hx];conv=>whnf)|(rw[hy];conv=>whnf)|(rw[hz];conv=>whnf)|(rw[Int.toNat_natCast];conv=>whnf)|(rw[Nat.zero_add];conv=>whnf)))
   have e1:List.take (redA mm ts i).length (List.map triA (redA mm ts i))=List.map triA (redA mm ts i):=List.take_of_length_le (by simp)
   have e2:List.take (parR i).length (parR i)=parR i:=List.take_of_length_le (Nat.le_refl _)
   refine⟨ts.length - (i+1),renBy [(116,60),(123,65)],[1,2,3,5,6,9,67,68,69],[2,36,116,123],by omega,by kernel_rfl,i+1,rfl,by omega, ?_, ?_⟩
   ·rw[hrs,parR,List.length_append,List.length_append];rfl
   ·rw[hrs,parR,List.map_append]
    conv=>rhs;rw[←e1,←e2]
    rfl
  ·have s2:=dge hie
   obtain rfl:i=ts.length:=by omega
   conv=>whnf
   (repeat(first|(refine step_w2 rfl rfl ?_;conv=>whnf)|(rw[s2];conv=>whnf)))
   refine SWx_freezeM 9 60 (fun _ h=>h) (fun _=>rfl) rfl rfl rfl ?_
   refine SWx_freezeI 3 65 (fun _ h=>h) rfl rfl rfl ?_
   rw[←hred]
   refine SWx_go hE ?_
   conv=>whnf
   (repeat(first|(refine g_c (by assumption) ?_;conv=>whnf)|(refine g_o (op_loadA rfl (ev_ok rfl) (tgt rfl) rfl (Nat.succ_ne_zero _) rfl) ?_;conv=>whnf)))
   (first|exact Recast.refl _|exact Frz.recast (Recast.refl _) rfl|(refine Frz.one rfl rfl ?_;skip)|(refine Frz.tup ?_;skip))
end Go.Proofs.YthaeohlijigplaaGreat
