/- The texts Fz. -/
import Derived.Test.YthaeohlijigplaaGreatQLTopFound15
namespace Go.Proofs.YthaeohlijigplaaGreat
open Go.Sx
set_option linter.unusedSimpArgs false
set_option linter.unusedVariables false
set_option maxRecDepth 100000
set_option maxHeartbeats 32000000
def markR (n:Nat) (ss:List T3):Nat→MapI
 |0=>[]
 |r+1=>if pv n (gt ss (ss.length - 1 - r)).1&&pv n (gt ss (ss.length - 1 - r)).2.1 then updL (markR n ss r) (ke (gt ss (ss.length - 1 - r)).1 (gt ss (ss.length - 1 - r)).2.1) (gt ss (ss.length - 1 - r)).2.2 else markR n ss r
def halfU (l:MapI) (a b n:Int):MapI:=updL (updL l (ke a n) (getI l (ke a b))) (ke b n) (getI l (ke a b))
def markE (n:Nat) (l:MapI) (es:List E4):Nat→MapI
 |0=>l
 |k+1=>halfU (markE n l es k) (ge es k).1 (ge es k).2.1 ((n+k:Nat):Int)
def midP (ps:List Pt) (es:List E4):Nat→List Pt
 |0=>ps
 |k+1=>midP ps es k++[pmid (gp ps (ge es k).1) (gp ps (ge es k).2.1)]
def sideM (l:MapI) (r:List T3):Nat→List T3
 |0=>r
 |i+1=>(sideM l r i).set i ((gt r i).1,(gt r i).2.1,getI l (ke (gt r i).1 (gt r i).2.1))
def halvesM (m:Me) (es:List E4) (ts:List T3):Me:=
 ⟨midP m.ps es es.length,ts,sideM (markE m.ps.length (markR m.ps.length m.ss m.ss.length) es es.length) (rimL ts) (rimL ts).length⟩
theorem midP_len (ps:List Pt) (es:List E4):∀k,(midP ps es k).length=ps.length+k
 |0=>rfl
 |k+1=>by simp[midP,midP_len ps es k];omega
theorem sideM_len (l:MapI) (r:List T3):∀i,(sideM l r i).length=r.length
 |0=>rfl
 |i+1=>by simp[sideM,sideM_len l r i]
theorem sideM_get (l:MapI) (r:List T3):∀i j,i≤j→(sideM l r i)[j]? =r[j]?
 |0,_,_=>rfl
 |i+1,j,h=>by rw[sideM,List.getElem?_set_ne (by omega),sideM_get l r i j (by omega)]
theorem sideM_at (l:MapI) (r:List T3) (i:Nat) (h:i<r.length):((sideM l r i).map triA).getD i .any=triA (gt r i):=by
 rw[List.getD_eq_getElem?_getD,List.getElem?_map,sideM_get l r i i (Nat.le_refl _),List.getElem?_eq_getElem h,gt,List.getD_eq_getElem?_getD,List.getElem?_eq_getElem h]
 rfl
theorem r_Halves {B:Nat} (m:Me) (es:List E4) (ts:List T3) (hf:m.Fit) (h0:m.ps≠[]) (hb:∀i,PB B (gp m.ps i)) (hB:16*B≤1073741824) (hel:es.length<274877906944) (hpl:m.ps.length<274877906944) (hev:∀k,k<es.length→pv m.ps.length (ge es k).1=true∧pv m.ps.length (ge es k).2.1=true)
  (hl:ts.length<274877906944) (hok:OkTs (m.ps.length+es.length) ts) (ht:ts≠[]) (hr:rimL ts≠[]):
  CallOK Tryz.prog 80 [meA m,mvec 4 edA es,mvec 3 triA ts] [] (meA (halvesM m es ts)) [] []:=by
 obtain⟨ps,ts0,ss⟩:=m
 have kp:∀p,CallOK Tryz.prog 113 [.agg [mvec 10 ptA ps,mvec 3 triA ts0,mvec 3 triA ss],iv p] [] (.val (.bool (pv ps.length p))) [] []:=r_point ⟨ps,ts0,ss⟩
 have hfs:ss.length<1099511627776:=hf.ss
 have hfp:ps.length<274877906944:=hpl
 have kc:=g_CloneP ps hf.ps h0
 have kt:=g_CloneFT ts (by omega)
 have kt2:=g_ClipT ts
 refine callF (Z:=[3,9,12,16,100019,100025]) tabOK mixedOK Tryz.func80 rfl (by kernel_rfl) (by first|rfl|(simp[keylessL,keyless,keylessL_map, *];done)) (by first|rfl|(simp[keylessL,keyless,keylessL_map, *];done)) (by kernel_rfl) rfl ?_
 intro w0 ρ0 hE
 conv=>whnf
 (repeat((first|refine g_o (op_lenM rfl rfl rfl (ev_ok rfl) (tgt rfl) rfl) ?_|refine g_o (op_loadA rfl (ev_ok rfl) (tgt rfl) rfl (Nat.succ_ne_zero _) rfl) ?_|refine g_o (op_fieldA rfl (ev_ok rfl) (tgt rfl) rfl rfl (Nat.succ_ne_zero _) rfl) ?_|refine⟨_,[],_,[],op_makeMap (k:=17) rfl,nil_fk,one_new rfl,nil_upd, ?_⟩);conv=>whnf))
 refine SW_loopN hE (fun k=>k) [1,2,3,6,7,8] [6,17] (fun M fr hp=>∃r,M=ss.length - r∧r≤ss.length∧fr=[(1,mvec 4 edA es),(2,mvec 3 triA ts),(3,ptrA [mvec 10 ptA ps,mvec 3 triA ts0,mvec 3 triA ss]),(6,.ptr 6 0 0 0),(7,.mp 17),(8,iv ((ss.length:Int) - 1 - r))]∧
  hp=[(6,⟨35,true,.one [.val (.slice none 0 0),.val (.slice none 0 0),.val (.slice none 0 0)]⟩),(17,⟨0,true,.mp (mE eI (markR ps.length ss r))⟩)]) ss.length ?_ ?_ ?_
 ·kernel_rfl
 ·refine⟨0,rfl,by omega, ?_,rfl⟩
  rw[show(ss.length:Int) - 1 - (0:Nat)=IntKind.i64.wrap ((ss.length:Int) - 1)from by have:=hf.ss;rw[wrap_i64 (by omega) (by simp only at this;omega)];omega]
  rfl
 rintro m _ _ ⟨r,rfl,hr0,rfl,rfl⟩
 by_cases hlt:r<ss.length
 ·have t1:decide ((ss.length:Int) - 1 - r≥0)=true:=decide_eq_true (by omega)
  have wi:IntKind.i64.wrap ((ss.length:Int) - 1 - r - 1)=(ss.length:Int) - 1 - (r+1:Nat):=by have:=hf.ss;simp only at this;rw[wrap_i64 (by omega) (by omega)];omega
  obtain⟨x,y,z,hgn⟩:∃x y z,gt ss (ss.length - 1 - r)=(x,y,z):=⟨_,_,_,rfl⟩
  have hg:ss.getD ((ss.length:Int) - 1 - r).toNat (0,0,0)=(x,y,z):=by rw[show((ss.length:Int) - 1 - r).toNat=ss.length - 1 - r by omega];exact hgn
  have kx:=kp x
  have ky:=kp y
  have kof:=r_of x y
  cases hx:pv ps.length x with
  |false=>
   have hm:markR ps.length ss (r+1)=markR ps.length ss r:=by simp[markR,hgn,hx]
   rw[hx]at kx
   conv=>whnf
   (repeat((first|refine step_w1 rfl rfl ?_|refine step_w2 rfl rfl ?_|refine g_c (by assumption) ?_|refine g_o (op_pickF rfl (ev_ok rfl) (ev_ok rfl)) ?_|refine g_o (op_loadA rfl (ev_ok rfl) (tgt rfl) rfl (Nat.succ_ne_zero _) rfl) ?_|refine g_o (op_fieldA rfl (ev_ok rfl) (tgt rfl) rfl rfl (Nat.succ_ne_zero _) rfl) ?_|refine g_o (op_indexM (α:=T3) (d:=(0,0,0)) rfl (ev_ok rfl) (ev_ok rfl) (tgt rfl) rfl (tgt rfl) rfl (by omega)) ?_|rw[t1]|rw[hg]|rw[wi]|rw[Nat.zero_add]);conv=>whnf))
   exact⟨ss.length - (r+1),fun k=>k,[1,2,3,6,7,8],[6,17],by omega,by kernel_rfl,r+1,rfl,by omega,rfl,by rw[hm];rfl⟩
  |true=>
   rw[hx]at kx
   cases hy:pv ps.length y with
   |false=>
    have hm:markR ps.length ss (r+1)=markR ps.length ss r:=by simp[markR,hgn,hy]
    rw[hy]at ky
    conv=>whnf
    (repeat((first|refine step_w1 rfl rfl ?_|refine step_w2 rfl rfl ?_|refine g_c (by assumption) ?_|refine g_o (op_pickT rfl (ev_ok rfl) (ev_ok rfl)) ?_|refine g_o (op_loadA rfl (ev_ok rfl) (tgt rfl) rfl (Nat.succ_ne_zero _) rfl) ?_|refine g_o (op_fieldA rfl (ev_ok rfl) (tgt rfl) rfl rfl (Nat.succ_ne_zero _) rfl) ?_|refine g_o (op_indexM (α:=T3) (d:=(0,0,0)) rfl (ev_ok rfl) (ev_ok rfl) (tgt rfl) rfl (tgt rfl) rfl (by omega)) ?_|rw[t1]|rw[hg]|rw[wi]|rw[Nat.zero_add]);conv=>whnf))
    exact⟨ss.length - (r+1),fun k=>k,[1,2,3,6,7,8],[6,17],by omega,by kernel_rfl,r+1,rfl,by omega,rfl,by rw[hm];rfl⟩
   |true=>
    have hm:markR ps.length ss (r+1)=updL (markR ps.length ss r) (ke x y) z:=by simp[markR,hgn,hx,hy]
    rw[hy]at ky
    conv=>whnf
    (repeat((first|refine step_w1 rfl rfl ?_|refine step_i (by kernel_rfl) ?_|refine g_c (by assumption) ?_|refine g_o (op_pickT rfl (ev_ok rfl) (ev_ok rfl)) ?_|refine g_o (op_loadA rfl (ev_ok rfl) (tgt rfl) rfl (Nat.succ_ne_zero _) rfl) ?_|refine g_o (op_fieldA rfl (ev_ok rfl) (tgt rfl) rfl rfl (Nat.succ_ne_zero _) rfl) ?_|refine g_o (op_indexM (α:=T3) (d:=(0,0,0)) rfl (ev_ok rfl) (ev_ok rfl) (tgt rfl) rfl (tgt rfl) rfl (by omega)) ?_|refine⟨_,[(17,_)],[],[(17,_)],op_mapUpdate eI (p:=ke x y) (v:=z) rfl (ev_ok rfl) (ev_ok rfl) (ev_ok rfl) rfl um_r key_r (List.mem_cons_self ..),one_fk rfl,nil_new,one_upd (List.mem_cons_self ..) rfl rfl rfl, ?_⟩|rw[t1]|rw[hg]|rw[wi]|rw[Nat.zero_add]);conv=>whnf))
    exact⟨ss.length - (r+1),fun k=>k,[1,2,3,6,7,8],[6,17],by omega,by kernel_rfl,r+1,rfl,by omega,rfl,by rw[hm];rfl⟩
 ·obtain rfl:r=ss.length:=by omega
  have t1:decide ((ss.length:Int) - 1 - (ss.length:Nat)≥0)=false:=decide_eq_false (by omega)
  obtain⟨l0,hl0⟩:∃l0,markR ps.length ss ss.length=l0:=⟨_,rfl⟩
  rw[hl0]
  conv=>whnf
  (repeat((first|refine step_w2 rfl rfl ?_|refine g_c (by assumption) ?_|refine g_cn (by assumption) rfl ?_|refine g_o (op_lenM rfl rfl rfl (ev_ok rfl) (tgt rfl) rfl) ?_|refine g_o (op_loadA rfl (ev_ok rfl) (tgt rfl) rfl (Nat.succ_ne_zero _) rfl) ?_|refine g_o (op_fieldA rfl (ev_ok rfl) (tgt rfl) rfl rfl (Nat.succ_ne_zero _) rfl) ?_|rw[t1]);conv=>whnf))
  refine SW_loopN hE (renBy [(2001,2002)]) [3,6,7,10,56,57,58] [6,17,2001,10] (fun M fr hp=>∃k,M=es.length - k∧k≤es.length∧fr=[(3,ptrA [mvec 10 ptA ps,mvec 3 triA ts0,mvec 3 triA ss]),(6,.ptr 6 0 0 0),(7,.mp 17),(10,.ptr 10 0 0 0),(56,mvec 4 edA es),(57,iv (es.length:Nat)),(58,iv (k:Nat))]∧
   hp=[(6,⟨35,true,.one [.val (.slice none 0 0),.val (.slice none 0 0),.val (.slice none 0 0)]⟩),(17,⟨0,true,.mp (mE eI (markE ps.length l0 es k))⟩),(2002,⟨54,true,.seq 10 ((midP ps es k).map ptA)⟩),(10,⟨35,true,.one [.slc 2002 10 0 (midP ps es k).length,mvec 3 triA ts,.val (.slice none 0 0)]⟩)]) es.length ?_ ?_ ?_
  ·kernel_rfl
  ·exact⟨0,rfl,by omega,rfl,rfl⟩
  rintro m _ _ ⟨k,rfl,hk,rfl,rfl⟩
  by_cases hke:k<es.length
  ·have s1:=dlt hke
   have wk:=winc (i:=k) (by omega)
   obtain⟨x,y,u,v,hgn⟩:∃x y u v,ge es k=(x,y,u,v):=⟨_,_,_,_,rfl⟩
   have hg:es.getD k (0,0,0,0)=(x,y,u,v):=hgn
   have hxy:=hev k hke
   rw[hgn]at hxy
   have hml:=midP_len ps es k
   have kx:=kp x
   have ky:=kp y
   rw[hxy.1]at kx
   rw[hxy.2]at ky
   have hx:=hxy.1
   have hy:=hxy.2
   simp only[pv,Bool.and_eq_true,decide_eq_true_eq]at hx hy
   have g1:ps.getD x.toNat (0,0)=gp ps x:=rfl
   have g2:ps.getD y.toNat (0,0)=gp ps y:=rfl
   have kM:=p_Mid (hb x) (hb y) (by omega)
   have kof:=r_of x y
   have kof1:=r_of x ((midP ps es k).length:Nat)
   have kof2:=r_of y ((midP ps es k).length:Nat)
   conv=>whnf
   obtain⟨l,hL⟩:∃l,markE ps.length l0 es k=l:=⟨_,rfl⟩
   obtain⟨N,hN⟩:∃N:Int,(((midP ps es k).length:Nat):Int)=N:=⟨_,rfl⟩
   have hh:markE ps.length l0 es (k+1)=updL (updL l (ke x N) (getI l (ke x y))) (ke y N) (getI l (ke x y)):=by
    simp only[markE,hgn,hL,←hN,hml,halfU]
   rw[hL]
   rw[hN]at kof1 kof2
   have hmk:(Sx.look l (ke x y)).getD 0=getI l (ke x y):=rfl
   conv=>whnf
   (repeat(first|(refine step_w1 rfl rfl ?_;conv=>whnf)|(refine step_w2 rfl rfl ?_;conv=>whnf)|(refine step_i (by kernel_rfl) ?_;conv=>whnf)|(refine g_c (by assumption) ?_;conv=>whnf)|(refine g_o (op_pickF rfl (ev_ok rfl) (ev_ok rfl)) ?_;conv=>whnf)|(refine g_o (op_loadA rfl (ev_ok rfl) (tgt rfl) rfl (Nat.succ_ne_zero _) rfl) ?_;conv=>whnf)|(refine g_o (op_fieldA rfl (ev_ok rfl) (tgt rfl) rfl rfl (Nat.succ_ne_zero _) rfl) ?_;conv=>whnf)|(refine g_o (op_indexM (α:=E4) (d:=(0,0,0,0)) rfl (ev_ok rfl) (ev_ok rfl) (tgt rfl) rfl (tgt rfl) rfl (by omega)) ?_;conv=>whnf)|(refine g_o (op_indexM (α:=Pt) (d:=(0,0)) rfl (ev_ok rfl) (ev_ok rfl) (tgt rfl) rfl (tgt rfl) rfl (by omega)) ?_;conv=>whnf)|(refine⟨⟨by simp[dlen],by simp[dlen],by simp only[tiB54];omega,by omega⟩, ?_⟩;conv=>whnf)|(refine⟨_,[(17,_)],[],[],op_lookup eI 0 (p:=ke x y) rfl (ev_ok rfl) (ev_ok rfl) rfl um_r key_r zI (List.mem_cons_self ..),one_fk rfl,nil_new,nil_upd, ?_⟩;conv=>whnf)|(refine⟨_,[(17,_)],[],[(17,_)],op_mapEntry eI 0 (p:=ke x N) rfl (ev_ok rfl) (ev_ok rfl) rfl um_r key_r zI passI (List.mem_cons_self ..),one_fk rfl,nil_new,one_upd (List.mem_cons_self ..) rfl rfl rfl, ?_⟩;conv=>whnf)|(refine⟨_,[(17,_)],[],[(17,_)],op_entryStore eI (p:=ke x N) (v:=getI l (ke x y)) rfl (ev_ok rfl) (ev_ok rfl) (ev_ok rfl) (List.mem_cons_self ..),one_fk rfl,nil_new,one_upd (List.mem_cons_self ..) rfl rfl rfl, ?_⟩;conv=>whnf)|(refine⟨_,[(17,_)],[],[(17,_)],op_mapUpdate eI (p:=ke y N) (v:=getI l (ke x y)) rfl (ev_ok rfl) (ev_ok rfl) (ev_ok rfl) rfl um_r key_r (List.mem_cons_self ..),one_fk rfl,nil_new,one_upd (List.mem_cons_self ..) rfl rfl rfl, ?_⟩;conv=>whnf)|(rw[s1];conv=>whnf)|(rw[hg];conv=>whnf)|(rw[wk];conv=>whnf)|(rw[g1];conv=>whnf)|(rw[g2];conv=>whnf)|(rw[hN];conv=>whnf)|(rw[hmk];conv=>whnf)|(rw[Int.toNat_natCast];conv=>whnf)|(rw[Nat.zero_add];conv=>whnf)))
   have e:List.take (midP ps es k).length (List.map ptA (midP ps es k))=List.map ptA (midP ps es k):=List.take_of_length_le (by simp)
   have hmm:(midP ps es (k+1)).map ptA=(midP ps es k).map ptA++[ptA (pmid (gp ps x) (gp ps y))]:=by simp[midP,hgn]
   have hln:(midP ps es (k+1)).length=(midP ps es k).length+1:=by simp[midP]
   refine⟨es.length - (k+1),renBy [(93,2002)],[3,6,7,10,56,57,58],[6,17,93,10],by omega,by kernel_rfl,k+1,rfl,by omega,rfl, ?_⟩
   rw[hh,hmm,hln]
   conv=>rhs;rw[←e]
   rfl
  ·have s1:=dge hke
   obtain rfl:k=es.length:=by omega
   have hml:=midP_len ps es es.length
   obtain⟨P2,hP2⟩:∃P2,midP ps es es.length=P2:=⟨_,rfl⟩
   obtain⟨l1,hl1⟩:∃l1,markE ps.length l0 es es.length=l1:=⟨_,rfl⟩
   rw[hP2]at hml
   rw[hP2,hl1]
   have kc2:=g_ClipP3 2002 P2.length P2
   have kr:=m_Rim P2 ts hl (by omega) (by rw[hml];exact hok) ht hr
   conv=>whnf
   (repeat((first|refine step_w2 rfl rfl ?_|refine g_c1 (by assumption) rfl ?_|rw[s1]|rw[Nat.zero_add]);conv=>whnf))
   refine SWx_freezeB 10 0 2002 (fun _ h=>h) rfl (by decide) rfl rfl (keylessL_map (fun _=>rfl) _) (by simp) ?_
   refine SWx_go hE ?_
   conv=>whnf
   (repeat(first|(refine g_cn (by assumption) rfl ?_;conv=>whnf)|(rw[Nat.zero_add];conv=>whnf)))
   obtain⟨rl,hrl⟩:∃rl,rimL ts=rl:=⟨_,rfl⟩
   have hrb:rl.length≤3*ts.length:=by rw[←hrl];exact Nat.le_trans (rimA_len _ _ _) (edgesL_len ts)
   have hres:halvesM ⟨ps,ts0,ss⟩ es ts=⟨P2,ts,sideM l1 rl rl.length⟩:=by simp only[halvesM];rw[hP2,hl0,hl1,hrl]
   rw[hrl]
   refine SW_loopN hE (fun k=>k) [6,7,10,128,129,130] [10,6,17,2001] (fun M fr hp=>∃i,M=rl.length - i∧i≤rl.length∧fr=[(6,.ptr 6 0 0 0),(7,.mp 17),(10,.ptr 10 0 0 0),(128,.slc 2001 3 0 rl.length),(129,iv (rl.length:Nat)),(130,iv (i:Nat))]∧
    hp=[(10,⟨35,true,.one [mvec 10 ptA P2,mvec 3 triA ts,.slc 2001 3 0 rl.length]⟩),(6,⟨35,true,.one [.val (.slice none 0 0),.val (.slice none 0 0),.val (.slice none 0 0)]⟩),(17,⟨0,true,.mp (mE eI l1)⟩),(2001,⟨112,true,.seq 3 ((sideM l1 rl i).map triA)⟩)]) rl.length ?_ ?_ ?_
   ·kernel_rfl
   ·exact⟨0,rfl,by omega,rfl,rfl⟩
   rintro m _ _ ⟨i,rfl,hi,rfl,rfl⟩
   by_cases hie:i<rl.length
   ·have s2:=dlt hie
    obtain⟨x,y,z,hgn⟩:∃x y z,gt rl i=(x,y,z):=⟨_,_,_,rfl⟩
    have wk:=winc (i:=i) (by omega)
    have g1:=sideM_at l1 rl i hie
    rw[hgn]at g1
    have hsl:=sideM_len l1 rl i
    have kof:=r_of x y
    have hmk:(Sx.look l1 (ke x y)).getD 0=getI l1 (ke x y):=rfl
    have hs:(sideM l1 rl (i+1)).map triA=((sideM l1 rl i).map triA).set i (triA (x,y,getI l1 (ke x y))):=by simp[sideM,hgn,List.map_set]
    have he:elem (.seq 3 ((sideM l1 rl i).map triA)) 3 i=some (some (i<((sideM l1 rl i).map triA).length),[triA (x,y,z)]):=by
     simp only[elem];rw[g1]
    have hlt2:i<((sideM l1 rl i).map triA).length:=by rw[List.length_map,hsl];exact hie
    conv=>whnf
    (repeat((first|refine step_w1 rfl rfl ?_|refine step_i (by kernel_rfl) ?_|refine step_oL (by first|omega|decide|(simp only[tl0,dlen,List.length_replicate,List.length_set,List.length_map,List.length_zipWith,List.length_take,List.length_append,List.length_cons,List.length_nil];omega)) ?_|refine step_oA (by first|omega|decide|(simp only[tl0,dlen,List.length_replicate,List.length_set,List.length_map,List.length_zipWith,List.length_take,List.length_append,List.length_cons,List.length_nil];omega)) ?_|refine g_c (by assumption) ?_|refine⟨_,[(17,_)],[],[],op_lookup eI 0 (p:=ke x y) rfl (ev_ok rfl) (ev_ok rfl) rfl um_r key_r zI (List.mem_cons_self ..),one_fk rfl,nil_new,nil_upd, ?_⟩|refine⟨_,[(2001,_)],[],[(2001,_)],op_storeE (f:=64) (cs:=[triA (x,y,z)]) (cs':=[iv x,iv y,iv (getI l1 (ke x y))]) (nw:=[iv (getI l1 (ke x y))]) rfl (ev_ok rfl) (ev_ok rfl) (tabOK.get (t:=3) rfl) (List.mem_cons_self ..) he hlt2 rfl rfl (Nat.le_of_ble_eq_true rfl) rfl rfl,one_fk rfl,nil_new,one_upd (List.mem_cons_self ..) rfl rfl rfl, ?_⟩|rw[s2]|rw[g1]|rw[wk]|rw[hmk]|rw[Int.toNat_natCast]|rw[Nat.zero_add]);conv=>whnf))
    exact⟨rl.length - (i+1),fun k=>k,[6,7,10,128,129,130],[10,6,17,2001],by omega,by kernel_rfl,i+1,rfl,by omega,rfl,by rw[hs];rfl⟩
   ·have s2:=dge hie
    obtain rfl:i=rl.length:=by omega
    conv=>whnf
    (repeat(first|(refine step_w2 rfl rfl ?_;conv=>whnf)|(rw[s2];conv=>whnf)))
    refine SWx_freezeB 10 2 2001 (fun _ h=>h) rfl (by decide) rfl rfl (keylessL_map (fun _=>rfl) _) ?_ ?_
    ·rw[List.length_map,sideM_len]
    refine SWx_go hE ?_
    conv=>whnf
    skip
    rw[hres]
    (first|exact Recast.refl _|exact Frz.recast (Recast.refl _) rfl|(refine Frz.one rfl rfl ?_;skip)|(refine Frz.tup ?_;skip))
end Go.Proofs.YthaeohlijigplaaGreat
