/- The texts Ft. -/
import Derived.Test.YthaeohlijigplaaGreatQLTopFound10
import Derived.Test.YthaeohlijigplaaGreatQLTopFound5
namespace Go.Proofs.YthaeohlijigplaaGreat
open Go.Sx
set_option linter.unusedSimpArgs false
set_option linter.unusedVariables false
set_option maxRecDepth 100000
set_option maxHeartbeats 64000000
abbrev MapE:=List ((Int×Int)×E4)
def edge0 (l:MapE) (p:Int×Int):E4:=(Sx.look l p).getD (p.1,p.2, -1, -1)
def edgeU (t a b:Int) (e:E4):E4:=if a<b∧e.2.2.1= -1 then(e.1,e.2.1,t,e.2.2.2)else if b<a∧e.2.2.2= -1 then(e.1,e.2.1,e.2.2.1,t)else e
def ke (a b:Int):Int×Int:=(if b<a then b else a,if b>a then b else a)
def putE (l:MapE) (t a b:Int):MapE:=updL l (ke a b) (edgeU t a b (edge0 l (ke a b)))
def triE (l:MapE) (t:Int) (n:T3):Nat→MapE
 |0=>l
 |1=>putE l t n.1 n.2.1
 |2=>putE (putE l t n.1 n.2.1) t n.2.1 n.2.2
 |_=>putE (putE (putE l t n.1 n.2.1) t n.2.1 n.2.2) t n.2.2 n.1
def mapE (ts:List T3):Nat→MapE
 |0=>[]
 |i+1=>triE (mapE ts i) (i:Nat) (gt ts i) 3
theorem passE (b:E4):passable (eE.s b)=true:=rfl
theorem put_n {l:MapE} {t a b:Int} {p:Int×Int} (hp:p=ke a b) (hk:Sx.look l p=none):putE l t a b=updL l p (edgeU t a b (p.1,p.2, -1, -1)):=by subst hp;simp[putE,edge0,hk]
theorem put_s {l:MapE} {t a b:Int} {p:Int×Int} {e:E4} (hp:p=ke a b) (hk:Sx.look l p=some e):putE l t a b=updL l p (edgeU t a b e):=by subst hp;simp[putE,edge0,hk]
theorem eU_l {t a b x y u v:Int} (h:a<b) (hu:u= -1):edgeU t a b (x,y,u,v)=(x,y,t,v):=by simp[edgeU,h,hu]
theorem eU_r {t a b x y u v:Int} (h:b<a) (hu:v= -1):edgeU t a b (x,y,u,v)=(x,y,u,t):=by simp[edgeU,h,show ¬a<b by omega,hu]
theorem eU_kl {t a b x y u v:Int} (h:a<b) (hu:u≠ -1):edgeU t a b (x,y,u,v)=(x,y,u,v):=by simp[edgeU,h,show ¬b<a by omega,hu]
theorem eU_kr {t a b x y u v:Int} (h:b<a) (hu:v≠ -1):edgeU t a b (x,y,u,v)=(x,y,u,v):=by simp[edgeU,h,show ¬a<b by omega,hu]
theorem putE_len (l:MapE) (t a b:Int):(putE l t a b).length≤l.length+1:=by
 unfold putE;rw[updL_len];split<;>omega
theorem mapE_len (ts:List T3):∀i,(mapE ts i).length≤3*i
 |0=>by simp[mapE]
 |i+1=>by
  have ih:=mapE_len ts i
  have h1:=putE_len (mapE ts i) (i:Nat) (gt ts i).1 (gt ts i).2.1
  have h2:=putE_len (putE (mapE ts i) (i:Nat) (gt ts i).1 (gt ts i).2.1) (i:Nat) (gt ts i).2.1 (gt ts i).2.2
  have h3:=putE_len (putE (putE (mapE ts i) (i:Nat) (gt ts i).1 (gt ts i).2.1) (i:Nat) (gt ts i).2.1 (gt ts i).2.2) (i:Nat) (gt ts i).2.2 (gt ts i).1
  simp only[mapE,triE]
  omega
theorem mE_len (l:MapE):(mE eE l).length=l.length:=by simp[mE]
theorem nodup_perm {n:Nat} {l:List Nat} (h:l.Nodup) (hm:∀i∈l,i<n):l.Perm ((List.range n).filter fun i=>decide (i∈l)):=by
 refine(List.perm_ext_iff_of_nodup h (List.nodup_range.sublist List.filter_sublist)).2 fun a=> ?_
 simp only[List.mem_filter,List.mem_range,decide_eq_true_eq]
 exact⟨fun ha=>⟨hm a ha,ha⟩,fun ha=>ha.2⟩
theorem nodup_len {n:Nat} {l:List Nat} (h:l.Nodup) (hm:∀i∈l,i<n):l.length≤n:=by
 rw[(nodup_perm h hm).length_eq]
 exact Nat.le_trans (List.length_filter_le _ _) (by simp)
theorem nodup_all {n:Nat} {l:List Nat} (h:l.Nodup) (hm:∀i∈l,i<n) (ha:∀i,i<n→i∈l):l.Perm (List.range n):=by
 refine(List.perm_ext_iff_of_nodup h List.nodup_range).2 fun a=> ?_
 rw[List.mem_range]
 exact⟨hm a,ha a⟩
def gE (l:MapE) (i:Nat):E4:=(l.getD i ((0,0),(0,0,0,0))).2
theorem gE_all (l:MapE):(List.range l.length).map (gE l)=l.map (·.2):=by
 apply List.ext_getElem (by simp)
 intro i h1 h2
 simp only[List.getElem_map,List.getElem_range,gE]
 rw[List.getD_eq_getElem?_getD,List.getElem?_eq_getElem (by simpa using h2)];rfl
theorem g_ClipE (l:List E4):CallOK Tryz.prog 116 [mvec 4 edA l] [] (mvec 4 edA l) [] []:=by
 refine callV (Z:=[]) tabOK mixedOK Tryz.func116 rfl (by kernel_rfl) rfl rfl (by kernel_rfl) rfl ?_
 intro W0 w0 ρ0 hE
 conv=>whnf
 (repeat(first|(refine g_o (op_lenM rfl rfl rfl (ev_ok rfl) (tgt rfl) rfl) ?_;conv=>whnf)|(refine g_o (op_sliceM rfl (ev_ok rfl) (bound_spec rfl) (bound_spec rfl) (.inr ⟨Option.some_ne_none _,_,_,rfl,ev_ok rfl⟩) (tgt rfl) rfl (tgt rfl) rfl (by omega)) ?_;conv=>whnf)|(rw[Int.toNat_natCast];conv=>whnf)))
 rw[show(l.drop (Int.toNat 0)).take (l.length - Int.toNat 0)=l by simp]
 (first|exact Recast.refl _|exact Frz.recast (Recast.refl _) rfl|(refine Frz.one rfl rfl ?_;skip)|(refine Frz.tup ?_;skip))
theorem m_edges (n:Nat) (ts:List T3) (hl:ts.length<274877906944) (h:OkTs n ts) {le:List E4} (hne:mapE ts ts.length≠[]) (hle:le.Perm ((mapE ts ts.length).map (·.2))) (hso:le.Pairwise fun x y=>cmpE x y<0):CallOK Tryz.prog 112 [mvec 3 triA ts] [] (mvec 4 edA le) [] []:=by
 refine callF (Z:=[100022,100026]) tabOK mixedOK Tryz.func112 rfl (by kernel_rfl) (by first|rfl|(simp[keylessL,keyless,keylessL_map, *];done)) (by first|rfl|(simp[keylessL,keyless,keylessL_map, *];done)) (by kernel_rfl) rfl ?_
 intro w0 ρ0 hE
 conv=>whnf
 (repeat(first|(refine g_o (op_lenM rfl rfl rfl (ev_ok rfl) (tgt rfl) rfl) ?_;conv=>whnf)|(refine⟨_,[],_,[],op_makeMap (k:=15) rfl,nil_fk,one_new rfl,nil_upd, ?_⟩;conv=>whnf)))
 refine SW_loopN hE (fun k=>k) [3,16,17,18] [15] (fun M fr hp=>∃i,M=ts.length - i∧i≤ts.length∧fr=[(3,.mp 15),(16,mvec 3 triA ts),(17,iv (ts.length:Nat)),(18,iv (i:Nat))]∧hp=[(15,⟨0,true,.mp (mE eE (mapE ts i))⟩)]) ts.length ?_ ?_ ?_
 ·kernel_rfl
 ·exact⟨0,rfl,by omega,rfl,rfl⟩
 rintro m _ _ ⟨i,rfl,hi,rfl,rfl⟩
 by_cases hlt:i<ts.length
 ·have t1:decide ((i:Int)<(ts.length:Int))=true:=decide_eq_true (by omega)
  obtain⟨a,b,c,hgn⟩:∃a b c,gt ts i=(a,b,c):=⟨_,_,_,rfl⟩
  have hg:ts.getD i (0,0,0)=(a,b,c):=hgn
  have hok:=h i hlt
  obtain⟨_,_,_,n1,n2,n3⟩:=okT_iff (n:=(n:Nat)) (t:=gt ts i) hok
  rw[hgn]at n1 n2 n3
  simp only at n1 n2 n3
  conv=>whnf
  (repeat((first|refine step_w1 rfl rfl ?_|refine g_o (op_loadA rfl (ev_ok rfl) (tgt rfl) rfl (Nat.succ_ne_zero _) rfl) ?_|refine g_o (op_indexM (α:=T3) (d:=(0,0,0)) rfl (ev_ok rfl) (ev_ok rfl) (tgt rfl) rfl (tgt rfl) rfl (by omega)) ?_|rw[t1]|rw[hg]|rw[Int.toNat_natCast]);conv=>whnf))
  refine SW_loopN hE (fun k=>k) [3,4,5,16,17,18,23] [15,5] (fun M fr hp=>∃j,M=3 - j∧j≤3∧fr=[(3,.mp 15),(4,iv (i:Nat)),(5,.ptr 5 0 0 0),(16,mvec 3 triA ts),(17,iv (ts.length:Nat)),(18,iv (i:Nat)),(23,iv (j:Nat))]∧
   hp=[(15,⟨0,true,.mp (mE eE (triE (mapE ts i) (i:Nat) (a,b,c) j))⟩),(5,⟨84,true,.one [iv a,iv b,iv c]⟩)]) 3 ?_ ?_ ?_
  ·kernel_rfl
  ·exact⟨0,rfl,by decide,rfl,rfl⟩
  rintro m _ _ ⟨j,rfl,hj,rfl,rfl⟩
  obtain rfl|rfl|rfl|rfl:j=0∨j=1∨j=2∨j=3:=by omega
  ·obtain⟨l,hL⟩:∃l,triE (mapE ts i) (i:Nat) (a,b,c) 0=l:=⟨_,rfl⟩
   have hE1:triE (mapE ts i) (i:Nat) (a,b,c) 1=putE l (i:Nat) a b:=by rw[←hL];rfl
   rw[hL]
   obtain⟨k1,hk1⟩:∃k1,(if b<a then b else a)=k1:=⟨_,rfl⟩
   obtain⟨k2,hk2⟩:∃k2,(if b>a then b else a)=k2:=⟨_,rfl⟩
   have hke:(k1,k2)=ke a b:=by rw[←hk1,←hk2];rfl
   obtain⟨x,y,u,v,he⟩:∃x y u v,(Sx.look l (k1,k2)).getD (0,0,0,0)=(x,y,u,v):=⟨_,_,_,_,rfl⟩
   conv=>whnf
   (repeat((first|refine step_w1 rfl rfl ?_|refine step_i (by kernel_rfl) ?_|refine step_oA (by first|omega|decide|(simp only[tl0,dlen,List.length_replicate,List.length_set,List.length_map,List.length_zipWith,List.length_take,List.length_append,List.length_cons,List.length_nil];omega)) ?_|refine step_oN (by first|omega|decide|(simp only[tl0,dlen,List.length_replicate,List.length_set,List.length_map,List.length_zipWith,List.length_take,List.length_append,List.length_cons,List.length_nil];omega)) ?_|refine⟨_,[(15,_)],[],[],op_lookupOk eE (0,0,0,0) (p:=(k1,k2)) rfl (ev_ok rfl) (ev_ok rfl) rfl um_e2 key_e2 zE passE (List.mem_cons_self ..),one_fk rfl,nil_new,nil_upd, ?_⟩|rw[hk1]|rw[hk2]|rw[he]|rw[Int.toNat_natCast]|rw[Nat.zero_add]);conv=>whnf))
   refine⟨fun hb=> ?_,fun hb=> ?_⟩
   ·have hP:=put_n (t:=(i:Nat)) hke (by simpa using hb)
    conv=>whnf
    (repeat(first|(rw[Nat.zero_add];conv=>whnf)))
    refine⟨fun g=> ?_,fun g=> ?_⟩
    ·have t3:decide (a>b)=false:=decide_eq_false (by have:=of_decide_eq_true g;omega)
     conv=>whnf
     (repeat((first|refine step_w1 rfl rfl ?_|refine g_o (op_pickT rfl (ev_ok rfl) (ev_ok rfl)) ?_|rw[beq_self_eq_true]|refine⟨_,[(15,_)],[],[(15,_)],op_mapUpdate eE (p:=(k1,k2)) (v:=(k1,k2,(i:Int), -1)) rfl (ev_ok rfl) (ev_ok rfl) (ev_ok rfl) rfl um_e2 key_e2 (List.mem_cons_self ..),one_fk rfl,nil_new,one_upd (List.mem_cons_self ..) rfl rfl rfl, ?_⟩|rw[g]|rw[Nat.zero_add]);conv=>whnf))
     exact⟨2,fun k=>k,[3,4,5,16,17,18,23],[15,5],by omega,by kernel_rfl,1,rfl,by decide,rfl,by rw[hE1,hP,eU_l (of_decide_eq_true g) rfl];rfl⟩
    ·have t3:b<a:=by have:=of_decide_eq_false g;omega
     have t4:decide (a>b)=true:=decide_eq_true t3
     conv=>whnf
     (repeat((first|refine step_w1 rfl rfl ?_|refine step_w2 rfl rfl ?_|refine g_o (op_pickT rfl (ev_ok rfl) (ev_ok rfl)) ?_|refine g_o (op_pickF rfl (ev_ok rfl) (ev_ok rfl)) ?_|rw[beq_self_eq_true]|refine⟨_,[(15,_)],[],[(15,_)],op_mapUpdate eE (p:=(k1,k2)) (v:=(k1,k2, -1,(i:Int))) rfl (ev_ok rfl) (ev_ok rfl) (ev_ok rfl) rfl um_e2 key_e2 (List.mem_cons_self ..),one_fk rfl,nil_new,one_upd (List.mem_cons_self ..) rfl rfl rfl, ?_⟩|rw[g]|rw[t4]|rw[Nat.zero_add]);conv=>whnf))
     exact⟨2,fun k=>k,[3,4,5,16,17,18,23],[15,5],by omega,by kernel_rfl,1,rfl,by decide,rfl,by rw[hE1,hP,eU_r t3 rfl];rfl⟩
   ·have hk:Sx.look l (k1,k2)=some (x,y,u,v):=by
     cases h:Sx.look l (k1,k2)with
     |none=>rw[h]at hb;simp at hb
     |some e=>rw[h]at he;exact congrArg some he
    have hP:=put_s (t:=(i:Nat)) hke hk
    conv=>whnf
    skip
    refine⟨fun g=> ?_,fun g=> ?_⟩
    ·have t3:decide (a>b)=false:=decide_eq_false (by have:=of_decide_eq_true g;omega)
     conv=>whnf
     (repeat((first|refine step_w1 rfl rfl ?_|refine g_o (op_pickT rfl (ev_ok rfl) (ev_ok rfl)) ?_|rw[g]|rw[Nat.zero_add]);conv=>whnf))
     refine⟨fun hu=> ?_,fun hu=> ?_⟩
     ·conv=>whnf
      (repeat(first|(refine⟨_,[(15,_)],[],[(15,_)],op_mapUpdate eE (p:=(k1,k2)) (v:=(x,y,(i:Int),v)) rfl (ev_ok rfl) (ev_ok rfl) (ev_ok rfl) rfl um_e2 key_e2 (List.mem_cons_self ..),one_fk rfl,nil_new,one_upd (List.mem_cons_self ..) rfl rfl rfl, ?_⟩;conv=>whnf)|(rw[Nat.zero_add];conv=>whnf)))
      exact⟨2,fun k=>k,[3,4,5,16,17,18,23],[15,5],by omega,by kernel_rfl,1,rfl,by decide,rfl,by rw[hE1,hP,eU_l (of_decide_eq_true g) (by simpa using hu)];rfl⟩
     ·conv=>whnf
      (repeat((first|refine step_w2 rfl rfl ?_|refine g_o (op_pickF rfl (ev_ok rfl) (ev_ok rfl)) ?_|refine⟨_,[(15,_)],[],[(15,_)],op_mapUpdate eE (p:=(k1,k2)) (v:=(x,y,u,v)) rfl (ev_ok rfl) (ev_ok rfl) (ev_ok rfl) rfl um_e2 key_e2 (List.mem_cons_self ..),one_fk rfl,nil_new,one_upd (List.mem_cons_self ..) rfl rfl rfl, ?_⟩|rw[t3]);conv=>whnf))
      exact⟨2,fun k=>k,[3,4,5,16,17,18,23],[15,5],by omega,by kernel_rfl,1,rfl,by decide,rfl,by rw[hE1,hP,eU_kl (of_decide_eq_true g) (by simpa using hu)];rfl⟩
    ·have t3:b<a:=by have:=of_decide_eq_false g;omega
     have t4:decide (a>b)=true:=decide_eq_true t3
     conv=>whnf
     (repeat((first|refine step_w1 rfl rfl ?_|refine step_w2 rfl rfl ?_|refine g_o (op_pickT rfl (ev_ok rfl) (ev_ok rfl)) ?_|refine g_o (op_pickF rfl (ev_ok rfl) (ev_ok rfl)) ?_|rw[g]|rw[t4]|rw[Nat.zero_add]);conv=>whnf))
     refine⟨fun hu=> ?_,fun hu=> ?_⟩
     ·conv=>whnf
      (repeat(first|(refine⟨_,[(15,_)],[],[(15,_)],op_mapUpdate eE (p:=(k1,k2)) (v:=(x,y,u,(i:Int))) rfl (ev_ok rfl) (ev_ok rfl) (ev_ok rfl) rfl um_e2 key_e2 (List.mem_cons_self ..),one_fk rfl,nil_new,one_upd (List.mem_cons_self ..) rfl rfl rfl, ?_⟩;conv=>whnf)|(rw[Nat.zero_add];conv=>whnf)))
      exact⟨2,fun k=>k,[3,4,5,16,17,18,23],[15,5],by omega,by kernel_rfl,1,rfl,by decide,rfl,by rw[hE1,hP,eU_r t3 (by simpa using hu)];rfl⟩
     ·conv=>whnf
      (repeat(first|(refine⟨_,[(15,_)],[],[(15,_)],op_mapUpdate eE (p:=(k1,k2)) (v:=(x,y,u,v)) rfl (ev_ok rfl) (ev_ok rfl) (ev_ok rfl) rfl um_e2 key_e2 (List.mem_cons_self ..),one_fk rfl,nil_new,one_upd (List.mem_cons_self ..) rfl rfl rfl, ?_⟩;conv=>whnf)))
      exact⟨2,fun k=>k,[3,4,5,16,17,18,23],[15,5],by omega,by kernel_rfl,1,rfl,by decide,rfl,by rw[hE1,hP,eU_kr t3 (by simpa using hu)];rfl⟩
  ·obtain⟨l,hL⟩:∃l,triE (mapE ts i) (i:Nat) (a,b,c) 1=l:=⟨_,rfl⟩
   have hE1:triE (mapE ts i) (i:Nat) (a,b,c) 2=putE l (i:Nat) b c:=by rw[←hL];rfl
   rw[hL]
   obtain⟨k1,hk1⟩:∃k1,(if c<b then c else b)=k1:=⟨_,rfl⟩
   obtain⟨k2,hk2⟩:∃k2,(if c>b then c else b)=k2:=⟨_,rfl⟩
   have hke:(k1,k2)=ke b c:=by rw[←hk1,←hk2];rfl
   obtain⟨x,y,u,v,he⟩:∃x y u v,(Sx.look l (k1,k2)).getD (0,0,0,0)=(x,y,u,v):=⟨_,_,_,_,rfl⟩
   conv=>whnf
   (repeat((first|refine step_w1 rfl rfl ?_|refine step_i (by kernel_rfl) ?_|refine step_oA (by first|omega|decide|(simp only[tl0,dlen,List.length_replicate,List.length_set,List.length_map,List.length_zipWith,List.length_take,List.length_append,List.length_cons,List.length_nil];omega)) ?_|refine step_oN (by first|omega|decide|(simp only[tl0,dlen,List.length_replicate,List.length_set,List.length_map,List.length_zipWith,List.length_take,List.length_append,List.length_cons,List.length_nil];omega)) ?_|refine⟨_,[(15,_)],[],[],op_lookupOk eE (0,0,0,0) (p:=(k1,k2)) rfl (ev_ok rfl) (ev_ok rfl) rfl um_e2 key_e2 zE passE (List.mem_cons_self ..),one_fk rfl,nil_new,nil_upd, ?_⟩|rw[hk1]|rw[hk2]|rw[he]|rw[Int.toNat_natCast]|rw[Nat.zero_add]);conv=>whnf))
   refine⟨fun hb=> ?_,fun hb=> ?_⟩
   ·have hP:=put_n (t:=(i:Nat)) hke (by simpa using hb)
    conv=>whnf
    (repeat(first|(rw[Nat.zero_add];conv=>whnf)))
    refine⟨fun g=> ?_,fun g=> ?_⟩
    ·have t3:decide (b>c)=false:=decide_eq_false (by have:=of_decide_eq_true g;omega)
     conv=>whnf
     (repeat((first|refine step_w1 rfl rfl ?_|refine g_o (op_pickT rfl (ev_ok rfl) (ev_ok rfl)) ?_|rw[beq_self_eq_true]|refine⟨_,[(15,_)],[],[(15,_)],op_mapUpdate eE (p:=(k1,k2)) (v:=(k1,k2,(i:Int), -1)) rfl (ev_ok rfl) (ev_ok rfl) (ev_ok rfl) rfl um_e2 key_e2 (List.mem_cons_self ..),one_fk rfl,nil_new,one_upd (List.mem_cons_self ..) rfl rfl rfl, ?_⟩|rw[g]|rw[Nat.zero_add]);conv=>whnf))
     exact⟨1,fun k=>k,[3,4,5,16,17,18,23],[15,5],by omega,by kernel_rfl,2,rfl,by decide,rfl,by rw[hE1,hP,eU_l (of_decide_eq_true g) rfl];rfl⟩
    ·have t3:c<b:=by have:=of_decide_eq_false g;omega
     have t4:decide (b>c)=true:=decide_eq_true t3
     conv=>whnf
     (repeat((first|refine step_w1 rfl rfl ?_|refine step_w2 rfl rfl ?_|refine g_o (op_pickT rfl (ev_ok rfl) (ev_ok rfl)) ?_|refine g_o (op_pickF rfl (ev_ok rfl) (ev_ok rfl)) ?_|rw[beq_self_eq_true]|refine⟨_,[(15,_)],[],[(15,_)],op_mapUpdate eE (p:=(k1,k2)) (v:=(k1,k2, -1,(i:Int))) rfl (ev_ok rfl) (ev_ok rfl) (ev_ok rfl) rfl um_e2 key_e2 (List.mem_cons_self ..),one_fk rfl,nil_new,one_upd (List.mem_cons_self ..) rfl rfl rfl, ?_⟩|rw[g]|rw[t4]|rw[Nat.zero_add]);conv=>whnf))
     exact⟨1,fun k=>k,[3,4,5,16,17,18,23],[15,5],by omega,by kernel_rfl,2,rfl,by decide,rfl,by rw[hE1,hP,eU_r t3 rfl];rfl⟩
   ·have hk:Sx.look l (k1,k2)=some (x,y,u,v):=by
     cases h:Sx.look l (k1,k2)with
     |none=>rw[h]at hb;simp at hb
     |some e=>rw[h]at he;exact congrArg some he
    have hP:=put_s (t:=(i:Nat)) hke hk
    conv=>whnf
    skip
    refine⟨fun g=> ?_,fun g=> ?_⟩
    ·have t3:decide (b>c)=false:=decide_eq_false (by have:=of_decide_eq_true g;omega)
     conv=>whnf
     (repeat((first|refine step_w1 rfl rfl ?_|refine g_o (op_pickT rfl (ev_ok rfl) (ev_ok rfl)) ?_|rw[g]|rw[Nat.zero_add]);conv=>whnf))
     refine⟨fun hu=> ?_,fun hu=> ?_⟩
     ·conv=>whnf
      (repeat(first|(refine⟨_,[(15,_)],[],[(15,_)],op_mapUpdate eE (p:=(k1,k2)) (v:=(x,y,(i:Int),v)) rfl (ev_ok rfl) (ev_ok rfl) (ev_ok rfl) rfl um_e2 key_e2 (List.mem_cons_self ..),one_fk rfl,nil_new,one_upd (List.mem_cons_self ..) rfl rfl rfl, ?_⟩;conv=>whnf)|(rw[Nat.zero_add];conv=>whnf)))
      exact⟨1,fun k=>k,[3,4,5,16,17,18,23],[15,5],by omega,by kernel_rfl,2,rfl,by decide,rfl,by rw[hE1,hP,eU_l (of_decide_eq_true g) (by simpa using hu)];rfl⟩
     ·conv=>whnf
      (repeat((first|refine step_w2 rfl rfl ?_|refine g_o (op_pickF rfl (ev_ok rfl) (ev_ok rfl)) ?_|refine⟨_,[(15,_)],[],[(15,_)],op_mapUpdate eE (p:=(k1,k2)) (v:=(x,y,u,v)) rfl (ev_ok rfl) (ev_ok rfl) (ev_ok rfl) rfl um_e2 key_e2 (List.mem_cons_self ..),one_fk rfl,nil_new,one_upd (List.mem_cons_self ..) rfl rfl rfl, ?_⟩|rw[t3]);conv=>whnf))
      exact⟨1,fun k=>k,[3,4,5,16,17,18,23],[15,5],by omega,by kernel_rfl,2,rfl,by decide,rfl,by rw[hE1,hP,eU_kl (of_decide_eq_true g) (by simpa using hu)];rfl⟩
    ·have t3:c<b:=by have:=of_decide_eq_false g;omega
     have t4:decide (b>c)=true:=decide_eq_true t3
     conv=>whnf
     (repeat((first|refine step_w1 rfl rfl ?_|refine step_w2 rfl rfl ?_|refine g_o (op_pickT rfl (ev_ok rfl) (ev_ok rfl)) ?_|refine g_o (op_pickF rfl (ev_ok rfl) (ev_ok rfl)) ?_|rw[g]|rw[t4]|rw[Nat.zero_add]);conv=>whnf))
     refine⟨fun hu=> ?_,fun hu=> ?_⟩
     ·conv=>whnf
      (repeat(first|(refine⟨_,[(15,_)],[],[(15,_)],op_mapUpdate eE (p:=(k1,k2)) (v:=(x,y,u,(i:Int))) rfl (ev_ok rfl) (ev_ok rfl) (ev_ok rfl) rfl um_e2 key_e2 (List.mem_cons_self ..),one_fk rfl,nil_new,one_upd (List.mem_cons_self ..) rfl rfl rfl, ?_⟩;conv=>whnf)|(rw[Nat.zero_add];conv=>whnf)))
      exact⟨1,fun k=>k,[3,4,5,16,17,18,23],[15,5],by omega,by kernel_rfl,2,rfl,by decide,rfl,by rw[hE1,hP,eU_r t3 (by simpa using hu)];rfl⟩
     ·conv=>whnf
      (repeat(first|(refine⟨_,[(15,_)],[],[(15,_)],op_mapUpdate eE (p:=(k1,k2)) (v:=(x,y,u,v)) rfl (ev_ok rfl) (ev_ok rfl) (ev_ok rfl) rfl um_e2 key_e2 (List.mem_cons_self ..),one_fk rfl,nil_new,one_upd (List.mem_cons_self ..) rfl rfl rfl, ?_⟩;conv=>whnf)))
      exact⟨1,fun k=>k,[3,4,5,16,17,18,23],[15,5],by omega,by kernel_rfl,2,rfl,by decide,rfl,by rw[hE1,hP,eU_kr t3 (by simpa using hu)];rfl⟩
  ·obtain⟨l,hL⟩:∃l,triE (mapE ts i) (i:Nat) (a,b,c) 2=l:=⟨_,rfl⟩
   have hE1:triE (mapE ts i) (i:Nat) (a,b,c) 3=putE l (i:Nat) c a:=by rw[←hL];rfl
   rw[hL]
   obtain⟨k1,hk1⟩:∃k1,(if a<c then a else c)=k1:=⟨_,rfl⟩
   obtain⟨k2,hk2⟩:∃k2,(if a>c then a else c)=k2:=⟨_,rfl⟩
   have hke:(k1,k2)=ke c a:=by rw[←hk1,←hk2];rfl
   obtain⟨x,y,u,v,he⟩:∃x y u v,(Sx.look l (k1,k2)).getD (0,0,0,0)=(x,y,u,v):=⟨_,_,_,_,rfl⟩
   conv=>whnf
   (repeat((first|refine step_w1 rfl rfl ?_|refine step_i (by kernel_rfl) ?_|refine step_oA (by first|omega|decide|(simp only[tl0,dlen,List.length_replicate,List.length_set,List.length_map,List.length_zipWith,List.length_take,List.length_append,List.length_cons,List.length_nil];omega)) ?_|refine step_oN (by first|omega|decide|(simp only[tl0,dlen,List.length_replicate,List.length_set,List.length_map,List.length_zipWith,List.length_take,List.length_append,List.length_cons,List.length_nil];omega)) ?_|refine⟨_,[(15,_)],[],[],op_lookupOk eE (0,0,0,0) (p:=(k1,k2)) rfl (ev_ok rfl) (ev_ok rfl) rfl um_e2 key_e2 zE passE (List.mem_cons_self ..),one_fk rfl,nil_new,nil_upd, ?_⟩|rw[hk1]|rw[hk2]|rw[he]|rw[Int.toNat_natCast]|rw[Nat.zero_add]);conv=>whnf))
   refine⟨fun hb=> ?_,fun hb=> ?_⟩
   ·have hP:=put_n (t:=(i:Nat)) hke (by simpa using hb)
    conv=>whnf
    (repeat(first|(rw[Nat.zero_add];conv=>whnf)))
    refine⟨fun g=> ?_,fun g=> ?_⟩
    ·have t3:decide (c>a)=false:=decide_eq_false (by have:=of_decide_eq_true g;omega)
     conv=>whnf
     (repeat((first|refine step_w1 rfl rfl ?_|refine g_o (op_pickT rfl (ev_ok rfl) (ev_ok rfl)) ?_|rw[beq_self_eq_true]|refine⟨_,[(15,_)],[],[(15,_)],op_mapUpdate eE (p:=(k1,k2)) (v:=(k1,k2,(i:Int), -1)) rfl (ev_ok rfl) (ev_ok rfl) (ev_ok rfl) rfl um_e2 key_e2 (List.mem_cons_self ..),one_fk rfl,nil_new,one_upd (List.mem_cons_self ..) rfl rfl rfl, ?_⟩|rw[g]|rw[Nat.zero_add]);conv=>whnf))
     exact⟨0,fun k=>k,[3,4,5,16,17,18,23],[15,5],by omega,by kernel_rfl,3,rfl,by decide,rfl,by rw[hE1,hP,eU_l (of_decide_eq_true g) rfl];rfl⟩
    ·have t3:a<c:=by have:=of_decide_eq_false g;omega
     have t4:decide (c>a)=true:=decide_eq_true t3
     conv=>whnf
     (repeat((first|refine step_w1 rfl rfl ?_|refine step_w2 rfl rfl ?_|refine g_o (op_pickT rfl (ev_ok rfl) (ev_ok rfl)) ?_|refine g_o (op_pickF rfl (ev_ok rfl) (ev_ok rfl)) ?_|rw[beq_self_eq_true]|refine⟨_,[(15,_)],[],[(15,_)],op_mapUpdate eE (p:=(k1,k2)) (v:=(k1,k2, -1,(i:Int))) rfl (ev_ok rfl) (ev_ok rfl) (ev_ok rfl) rfl um_e2 key_e2 (List.mem_cons_self ..),one_fk rfl,nil_new,one_upd (List.mem_cons_self ..) rfl rfl rfl, ?_⟩|rw[g]|rw[t4]|rw[Nat.zero_add]);conv=>whnf))
     exact⟨0,fun k=>k,[3,4,5,16,17,18,23],[15,5],by omega,by kernel_rfl,3,rfl,by decide,rfl,by rw[hE1,hP,eU_r t3 rfl];rfl⟩
   ·have hk:Sx.look l (k1,k2)=some (x,y,u,v):=by
     cases h:Sx.look l (k1,k2)with
     |none=>rw[h]at hb;simp at hb
     |some e=>rw[h]at he;exact congrArg some he
    have hP:=put_s (t:=(i:Nat)) hke hk
    conv=>whnf
    skip
    refine⟨fun g=> ?_,fun g=> ?_⟩
    ·have t3:decide (c>a)=false:=decide_eq_false (by have:=of_decide_eq_true g;omega)
     conv=>whnf
     (repeat((first|refine step_w1 rfl rfl ?_|refine g_o (op_pickT rfl (ev_ok rfl) (ev_ok rfl)) ?_|rw[g]|rw[Nat.zero_add]);conv=>whnf))
     refine⟨fun hu=> ?_,fun hu=> ?_⟩
     ·conv=>whnf
      (repeat(first|(refine⟨_,[(15,_)],[],[(15,_)],op_mapUpdate eE (p:=(k1,k2)) (v:=(x,y,(i:Int),v)) rfl (ev_ok rfl) (ev_ok rfl) (ev_ok rfl) rfl um_e2 key_e2 (List.mem_cons_self ..),one_fk rfl,nil_new,one_upd (List.mem_cons_self ..) rfl rfl rfl, ?_⟩;conv=>whnf)|(rw[Nat.zero_add];conv=>whnf)))
      exact⟨0,fun k=>k,[3,4,5,16,17,18,23],[15,5],by omega,by kernel_rfl,3,rfl,by decide,rfl,by rw[hE1,hP,eU_l (of_decide_eq_true g) (by simpa using hu)];rfl⟩
     ·conv=>whnf
      (repeat((first|refine step_w2 rfl rfl ?_|refine g_o (op_pickF rfl (ev_ok rfl) (ev_ok rfl)) ?_|refine⟨_,[(15,_)],[],[(15,_)],op_mapUpdate eE (p:=(k1,k2)) (v:=(x,y,u,v)) rfl (ev_ok rfl) (ev_ok rfl) (ev_ok rfl) rfl um_e2 key_e2 (List.mem_cons_self ..),one_fk rfl,nil_new,one_upd (List.mem_cons_self ..) rfl rfl rfl, ?_⟩|rw[t3]);conv=>whnf))
      exact⟨0,fun k=>k,[3,4,5,16,17,18,23],[15,5],by omega,by kernel_rfl,3,rfl,by decide,rfl,by rw[hE1,hP,eU_kl (of_decide_eq_true g) (by simpa using hu)];rfl⟩
    ·have t3:a<c:=by have:=of_decide_eq_false g;omega
     have t4:decide (c>a)=true:=decide_eq_true t3
     conv=>whnf
     (repeat((first|refine step_w1 rfl rfl ?_|refine step_w2 rfl rfl ?_|refine g_o (op_pickT rfl (ev_ok rfl) (ev_ok rfl)) ?_|refine g_o (op_pickF rfl (ev_ok rfl) (ev_ok rfl)) ?_|rw[g]|rw[t4]|rw[Nat.zero_add]);conv=>whnf))
     refine⟨fun hu=> ?_,fun hu=> ?_⟩
     ·conv=>whnf
      (repeat(first|(refine⟨_,[(15,_)],[],[(15,_)],op_mapUpdate eE (p:=(k1,k2)) (v:=(x,y,u,(i:Int))) rfl (ev_ok rfl) (ev_ok rfl) (ev_ok rfl) rfl um_e2 key_e2 (List.mem_cons_self ..),one_fk rfl,nil_new,one_upd (List.mem_cons_self ..) rfl rfl rfl, ?_⟩;conv=>whnf)|(rw[Nat.zero_add];conv=>whnf)))
      exact⟨0,fun k=>k,[3,4,5,16,17,18,23],[15,5],by omega,by kernel_rfl,3,rfl,by decide,rfl,by rw[hE1,hP,eU_r t3 (by simpa using hu)];rfl⟩
     ·conv=>whnf
      (repeat(first|(refine⟨_,[(15,_)],[],[(15,_)],op_mapUpdate eE (p:=(k1,k2)) (v:=(x,y,u,v)) rfl (ev_ok rfl) (ev_ok rfl) (ev_ok rfl) rfl um_e2 key_e2 (List.mem_cons_self ..),one_fk rfl,nil_new,one_upd (List.mem_cons_self ..) rfl rfl rfl, ?_⟩;conv=>whnf)))
      exact⟨0,fun k=>k,[3,4,5,16,17,18,23],[15,5],by omega,by kernel_rfl,3,rfl,by decide,rfl,by rw[hE1,hP,eU_kr t3 (by simpa using hu)];rfl⟩
  ·have wi:=winc (i:=i) (by omega)
   conv=>whnf
   (repeat(first|(refine step_w2 rfl rfl ?_;conv=>whnf)|(rw[wi];conv=>whnf)))
   exact⟨ts.length - (i+1),fun k=>k,[3,16,17,18],[15],by omega,by kernel_rfl,i+1,rfl,by omega,rfl,by simp only[mapE,hgn];rfl⟩
 ·obtain rfl:i=ts.length:=by omega
  have t1:decide ((ts.length:Int)<(ts.length:Int))=false:=decide_eq_false (by omega)
  have hml:=mapE_len ts ts.length
  generalize mapE ts ts.length=l at*
  conv=>whnf
  have hl2:(mE eE l).length=l.length:=mE_len l
  (repeat(first|(refine step_w2 rfl rfl ?_;conv=>whnf)|(refine⟨_,[(15,_)],[],[],op_lenMap rfl rfl rfl (ev_ok rfl) um_e2 (List.mem_cons_self ..),one_fk rfl,nil_new,nil_upd, ?_⟩;conv=>whnf)|(refine⟨_,[(15,_)],[(85,_)],[],op_range (j:=85) rfl (ev_ok rfl) um_e2 (List.mem_cons_self ..),one_fk rfl,one_new rfl,nil_upd, ?_⟩;conv=>whnf)|(refine⟨⟨Int.le_refl _,by omega,by simp only[tiB154];omega,by omega⟩, ?_⟩;conv=>whnf)|(rw[t1];conv=>whnf)|(rw[hl2];conv=>whnf)))
  refine SW_loopN hE (fun k=>k) [12,85] [15,83,85] (fun M fr hp=>∃seen:List Nat,seen.Nodup∧(∀i∈seen,i<l.length)∧M=l.length - seen.length∧fr=[(12,.slc 83 4 0 seen.length),(85,.ptr 85 0 0 0)]∧
   hp=[(15,⟨0,true,.mp (mE eE l)⟩),(83,⟨154,true,.seq 4 ((seen.map fun i=>gE l i).map edA)⟩),(85,⟨0,true,.mit 15 seen l.length⟩)]) l.length ?_ ?_ ?_
  ·kernel_rfl
  ·exact⟨[],.nil,(fun _ h=>by cases h),rfl,rfl,rfl⟩
  rintro m _ _ ⟨seen,hnd,hsl,rfl,rfl,rfl⟩
  conv=>whnf
  refine SWx_next hE (k:=15) eE (rest:=[_]) rfl rfl rfl rfl (fun t ht=> ?_) (ev_ok rfl) passE rfl rfl (by decide) (fun hall=> ?_) (fun i p v hni hi=> ?_)
  ·rcases List.mem_singleton.1 ht with rfl
   exact⟨_,rfl⟩
  ·have hpm:le.Perm (seen.map (gE l)):=by
    refine hle.trans ?_
    rw[←gE_all]
    exact((nodup_all hnd hsl hall).map _).symm
   have hsn:=nodup_len hnd hsl
   have hs0:seen.map (gE l)≠[]:=by
    intro h0
    rw[h0]at hpm
    have:=hle.length_eq
    rw[hpm.length_eq]at this
    exact hne (by simpa using this.symm)
   have ks:=m_sortE 83 hs0 (by rw[List.length_map];omega) hpm hso
   rw[List.length_map]at ks
   have hll:seen.length=le.length:=by rw[hpm.length_eq,List.length_map]
   have kc:=g_ClipE le
   conv=>whnf
   (repeat(first|(refine step_w2 rfl rfl ?_;conv=>whnf)|(refine g_c1u (by assumption) rfl rfl ?_;conv=>whnf)))
   refine SWx_freezeM 12 83 (fun _ h=>h) (fun _=>rfl) rfl rfl hll ?_
   refine SWx_go hE ?_
   conv=>whnf
   (repeat(first|(refine g_c (by assumption) ?_;conv=>whnf)))
   (first|exact Recast.refl _|exact Frz.recast (Recast.refl _) rfl|(refine Frz.one rfl rfl ?_;skip)|(refine Frz.tup ?_;skip))
  ·have hg:gE l i=v:=by simp[gE,List.getD_eq_getElem?_getD,hi]
   have hil:i<l.length:=(List.getElem?_eq_some_iff.1 hi).1
   have hnd2:(seen++[i]).Nodup:=by
    rw[List.nodup_append]
    exact⟨hnd,by simp,fun a ha b hb=>by rintro rfl;exact hni (List.mem_singleton.1 hb▸ha)⟩
   have hsl2:∀j∈seen++[i],j<l.length:=by
    intro j hj
    rcases List.mem_append.1 hj with h|h
    ·exact hsl j h
    ·rw[List.mem_singleton.1 h];exact hil
   have hsn:=nodup_len hnd2 hsl2
   rw[List.length_append,List.length_singleton]at hsn
   conv=>whnf
   (repeat(first|(refine step_w1 rfl rfl ?_;conv=>whnf)|(refine⟨_,[(85,_),(15,_)],[],[],op_entry (i:=i) eE rfl (ev_ok rfl) passE (List.mem_cons_self ..) (List.mem_cons_of_mem _ (List.mem_cons_self ..)) hi,two_fk rfl rfl,nil_new,nil_upd, ?_⟩;conv=>whnf)|(refine⟨⟨by simp[dlen],by simp[dlen],by simp only[tiB154];omega,by omega⟩, ?_⟩;conv=>whnf)))
   refine⟨l.length - (seen.length+1),renBy [(93,83)],[12,85],[15,93,85],by omega,by kernel_rfl,seen++[i],hnd2,hsl2,by simp, ?_, ?_⟩
   ·rw[List.length_append];rfl
   ·rw[List.map_append,List.map_append,List.map_singleton,List.map_singleton,hg]
    have e:List.take seen.length (List.map edA (List.map (fun i=>gE l i) seen))=List.map edA (List.map (fun i=>gE l i) seen):=List.take_of_length_le (by simp)
    conv=>rhs;rw[←e]
    rfl
end Go.Proofs.YthaeohlijigplaaGreat
