/- The texts Kw, Kx. -/
import Derived.Test.YtfpagioknjjacaaGreatDoorQMMatsKnown8
namespace Go.Proofs.YtfpagioknjjacaaGreatDoor
open Go.Sx
set_option linter.unusedSimpArgs false
set_option linter.unusedVariables false
set_option maxRecDepth 100000
set_option maxHeartbeats 40000000
def plF (n:Nat) (p:Int):Int:=p % (n:Int)
def places (l:List Int) (n:Nat) (b:Bool):List Int:=(if b then(List.range n).map (fun i=>((i:Nat):Int))else[])++(if n=0 then[]else l.map (plF n))
theorem places_in {l:List Int} {n:Nat} {b:Bool}:∀x∈places l n b,0≤x∧x<(n:Int):=by
 intro x hx
 rcases List.mem_append.1 hx with h|h
 ·cases b
  ·simp at h
  ·rw[if_pos rfl]at h
   obtain⟨i,hi,rfl⟩:=List.mem_map.1 h
   have:=List.mem_range.1 hi
   omega
 ·by_cases hn:n=0
  ·rw[if_pos hn]at h;cases h
  ·rw[if_neg hn]at h
   obtain⟨y,hy,rfl⟩:=List.mem_map.1 h
   exact⟨Int.emod_nonneg _ (by omega),Int.emod_lt_of_pos _ (by omega)⟩
abbrev iblkM (l:List Int):Blk:=⟨3,true,.ints .i64 l⟩
theorem take_range (n i:Nat) (h:i<n):((List.range n).map (fun i=>((i:Nat):Int))).getD i 0=(i:Int):=by simp[List.getD_eq_getElem?_getD,h]
theorem wrap_mod {p:Int} {n:Nat} (hp: -9223372036854775808≤p∧p<9223372036854775808) (hn:0<n) (hn2:n<1000):IntKind.i64.wrap (p.tmod n)=p.tmod n∧(p.tmod n<0→IntKind.i64.wrap (p.tmod n+n)=plF n p)∧(¬p.tmod n<0→p.tmod n=plF n p):=by
 have h1:0≤p→p.tmod n=p % n:=fun h=>Int.tmod_eq_emod_of_nonneg h
 have h2:=Int.emod_nonneg p (show(n:Int)≠0 by omega)
 have h3:=Int.emod_lt_of_pos p (show(0:Int)<n by omega)
 have h4:=Int.lt_tmod_of_pos p (show(0:Int)<n by omega)
 have h5:=Int.tmod_lt_of_pos p (show(0:Int)<n by omega)
 have h6:=Int.tmod_eq_emod (a:=p) (b:=n)
 unfold plF
 refine⟨wrap_i64 (by omega) (by omega),fun h=> ?_,fun h=> ?_⟩
 ·rw[wrap_i64 (by omega) (by omega)]
  rw[h6]at h ⊢
  split at h
  ·omega
  ·rename_i h7
   rw[if_neg h7];simp
 ·rw[h6]at h ⊢
  split
  ·simp
  ·rename_i h7
   rw[if_neg h7]at h
   simp at h
   omega
theorem app_int {l:List Int} {x:Int}:iblkM (l++[x])=⟨3,true,.ints .i64 (List.take l.length l++List.take 1 (List.drop 0 [x]))⟩:=by
 rw[iblkM,List.take_of_length_le (Nat.le_refl _)];rfl
theorem take_snocI {l:List Int} {j:Nat} (h:j<l.length) (f:Int→Int):(l.take (j+1)).map f=(l.take j).map f++[f (l.getD j 0)]:=by
 rw[List.take_add_one,List.getD_eq_getElem?_getD,List.getElem?_eq_getElem h,List.map_append];rfl
theorem c_places (l:List Int) (hl:l.length≤1000) (hb:∀p∈l, -9223372036854775808≤p∧p<9223372036854775808) {n:Nat} (hn:n≤100) (b:Bool):
  CallOK Tryz.prog 96 [ivec .i64 l,iv n,.val (.bool b)] [] (ivec .i64 (places l n b)) [] []:=by
 cases b
 ·refine callF (Z:=[]) tabOK mixedOK Tryz.func96 rfl (by kernel_rfl) (by first|rfl|(simp[keylessL,keyless,keylessL_map, *];done)) (by first|rfl|(simp[keylessL,keyless,keylessL_map, *];done)) (by kernel_rfl) rfl ?_
  intro w0 ρ0 hE
  conv=>whnf
  skip
  refine SWx_adopt (t:=7) (k:=2001) (s:=1) (blk:=iblkM []) rfl rfl rfl ?_
  refine SW_loopN hE (fun k=>k) [0,1,2,7,8] [2001] (fun m fr hp=>m=0∧fr=[(0,ivec .i64 l),(1,iv n),(2,.val (.bool false)),(7,.slc 2001 1 0 0),(8,iv (0:Nat))]∧hp=[(2001,iblkM [])]) 0 ?_ ?_ ?_
  ·kernel_rfl
  ·exact⟨rfl,rfl,rfl⟩
  rintro m _ _ ⟨rfl,rfl,rfl⟩
  conv=>whnf
  by_cases h0:0<n
  ·have t1:decide (((0:Nat):Int)<(n:Int))=true:=dlt h0
   (repeat((first|refine step_w2 rfl rfl ?_|refine g_o (op_pickT rfl (ev_ok rfl) (ev_ok rfl)) ?_|refine tst_tt t1 ?_|rw[t1]);conv=>whnf))
   refine SW_loopN hE (fun k=>k) [0,1,7,9] [2001] (fun m fr hp=>∃j:Nat,m=l.length - j∧j≤l.length∧(n=0→j=0)∧fr=[(0,ivec .i64 l),(1,iv n),(7,.slc 2001 1 0 (0+j)),(9,iv (j:Nat))]∧hp=[(2001,iblkM (([]:List Int)++(l.take j).map (plF n)))]) l.length ?_ ?_ ?_
   ·kernel_rfl
   ·exact⟨0,rfl,Nat.zero_le _,fun _=>rfl,rfl,by rw[show(([]:List Int)++(l.take 0).map (plF n))=([]:List Int)from by simp];rfl⟩
   rintro m _ _ ⟨j,rfl,hj,hj0,rfl,rfl⟩
   have lq:(([]:List Int)++(l.take j).map (plF n)).length=0+j:=by simp;omega
   conv=>whnf
   by_cases hlt:j<l.length
   ·have u1:=dlt hlt
    by_cases hn0:0<n
    ·have u2:decide ((n:Int)>0)=true:=decide_eq_true (by omega)
     have u3:=winc (i:=j) (by omega)
     obtain⟨w1,w2,w3⟩:=wrap_mod (hb _ (getD_mem (d:=0) hlt)) hn0 (by omega)
     have e1:=app_int (l:=([]:List Int)++(l.take j).map (plF n)) (x:=plF n (l.getD j 0))
     rw[List.append_assoc,←take_snocI hlt,lq]at e1
     by_cases hneg:(l.getD j 0).tmod n<0
     ·have u4:decide ((l.getD j 0).tmod n<0)=true:=decide_eq_true hneg
      have w2:=w2 hneg
      (repeat((first|refine step_oA (by first|omega|decide|(simp only[tl0,dlen,List.length_replicate,List.length_set,List.length_map,List.length_zipWith,List.length_take,List.length_append,List.length_cons,List.length_nil];omega)) ?_|refine step_oN (by first|omega|decide|(simp only[tl0,dlen,List.length_replicate,List.length_set,List.length_map,List.length_zipWith,List.length_take,List.length_append,List.length_cons,List.length_nil];omega)) ?_|refine g_o (op_pickT rfl (ev_ok rfl) (ev_ok rfl)) ?_|refine tst_tt u1 ?_|refine tst_tt u2 ?_|refine tst_tt u4 ?_|refine g_o (op_lenM rfl rfl rfl (ev_ok rfl) (tgt rfl) rfl) ?_|refine g_o (op_loadA rfl (ev_ok rfl) (tgt rfl) rfl (Nat.succ_ne_zero _) rfl) ?_|refine g_o (op_indexN (α:=Int) (d:=0) rfl (ev_ok rfl) (ev_ok rfl) (tgt rfl) rfl (tgt rfl) rfl (by omega)) ?_|rw[u1]|rw[u2]|rw[u4]|rw[u3]|rw[w2]|rw[Nat.zero_add]);conv=>whnf))
      refine⟨l.length - (j+1),renBy [(47,2001)],[0,1,7,9],[47],by omega,by kernel_rfl,j+1,rfl,hlt,fun h=>by omega,by first|rfl|(rw[Nat.zero_add];rfl), ?_⟩
      rw[e1];first|rfl|(rw[Nat.zero_add];rfl)
     ·have u4:decide ((l.getD j 0).tmod n<0)=false:=decide_eq_false hneg
      have w3:=w3 hneg
      (repeat((first|refine step_oA (by first|omega|decide|(simp only[tl0,dlen,List.length_replicate,List.length_set,List.length_map,List.length_zipWith,List.length_take,List.length_append,List.length_cons,List.length_nil];omega)) ?_|refine step_oN (by first|omega|decide|(simp only[tl0,dlen,List.length_replicate,List.length_set,List.length_map,List.length_zipWith,List.length_take,List.length_append,List.length_cons,List.length_nil];omega)) ?_|refine g_o (op_pickT rfl (ev_ok rfl) (ev_ok rfl)) ?_|refine tst_tt u1 ?_|refine tst_tt u2 ?_|refine tst_ff u4 ?_|refine g_o (op_lenM rfl rfl rfl (ev_ok rfl) (tgt rfl) rfl) ?_|refine g_o (op_loadA rfl (ev_ok rfl) (tgt rfl) rfl (Nat.succ_ne_zero _) rfl) ?_|refine g_o (op_indexN (α:=Int) (d:=0) rfl (ev_ok rfl) (ev_ok rfl) (tgt rfl) rfl (tgt rfl) rfl (by omega)) ?_|rw[u1]|rw[u2]|rw[u4]|rw[u3]|rw[Nat.zero_add]);conv=>whnf))
      refine⟨l.length - (j+1),renBy [(47,2001)],[0,1,7,9],[47],by omega,by kernel_rfl,j+1,rfl,hlt,fun h=>by omega,by first|rfl|(rw[Nat.zero_add];rfl), ?_⟩
      rw[e1,←w3];first|rfl|(rw[Nat.zero_add];rfl)
    ·have u2:decide ((n:Int)>0)=false:=decide_eq_false (by omega)
     obtain rfl:=hj0 (by omega)
     (repeat((first|refine g_o (op_pickT rfl (ev_ok rfl) (ev_ok rfl)) ?_|refine tst_tt u1 ?_|refine tst_ff u2 ?_|refine g_o (op_lenM rfl rfl rfl (ev_ok rfl) (tgt rfl) rfl) ?_|rw[u1]|rw[Nat.zero_add]);conv=>whnf))
     rw[show places l n false=([]:List Int)++(l.take 0).map (plF n) by simp[places];omega]
     (first|exact Recast.refl _|exact Frz.recast (Recast.refl _) rfl|(refine Frz.one rfl rfl ?_;(repeat(first|(refine FrzC.ints rfl ?_;(first|rfl|omega|(simp<;>fail)|(simp<;>omega))))))|(refine Frz.tup ?_;skip))
   ·have u1:=dge hlt
    obtain rfl:j=l.length:=by omega
    (repeat((first|refine step_w2 rfl rfl ?_|refine g_o (op_pickF rfl (ev_ok rfl) (ev_ok rfl)) ?_|refine tst_ff u1 ?_|refine g_o (op_lenM rfl rfl rfl (ev_ok rfl) (tgt rfl) rfl) ?_|rw[u1]|rw[Nat.zero_add]);conv=>whnf))
    rw[show places l n false=([]:List Int)++(l.take l.length).map (plF n) by
     rw[List.take_length]
     by_cases hn0:n=0
     ·have:=hj0 hn0
      have hl0:l=[]:=List.length_eq_zero_iff.1 this
      simp[places,hl0]
     ·simp[places,hn0]]
    (first|exact Recast.refl _|exact Frz.recast (Recast.refl _) rfl|(refine Frz.one rfl rfl ?_;(repeat(first|(refine FrzC.ints rfl ?_;(first|rfl|omega|(simp<;>fail)|(simp<;>omega))))))|(refine Frz.tup ?_;skip))
  ·have t1:decide (((0:Nat):Int)<(n:Int))=false:=dge h0
   (repeat((first|refine step_w2 rfl rfl ?_|refine g_o (op_pickF rfl (ev_ok rfl) (ev_ok rfl)) ?_|refine tst_ff t1 ?_|rw[t1]);conv=>whnf))
   refine SW_loopN hE (fun k=>k) [0,1,7,9] [2001] (fun m fr hp=>∃j:Nat,m=l.length - j∧j≤l.length∧(n=0→j=0)∧fr=[(0,ivec .i64 l),(1,iv n),(7,.slc 2001 1 0 (0+j)),(9,iv (j:Nat))]∧hp=[(2001,iblkM (([]:List Int)++(l.take j).map (plF n)))]) l.length ?_ ?_ ?_
   ·kernel_rfl
   ·exact⟨0,rfl,Nat.zero_le _,fun _=>rfl,rfl,by rw[show(([]:List Int)++(l.take 0).map (plF n))=([]:List Int)from by simp];rfl⟩
   rintro m _ _ ⟨j,rfl,hj,hj0,rfl,rfl⟩
   have lq:(([]:List Int)++(l.take j).map (plF n)).length=0+j:=by simp;omega
   conv=>whnf
   by_cases hlt:j<l.length
   ·have u1:=dlt hlt
    by_cases hn0:0<n
    ·have u2:decide ((n:Int)>0)=true:=decide_eq_true (by omega)
     have u3:=winc (i:=j) (by omega)
     obtain⟨w1,w2,w3⟩:=wrap_mod (hb _ (getD_mem (d:=0) hlt)) hn0 (by omega)
     have e1:=app_int (l:=([]:List Int)++(l.take j).map (plF n)) (x:=plF n (l.getD j 0))
     rw[List.append_assoc,←take_snocI hlt,lq]at e1
     by_cases hneg:(l.getD j 0).tmod n<0
     ·have u4:decide ((l.getD j 0).tmod n<0)=true:=decide_eq_true hneg
      have w2:=w2 hneg
      (repeat((first|refine step_oA (by first|omega|decide|(simp only[tl0,dlen,List.length_replicate,List.length_set,List.length_map,List.length_zipWith,List.length_take,List.length_append,List.length_cons,List.length_nil];omega)) ?_|refine step_oN (by first|omega|decide|(simp only[tl0,dlen,List.length_replicate,List.length_set,List.length_map,List.length_zipWith,List.length_take,List.length_append,List.length_cons,List.length_nil];omega)) ?_|refine g_o (op_pickT rfl (ev_ok rfl) (ev_ok rfl)) ?_|refine tst_tt u1 ?_|refine tst_tt u2 ?_|refine tst_tt u4 ?_|refine g_o (op_lenM rfl rfl rfl (ev_ok rfl) (tgt rfl) rfl) ?_|refine g_o (op_loadA rfl (ev_ok rfl) (tgt rfl) rfl (Nat.succ_ne_zero _) rfl) ?_|refine g_o (op_indexN (α:=Int) (d:=0) rfl (ev_ok rfl) (ev_ok rfl) (tgt rfl) rfl (tgt rfl) rfl (by omega)) ?_|rw[u1]|rw[u2]|rw[u4]|rw[u3]|rw[w2]|rw[Nat.zero_add]);conv=>whnf))
      refine⟨l.length - (j+1),renBy [(47,2001)],[0,1,7,9],[47],by omega,by kernel_rfl,j+1,rfl,hlt,fun h=>by omega,by first|rfl|(rw[Nat.zero_add];rfl), ?_⟩
      rw[e1];first|rfl|(rw[Nat.zero_add];rfl)
     ·have u4:decide ((l.getD j 0).tmod n<0)=false:=decide_eq_false hneg
      have w3:=w3 hneg
      (repeat((first|refine step_oA (by first|omega|decide|(simp only[tl0,dlen,List.length_replicate,List.length_set,List.length_map,List.length_zipWith,List.length_take,List.length_append,List.length_cons,List.length_nil];omega)) ?_|refine step_oN (by first|omega|decide|(simp only[tl0,dlen,List.length_replicate,List.length_set,List.length_map,List.length_zipWith,List.length_take,List.length_append,List.length_cons,List.length_nil];omega)) ?_|refine g_o (op_pickT rfl (ev_ok rfl) (ev_ok rfl)) ?_|refine tst_tt u1 ?_|refine tst_tt u2 ?_|refine tst_ff u4 ?_|refine g_o (op_lenM rfl rfl rfl (ev_ok rfl) (tgt rfl) rfl) ?_|refine g_o (op_loadA rfl (ev_ok rfl) (tgt rfl) rfl (Nat.succ_ne_zero _) rfl) ?_|refine g_o (op_indexN (α:=Int) (d:=0) rfl (ev_ok rfl) (ev_ok rfl) (tgt rfl) rfl (tgt rfl) rfl (by omega)) ?_|rw[u1]|rw[u2]|rw[u4]|rw[u3]|rw[Nat.zero_add]);conv=>whnf))
      refine⟨l.length - (j+1),renBy [(47,2001)],[0,1,7,9],[47],by omega,by kernel_rfl,j+1,rfl,hlt,fun h=>by omega,by first|rfl|(rw[Nat.zero_add];rfl), ?_⟩
      rw[e1,←w3];first|rfl|(rw[Nat.zero_add];rfl)
    ·have u2:decide ((n:Int)>0)=false:=decide_eq_false (by omega)
     obtain rfl:=hj0 (by omega)
     (repeat((first|refine g_o (op_pickT rfl (ev_ok rfl) (ev_ok rfl)) ?_|refine tst_tt u1 ?_|refine tst_ff u2 ?_|refine g_o (op_lenM rfl rfl rfl (ev_ok rfl) (tgt rfl) rfl) ?_|rw[u1]|rw[Nat.zero_add]);conv=>whnf))
     rw[show places l n false=([]:List Int)++(l.take 0).map (plF n) by simp[places];omega]
     (first|exact Recast.refl _|exact Frz.recast (Recast.refl _) rfl|(refine Frz.one rfl rfl ?_;(repeat(first|(refine FrzC.ints rfl ?_;(first|rfl|omega|(simp<;>fail)|(simp<;>omega))))))|(refine Frz.tup ?_;skip))
   ·have u1:=dge hlt
    obtain rfl:j=l.length:=by omega
    (repeat((first|refine step_w2 rfl rfl ?_|refine g_o (op_pickF rfl (ev_ok rfl) (ev_ok rfl)) ?_|refine tst_ff u1 ?_|refine g_o (op_lenM rfl rfl rfl (ev_ok rfl) (tgt rfl) rfl) ?_|rw[u1]|rw[Nat.zero_add]);conv=>whnf))
    rw[show places l n false=([]:List Int)++(l.take l.length).map (plF n) by
     rw[List.take_length]
     by_cases hn0:n=0
     ·have:=hj0 hn0
      have hl0:l=[]:=List.length_eq_zero_iff.1 this
      simp[places,hl0]
     ·simp[places,hn0]]
    (first|exact Recast.refl _|exact Frz.recast (Recast.refl _) rfl|(refine Frz.one rfl rfl ?_;(repeat(first|(refine FrzC.ints rfl ?_;(first|rfl|omega|(simp<;>fail)|(simp<;>omega))))))|(refine Frz.tup ?_;skip))
 ·refine callF (Z:=[]) tabOK mixedOK Tryz.func96 rfl (by kernel_rfl) (by first|rfl|(simp[keylessL,keyless,keylessL_map, *];done)) (by first|rfl|(simp[keylessL,keyless,keylessL_map, *];done)) (by kernel_rfl) rfl ?_
  intro w0 ρ0 hE
  conv=>whnf
  skip
  refine SWx_adopt (t:=7) (k:=2001) (s:=1) (blk:=iblkM []) rfl rfl rfl ?_
  have hrl:(List.range n).length=n:=List.length_range
  have lr:((List.range n).map (fun i=>((i:Nat):Int))).length=n:=by simp
  refine SW_loopN hE (fun k=>k) [0,1,2,7,8] [2001] (fun m fr hp=>∃i:Nat,m=n - i∧i≤n∧fr=[(0,ivec .i64 l),(1,iv n),(2,.val (.bool true)),(7,.slc 2001 1 0 i),(8,iv (i:Nat))]∧hp=[(2001,iblkM (((List.range n).map (fun i=>((i:Nat):Int))).take i))]) n ?_ ?_ ?_
  ·kernel_rfl
  ·exact⟨0,rfl,Nat.zero_le _,rfl,rfl⟩
  rintro m _ _ ⟨i,rfl,hi,rfl,rfl⟩
  have lt:(((List.range n).map (fun i=>((i:Nat):Int))).take i).length=i:=by rw[List.length_take];omega
  conv=>whnf
  by_cases h0:i<n
  ·have t1:=dlt h0
   have t2:=winc (i:=i) (by omega)
   have e1:=app_int (l:=((List.range n).map (fun i=>((i:Nat):Int))).take i) (x:=(i:Int))
   rw[lt]at e1
   have e2:((List.range n).map (fun i=>((i:Nat):Int))).take (i+1)=((List.range n).map (fun i=>((i:Nat):Int))).take i++[(i:Int)]:=by
    rw[List.take_add_one,List.getElem?_map,List.getElem?_range h0];rfl
   (repeat((first|refine step_w1 rfl rfl ?_|refine step_oA (by first|omega|decide|(simp only[tl0,dlen,List.length_replicate,List.length_set,List.length_map,List.length_zipWith,List.length_take,List.length_append,List.length_cons,List.length_nil];omega)) ?_|refine g_o (op_pickT rfl (ev_ok rfl) (ev_ok rfl)) ?_|refine tst_tt t1 ?_|rw[t1]|rw[t2]);conv=>whnf))
   refine⟨n - (i+1),renBy [(22,2001)],[0,1,2,7,8],[22],by omega,by kernel_rfl,i+1,rfl,h0,rfl, ?_⟩
   rw[e2,e1];rfl
  ·have t1:=dge h0
   obtain rfl:n=i:=by omega
   rw[List.take_of_length_le (by omega)]
   (repeat((first|refine step_w2 rfl rfl ?_|refine g_o (op_pickF rfl (ev_ok rfl) (ev_ok rfl)) ?_|refine tst_ff t1 ?_|rw[t1]);conv=>whnf))
   refine SW_loopN hE (fun k=>k) [0,1,7,9] [2001] (fun m fr hp=>∃j:Nat,m=l.length - j∧j≤l.length∧(n=0→j=0)∧fr=[(0,ivec .i64 l),(1,iv n),(7,.slc 2001 1 0 (n+j)),(9,iv (j:Nat))]∧hp=[(2001,iblkM (((List.range n).map (fun i=>((i:Nat):Int)))++(l.take j).map (plF n)))]) l.length ?_ ?_ ?_
   ·kernel_rfl
   ·exact⟨0,rfl,Nat.zero_le _,fun _=>rfl,rfl,by rw[show(((List.range n).map (fun i=>((i:Nat):Int)))++(l.take 0).map (plF n))=((List.range n).map (fun i=>((i:Nat):Int)))from by simp];rfl⟩
   rintro m _ _ ⟨j,rfl,hj,hj0,rfl,rfl⟩
   have lq:(((List.range n).map (fun i=>((i:Nat):Int)))++(l.take j).map (plF n)).length=n+j:=by simp;omega
   conv=>whnf
   by_cases hlt:j<l.length
   ·have u1:=dlt hlt
    by_cases hn0:0<n
    ·have u2:decide ((n:Int)>0)=true:=decide_eq_true (by omega)
     have u3:=winc (i:=j) (by omega)
     obtain⟨w1,w2,w3⟩:=wrap_mod (hb _ (getD_mem (d:=0) hlt)) hn0 (by omega)
     have e1:=app_int (l:=((List.range n).map (fun i=>((i:Nat):Int)))++(l.take j).map (plF n)) (x:=plF n (l.getD j 0))
     rw[List.append_assoc,←take_snocI hlt,lq]at e1
     by_cases hneg:(l.getD j 0).tmod n<0
     ·have u4:decide ((l.getD j 0).tmod n<0)=true:=decide_eq_true hneg
      have w2:=w2 hneg
      (repeat((first|refine step_oA (by first|omega|decide|(simp only[tl0,dlen,List.length_replicate,List.length_set,List.length_map,List.length_zipWith,List.length_take,List.length_append,List.length_cons,List.length_nil];omega)) ?_|refine step_oN (by first|omega|decide|(simp only[tl0,dlen,List.length_replicate,List.length_set,List.length_map,List.length_zipWith,List.length_take,List.length_append,List.length_cons,List.length_nil];omega)) ?_|refine g_o (op_pickT rfl (ev_ok rfl) (ev_ok rfl)) ?_|refine tst_tt u1 ?_|refine tst_tt u2 ?_|refine tst_tt u4 ?_|refine g_o (op_lenM rfl rfl rfl (ev_ok rfl) (tgt rfl) rfl) ?_|refine g_o (op_loadA rfl (ev_ok rfl) (tgt rfl) rfl (Nat.succ_ne_zero _) rfl) ?_|refine g_o (op_indexN (α:=Int) (d:=0) rfl (ev_ok rfl) (ev_ok rfl) (tgt rfl) rfl (tgt rfl) rfl (by omega)) ?_|rw[u1]|rw[u2]|rw[u4]|rw[u3]|rw[w2]);conv=>whnf))
      refine⟨l.length - (j+1),renBy [(47,2001)],[0,1,7,9],[47],by omega,by kernel_rfl,j+1,rfl,hlt,fun h=>by omega,by first|rfl|(rw[Nat.zero_add];rfl), ?_⟩
      rw[e1];first|rfl|(rw[Nat.zero_add];rfl)
     ·have u4:decide ((l.getD j 0).tmod n<0)=false:=decide_eq_false hneg
      have w3:=w3 hneg
      (repeat((first|refine step_oA (by first|omega|decide|(simp only[tl0,dlen,List.length_replicate,List.length_set,List.length_map,List.length_zipWith,List.length_take,List.length_append,List.length_cons,List.length_nil];omega)) ?_|refine step_oN (by first|omega|decide|(simp only[tl0,dlen,List.length_replicate,List.length_set,List.length_map,List.length_zipWith,List.length_take,List.length_append,List.length_cons,List.length_nil];omega)) ?_|refine g_o (op_pickT rfl (ev_ok rfl) (ev_ok rfl)) ?_|refine tst_tt u1 ?_|refine tst_tt u2 ?_|refine tst_ff u4 ?_|refine g_o (op_lenM rfl rfl rfl (ev_ok rfl) (tgt rfl) rfl) ?_|refine g_o (op_loadA rfl (ev_ok rfl) (tgt rfl) rfl (Nat.succ_ne_zero _) rfl) ?_|refine g_o (op_indexN (α:=Int) (d:=0) rfl (ev_ok rfl) (ev_ok rfl) (tgt rfl) rfl (tgt rfl) rfl (by omega)) ?_|rw[u1]|rw[u2]|rw[u4]|rw[u3]);conv=>whnf))
      refine⟨l.length - (j+1),renBy [(47,2001)],[0,1,7,9],[47],by omega,by kernel_rfl,j+1,rfl,hlt,fun h=>by omega,by first|rfl|(rw[Nat.zero_add];rfl), ?_⟩
      rw[e1,←w3];first|rfl|(rw[Nat.zero_add];rfl)
    ·have u2:decide ((n:Int)>0)=false:=decide_eq_false (by omega)
     obtain rfl:=hj0 (by omega)
     (repeat((first|refine g_o (op_pickT rfl (ev_ok rfl) (ev_ok rfl)) ?_|refine tst_tt u1 ?_|refine tst_ff u2 ?_|refine g_o (op_lenM rfl rfl rfl (ev_ok rfl) (tgt rfl) rfl) ?_|rw[u1]);conv=>whnf))
     rw[show places l n true=((List.range n).map (fun i=>((i:Nat):Int)))++(l.take 0).map (plF n) by simp[places];omega]
     (first|exact Recast.refl _|exact Frz.recast (Recast.refl _) rfl|(refine Frz.one rfl rfl ?_;(repeat(first|(refine FrzC.ints rfl ?_;(first|rfl|omega|(simp<;>fail)|(simp<;>omega))))))|(refine Frz.tup ?_;skip))
   ·have u1:=dge hlt
    obtain rfl:j=l.length:=by omega
    (repeat((first|refine step_w2 rfl rfl ?_|refine g_o (op_pickF rfl (ev_ok rfl) (ev_ok rfl)) ?_|refine tst_ff u1 ?_|refine g_o (op_lenM rfl rfl rfl (ev_ok rfl) (tgt rfl) rfl) ?_|rw[u1]);conv=>whnf))
    rw[show places l n true=((List.range n).map (fun i=>((i:Nat):Int)))++(l.take l.length).map (plF n) by
     rw[List.take_length]
     by_cases hn0:n=0
     ·have:=hj0 hn0
      have hl0:l=[]:=List.length_eq_zero_iff.1 this
      simp[places,hl0]
     ·simp[places,hn0]]
    (first|exact Recast.refl _|exact Frz.recast (Recast.refl _) rfl|(refine Frz.one rfl rfl ?_;(repeat(first|(refine FrzC.ints rfl ?_;(first|rfl|omega|(simp<;>fail)|(simp<;>omega))))))|(refine Frz.tup ?_;skip))
end Go.Proofs.YtfpagioknjjacaaGreatDoor
namespace Go.Proofs.YtfpagioknjjacaaGreatDoor
open Go.Sx
set_option linter.unusedSimpArgs false
set_option linter.unusedVariables false
set_option maxRecDepth 100000
set_option maxHeartbeats 40000000
theorem places_nil (n:Nat):places [] n true=(List.range n).map (fun i=>((i:Nat):Int)):=by simp[places]
theorem places_nil_len (n:Nat):(places [] n true).length=n:=by rw[places_nil];simp
theorem places_nil_get {n i:Nat} (h:i<n):((places [] n true).getD i 0).toNat=i:=by rw[places_nil,take_range n i h];simp
theorem places_len_le (l:List Int) (n:Nat):(places l n false).length≤l.length:=by
 simp only[places,Bool.false_eq_true,if_false,List.nil_append]
 split<;>simp
theorem part_id {n k:Nat} {X:List Rat} (hX:X.length=n*k):mpart k X (places [] n true) (places [] k true)=X:=by
 unfold mpart
 rw[places_nil_len,places_nil_len]
 exact mk_ext hX fun i j hi hj=>by rw[places_nil_get hi,places_nil_get hj]
theorem part_el {k:Nat} {X:List Rat} {A B:List Int} {i j:Nat} (hi:i<A.length) (hj:j<B.length):el (mpart k X A B) B.length i j=el X k (A.getD i 0).toNat (B.getD j 0).toNat:=mk_el hi hj
theorem part_turn {n k:Nat} {X:List Rat} {A B:List Int} (hA:∀x∈A,0≤x∧x<(n:Int)) (hB:∀x∈B,0≤x∧x<(k:Int)):mpart n (mturn n k X) B A=mturn A.length B.length (mpart k X A B):=by
 refine mk_congr fun i j hi hj=> ?_
 have h1:=hA _ (getD_mem (d:=0) hj)
 have h2:=hB _ (getD_mem (d:=0) hi)
 rw[mk_el (by omega) (by omega)]
 exact(part_el hj hi).symm
def thenL (A K:List Int):List Int:=K.map fun x=>A.getD x.toNat 0
theorem part_part {k:Nat} {X:List Rat} {A B K:List Int} (hK:∀x∈K,0≤x∧x<(A.length:Int)):mpart B.length (mpart k X A B) K (places [] B.length true)=mpart k X (thenL A K) B:=by
 have hl:(thenL A K).length=K.length:=by simp[thenL]
 unfold mpart
 rw[places_nil_len,hl]
 refine mk_congr fun i j hi hj=> ?_
 have h1:=hK _ (getD_mem (d:=0) hi)
 rw[places_nil_get hj]
 have e:(thenL A K).getD i 0=A.getD (K.getD i 0).toNat 0:=by
  simp[thenL,List.getD_eq_getElem?_getD,hi]
 rw[e]
 exact part_el (by omega) hj
def cutS (n k:Nat) (X:List Rat) (p:Nat):List Rat:=mk n k fun i j=>if j<p then el X k i j else 0
theorem cutS_all {n k:Nat} {X:List Rat} (hX:X.length=n*k):cutS n k X k=X:=mk_ext hX fun i j _ hj=>if_pos hj
theorem cutS_zero {n k:Nat} {X:List Rat}:cutS n k X 0=mk n k fun _ _=>0:=mk_congr fun i j _ _=>if_neg (by omega)
theorem unit_get {k p j:Nat} (hj:j<k):((List.replicate k (0:Rat)).set p 1).getD j 0=if p=j then 1 else 0:=by
 rw[List.getD_eq_getElem?_getD,List.getElem?_set]
 by_cases h:p=j
 ·subst h;simp[hj]
 ·simp[h,hj]
theorem cutS_next {n k p:Nat} {X:List Rat} (hp:p<k):vadd (cutS n k X p) (mk n k fun i j=>(colF n k X p).getD i 0*((List.replicate k (0:Rat)).set p 1).getD j 0)=cutS n k X (p+1):=by
 unfold cutS
 rw[madd_mk (mk_len ..) (mk_len ..)]
 refine mk_congr fun i j hi hj=> ?_
 rw[mk_el hi hj,mk_el hi hj,colF_get hi,unit_get hj]
 by_cases h:p=j
 ·subst h
  rw[if_neg (by omega),if_pos rfl,if_pos (by omega)];grind
 ·by_cases h2:j<p
  ·rw[if_pos h2,if_neg h,if_pos (by omega)];grind
  ·rw[if_neg h2,if_neg h,if_neg (by omega)];grind
theorem Sm_cutS {n k p B:Nat} {X:List Rat} (hX:X.length=n*k) (sX:Sm B X) (hB:2≤B):Sm B (cutS n k X p):=Sm_mk fun i j hi hj=>by
 by_cases h:j<p
 ·rw[if_pos h];exact el_sm sX hX hi hj
 ·rw[if_neg h,fs_zero];exact hB
theorem Sm_col {n k p B:Nat} {X:List Rat} (hX:X.length=n*k) (sX:Sm B X) (hp:p<k):Sm B (colF n k X p):=by
 intro i hi
 rw[List.length_map,List.length_range]at hi
 rw[colF_get hi];exact el_sm sX hX hi hp
theorem m_Zero1 (i k:Nat):CallOK Tryz.prog 93 ([]++([iv (i:Nat),iv (k:Nat)]++[])) [] (.frac 0) [] []:=by
 refine callV (Z:=[]) tabOK mixedOK Tryz.func93 rfl (by kernel_rfl) rfl rfl (by kernel_rfl) rfl ?_
 intro W0 w0 ρ0 hE
 conv=>whnf
 skip;(first|exact Recast.refl _|exact Frz.recast (Recast.refl _) rfl|(refine Frz.one rfl rfl ?_;skip)|(refine Frz.tup ?_;skip))
end Go.Proofs.YtfpagioknjjacaaGreatDoor
