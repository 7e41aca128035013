/- The texts W13, Fz7, W14, G8, W0, W1. -/
import Derived.Test.YthaeohlijigplaaGreatQLTopFound27
import Derived.Test.YthaeohlijigplaaGreatQLTopFound25
import Derived.Test.YthaeohlijigplaaGreatQLTopFound5
import Derived.Test.YthaeohlijigplaaGreatQLTopFound14
import Derived.Test.YthaeohlijigplaaGreatQLTopFound26
namespace Go.Proofs.YthaeohlijigplaaGreat
open Go.Sx
set_option linter.unusedSimpArgs false
set_option linter.unusedVariables false
open Go.Sort
set_option maxRecDepth 100000
set_option maxHeartbeats 64000000
theorem g_IxB (v:Bool) (l:List Bool) (hl:l.length<1099511627776):CallOK Tryz.prog 128 [mvec 1 bel l,bel v] [] (iv (idxF (fun x=>v==x) l 0)) [] []:=by
 refine callV (Z:=[]) tabOK mixedOK Tryz.func128 rfl (by kernel_rfl) rfl rfl (by kernel_rfl) rfl ?_
 intro W0 w0 ρ0 hE
 conv=>whnf
 (repeat(first|(refine g_o (op_lenM rfl rfl rfl (ev_ok rfl) (tgt rfl) rfl) ?_;conv=>whnf)))
 refine SW_loopN hE (fun k=>k) [0,1,4,6,7,8] [] (fun m fr hp=>∃i,m=l.length - i∧i≤l.length∧idxF (fun x=>v==x) l 0=idxF (fun x=>v==x) (l.drop i) i∧fr=[(0,mvec 1 bel l),(1,bel v),(4,iv 0),(6,mvec 1 bel l),(7,iv (l.length:Nat)),(8,iv (i:Nat))]∧hp=[]) l.length ?_ ?_ ?_
 ·kernel_rfl
 ·exact⟨0,rfl,Nat.zero_le _,rfl,rfl,rfl⟩
 rintro m _ _ ⟨i,rfl,hi,hx,rfl,rfl⟩
 conv=>whnf
 by_cases hlt:i<l.length
 ·have t1:decide (((i:Nat):Int)<((l.length:Nat):Int))=true:=decide_eq_true (by omega)
  have t2:=winc (i:=i) (by omega)
  have hd:=idxF_drop (fun x=>v==x) false hlt
  rw[hx,hd]
  cases hp:v==l.getD i false with
  |true=>
   (repeat((first|refine tst_tt t1 ?_|refine tst_tt hp ?_|refine g_o (op_loadA rfl (ev_ok rfl) (tgt rfl) rfl (Nat.succ_ne_zero _) rfl) ?_|refine g_o (op_indexM (α:=Bool) (d:=false) rfl (ev_ok rfl) (ev_ok rfl) (tgt rfl) rfl (tgt rfl) rfl (by omega)) ?_);conv=>whnf));(first|exact Recast.refl _|exact Frz.recast (Recast.refl _) rfl|(refine Frz.one rfl rfl ?_;skip)|(refine Frz.tup ?_;skip))
  |false=>
   (repeat((first|refine tst_tt t1 ?_|refine tst_ff hp ?_|refine g_o (op_loadA rfl (ev_ok rfl) (tgt rfl) rfl (Nat.succ_ne_zero _) rfl) ?_|refine g_o (op_indexM (α:=Bool) (d:=false) rfl (ev_ok rfl) (ev_ok rfl) (tgt rfl) rfl (tgt rfl) rfl (by omega)) ?_|rw[t1]|rw[t2]|rw[hp]|rw[Int.toNat_natCast]);conv=>whnf))
   exact⟨l.length - (i+1),fun k=>k,[0,1,4,6,7,8],[],by omega,by kernel_rfl,i+1,rfl,hlt,by simp,rfl,rfl⟩
 ·have t1:decide (((i:Nat):Int)<((l.length:Nat):Int))=false:=decide_eq_false (by omega)
  rw[hx,List.drop_of_length_le (by omega)]
  (repeat(first|(refine tst_ff t1 ?_;conv=>whnf)));(first|exact Recast.refl _|exact Frz.recast (Recast.refl _) rfl|(refine Frz.one rfl rfl ?_;skip)|(refine Frz.tup ?_;skip))
theorem g_IxBc (v:Bool) (l:List Bool) (hl:l.length<1099511627776):CallOK Tryz.prog 100 [mvec 1 bel l,bel v] [] (.val (.bool (l.any (fun x=>v==x)))) [] []:=by
 have k1:=g_IxB v l hl
 rw[←idxF_any (fun x=>v==x) l 0]
 refine callV (Z:=[]) tabOK mixedOK Tryz.func100 rfl (by kernel_rfl) rfl rfl (by kernel_rfl) rfl ?_
 intro W0 w0 ρ0 hE
 conv=>whnf
 (repeat(first|(refine g_c (by assumption) ?_;conv=>whnf)));(first|exact Recast.refl _|exact Frz.recast (Recast.refl _) rfl|(refine Frz.one rfl rfl ?_;skip)|(refine Frz.tup ?_;skip))
def usA (n:Nat) (ts:List T3):Nat→List Bool
 |0=>List.replicate n false
 |k+1=>(((usA n ts k).set (gt ts k).1.toNat true).set (gt ts k).2.1.toNat true).set (gt ts k).2.2.toNat true
theorem usA_len (n:Nat) (ts:List T3):∀k,(usA n ts k).length=n
 |0=>List.length_replicate ..
 |k+1=>by simp[usA,usA_len n ts k]
theorem usA_at {n:Nat} {ts:List T3} {p:Nat} (hp:p<n):∀k,(usA n ts k).getD p false=true↔∃j,j<k∧(p=(gt ts j).1.toNat∨p=(gt ts j).2.1.toNat∨p=(gt ts j).2.2.toNat)
 |0=>by simp[usA,hp]
 |k+1=>by
  have ih:=usA_at (ts:=ts) hp k
  have hl:=usA_len n ts k
  have key:∀(l:List Bool) (i:Nat),l.length=n→((l.set i true).getD p false=true↔(p=i∨l.getD p false=true)):=by
   intro l i hl
   rw[List.getD_eq_getElem?_getD,List.getElem?_set]
   by_cases h:i=p
   ·subst h;simp[hl,hp]
   ·rw[if_neg h,List.getD_eq_getElem?_getD];constructor
    ·exact .inr
    ·rintro(h1|h1)
     ·exact absurd h1.symm h
     ·exact h1
  simp only[usA]
  rw[key _ _ (by simp[hl]),key _ _ (by simp[hl]),key _ _ hl,ih]
  constructor
  ·rintro(h|h|h|⟨j,h1,h2⟩)
   ·exact⟨k,by omega,.inr (.inr h)⟩
   ·exact⟨k,by omega,.inr (.inl h)⟩
   ·exact⟨k,by omega,.inl h⟩
   ·exact⟨j,by omega,h2⟩
  ·rintro⟨j,h1,h2⟩
   by_cases hj:j=k
   ·subst hj
    rcases h2 with h|h|h
    ·exact .inr (.inr (.inl h))
    ·exact .inr (.inl h)
    ·exact .inl h
   ·exact .inr (.inr (.inr ⟨j,by omega,h2⟩))
def srtP (l:List Pt):List Pt:=l.mergeSort fun x y=> !lessP y x
theorem srtP_perm (l:List Pt):(srtP l).Perm l:=List.mergeSort_perm _ _
theorem srtP_sorted {l:List Pt} (hn:l.Nodup):(srtP l).Pairwise fun x y=>cmpP x y<0:=by
 have h1:(srtP l).Pairwise fun x y=>(!lessP y x)=true:=List.pairwise_mergeSort (fun a b c h1 h2=>by
   simp only[Bool.not_eq_true',←Bool.not_eq_true,lessP_iff]at*;grind) (fun a b=>by
   simp only[Bool.or_eq_true,Bool.not_eq_true',←Bool.not_eq_true,lessP_iff];grind) l
 have h2:(srtP l).Pairwise fun x y=>x≠y:=((srtP_perm l).nodup_iff.2 hn)
 refine(h1.and h2).imp fun {x y} h=> ?_
 obtain⟨h3,h4⟩:=h
 rw[cmpP_lt]
 simp only[Bool.not_eq_true',←Bool.not_eq_true,lessP_iff]at h3
 have:¬(x.1=y.1∧x.2=y.2):=fun e=>h4 (Prod.ext e.1 e.2)
 grind
theorem at_bel {l:List Bool} {k:Nat} (h:k<l.length):(l.map bel).getD k .any=bel (l.getD k false):=by
 rw[List.getD_eq_getElem?_getD,List.getElem?_map,List.getElem?_eq_getElem h,List.getD_eq_getElem?_getD,List.getElem?_eq_getElem h];rfl
theorem set_bel (l:List Bool) (i:Nat):(l.map bel).set (0+i) (.val (.bool true))=(l.set i true).map bel:=by rw[Nat.zero_add,List.map_set];rfl
abbrev bB (l:List Bool):Blk:=⟨4,true,.seq 1 (l.map bel)⟩
theorem m_once (m:Me) (h:LvlOK 0 m) (hn:m.ps.Nodup) (hu:∀p:Nat,p<m.ps.length→∃j,j<m.ts.length∧((p:Int)=(gt m.ts j).1∨(p:Int)=(gt m.ts j).2.1∨(p:Int)=(gt m.ts j).2.2)):CallOK Tryz.prog 63 [meA m] [] (.val (.bool true)) [] []:=by
 have hok:=h.good.ok
 have htl:=h.tl
 have hpl:=h.pl
 have hp0:=h.p0
 have hps:∀x∈m.ps,PB (szB 0) x:=fun x hx=>by
  obtain⟨i,hi,rfl⟩:=List.getElem_of_mem hx
  have:=h.pb (i:Nat)
  rwa [gp,Int.toNat_natCast,List.getD_eq_getElem?_getD,List.getElem?_eq_getElem hi]at this
 have kcl:=g_CloneP m.ps (by omega) hp0
 have kso:=m_sortP 2001 hp0 (by omega) hps (by decide) (srtP_perm m.ps) (srtP_sorted hn)
 have hsl:(srtP m.ps).length=m.ps.length:=(srtP_perm m.ps).length_eq
 have kco:=g_Compact (srtP m.ps) (by omega) fun k hk=>by
  have:=List.pairwise_iff_getElem.1 (srtP_sorted hn) k (k+1) (by omega) hk (by omega)
  rw[List.getD_eq_getElem?_getD,List.getElem?_eq_getElem hk,List.getD_eq_getElem?_getD,List.getElem?_eq_getElem (by omega)]
  intro e
  simp only[Option.getD_some]at e
  rw[e]at this
  have h2:=swoP.irrefl ((srtP m.ps)[k])
  simp only[ltOf,decide_eq_false_iff_not]at h2
  exact h2 this
 have hall:(usA m.ps.length m.ts m.ts.length).any (fun x=>false==x)=false:=by
  rw[List.any_eq_false]
  intro x hx
  obtain⟨p,hp,rfl⟩:=List.getElem_of_mem hx
  rw[usA_len]at hp
  have:(usA m.ps.length m.ts m.ts.length).getD p false=true:=(usA_at hp _).2 (by
   obtain⟨j,h1,h2⟩:=hu p hp
   exact⟨j,h1,by omega⟩)
  rw[List.getD_eq_getElem?_getD,List.getElem?_eq_getElem (by rw[usA_len];exact hp)]at this
  simp only[Option.getD_some]at this
  rw[this];decide
 have kct:=g_IxBc false (usA m.ps.length m.ts m.ts.length) (by rw[usA_len];omega)
 rw[hall]at kct
 obtain⟨ps,ts,ss⟩:=m
 simp only at*
 clear h hn hu hps hall hp0
 have e9:((ps.length:Int)==(ps.length:Int))=true:=beq_self_eq_true _
 generalize hsp:srtP ps=sp at*
 refine callF (Z:=[1,100005,100007,100011]) tabOK mixedOK Tryz.func63 rfl (by kernel_rfl) (by first|rfl|(simp[keylessL,keyless,keylessL_map, *];done)) (by first|rfl|(simp[keylessL,keyless,keylessL_map, *];done)) (by kernel_rfl) rfl ?_
 intro w0 ρ0 hE
 conv=>whnf
 (repeat((first|refine step_oA (by first|omega|decide|(simp only[tl1,dlen,List.length_replicate,List.length_set,List.length_map,List.length_zipWith,List.length_take,List.length_append,List.length_cons,List.length_nil];omega)) ?_|refine g_o (op_lenM rfl rfl rfl (ev_ok rfl) (tgt rfl) rfl) ?_|refine g_o (op_loadA rfl (ev_ok rfl) (tgt rfl) rfl (Nat.succ_ne_zero _) rfl) ?_|refine g_o (op_fieldA rfl (ev_ok rfl) (tgt rfl) rfl rfl (Nat.succ_ne_zero _) rfl) ?_|rw[Int.toNat_natCast]);conv=>whnf))
 refine SW_loopN hE (fun k=>k) [1,3,12,13,14] [10] (fun M fr hp=>∃i,M=ts.length - i∧i≤ts.length∧fr=[(1,ptrA [mvec 10 ptA ps,mvec 3 triA ts,mvec 3 triA ss]),(3,.slc 10 1 0 ps.length),(12,mvec 3 triA ts),(13,iv (ts.length:Nat)),(14,iv (i:Nat))]∧
  hp=[(10,bB (usA ps.length ts i))]) ts.length ?_ ?_ ?_
 ·kernel_rfl
 ·exact⟨0,rfl,by omega,rfl,by rw[bB,usA,List.map_replicate];rfl⟩
 rintro M _ _ ⟨i,rfl,hi,rfl,rfl⟩
 have hul:=usA_len ps.length ts i
 by_cases hlt:i<ts.length
 ·have s1:=dlt hlt
  have wk:=winc (i:=i) (by omega)
  obtain⟨h1,h2,h3,_⟩:=okT_iff (hok.at hlt)
  have hg:ts.getD i (0,0,0)=gt ts i:=rfl
  have hus:usA ps.length ts (i+1)=(((usA ps.length ts i).set (gt ts i).1.toNat true).set (gt ts i).2.1.toNat true).set (gt ts i).2.2.toNat true:=rfl
  clear kcl kso kco kct hok
  generalize gt ts i=t at*
  generalize usA ps.length ts i=us at*
  obtain⟨a,b,c⟩:=t
  simp only at h1 h2 h3 hus
  conv=>whnf
  (repeat((first|refine tst_tt s1 ?_|refine g_o (op_loadA rfl (ev_ok rfl) (tgt rfl) rfl (Nat.succ_ne_zero _) rfl) ?_|refine g_o (op_indexN (α:=T3) (d:=(0,0,0)) rfl (ev_ok rfl) (ev_ok rfl) (tgt rfl) rfl (tgt rfl) rfl (by omega)) ?_|rw[s1]|rw[hg]);conv=>whnf))
  have e1:(us.map bel).getD (0+a.toNat) .any=bel (us.getD a.toNat false):=by rw[Nat.zero_add];exact at_bel (by omega)
  have e2:((us.set a.toNat true).map bel).getD (0+b.toNat) .any=bel ((us.set a.toNat true).getD b.toNat false):=by rw[Nat.zero_add];exact at_bel (by rw[List.length_set];omega)
  have e3:(((us.set a.toNat true).set b.toNat true).map bel).getD (0+c.toNat) .any=bel (((us.set a.toNat true).set b.toNat true).getD c.toNat false):=by rw[Nat.zero_add];exact at_bel (by rw[List.length_set,List.length_set];omega)
  have d1:(us.map bel).set (0+a.toNat) (.val (.bool true))=(us.set a.toNat true).map bel:=set_bel _ _
  have d2:((us.set a.toNat true).map bel).set (0+b.toNat) (.val (.bool true))=((us.set a.toNat true).set b.toNat true).map bel:=set_bel _ _
  have d3:(((us.set a.toNat true).set b.toNat true).map bel).set (0+c.toNat) (.val (.bool true))=(((us.set a.toNat true).set b.toNat true).set c.toNat true).map bel:=set_bel _ _
  refine SWx_thn (fr1:= ?fr5) (hp1:= ?hp5) (fun K hK=>SWx_go hE ?ra5) ?rb5
  case ra5=>
   conv=>whnf
   (repeat((first|refine step_i (by kernel_rfl) ?_|refine step_oL (by first|omega|decide|(simp only[tl1,dlen,List.length_replicate,List.length_set,List.length_map,List.length_zipWith,List.length_take,List.length_append,List.length_cons,List.length_nil];omega)) ?_|refine step_oA (by first|omega|decide|(simp only[tl1,dlen,List.length_replicate,List.length_set,List.length_map,List.length_zipWith,List.length_take,List.length_append,List.length_cons,List.length_nil];omega)) ?_|rw[e1]|rw[d1]|rw[e2]|rw[d2]|rw[e3]|rw[d3]|rw[Nat.zero_add]);conv=>whnf))
   exact hK
  conv=>whnf
  (repeat(first|(rw[wk];conv=>whnf)))
  exact⟨ts.length - (i+1),fun k=>k,[1,3,12,13,14],[10],by omega,by kernel_rfl,i+1,rfl,by omega,rfl,by rw[hus];rfl⟩
 ·have s1:=dge hlt
  obtain rfl:i=ts.length:=by omega
  generalize usA ps.length ts ts.length=us at*
  conv=>whnf
  (repeat(first|(refine tst_ff s1 ?_;conv=>whnf)|(rw[s1];conv=>whnf)))
  refine SWx_freezeM 3 10 (fun _ h=>h) (fun _=>rfl) rfl rfl hul.symm ?_
  refine SWx_go hE ?_
  conv=>whnf
  (repeat((first|refine step_w2 rfl rfl ?_|refine g_c (by assumption) ?_|refine g_cn (by assumption) rfl ?_|refine g_c1u (by assumption) rfl rfl ?_|refine g_o (op_loadA rfl (ev_ok rfl) (tgt rfl) rfl (Nat.succ_ne_zero _) rfl) ?_|refine g_o (op_fieldA rfl (ev_ok rfl) (tgt rfl) rfl rfl (Nat.succ_ne_zero _) rfl) ?_);conv=>whnf))
  refine SWx_freezeM 6 2001 (fun _ h=>h) (fun _=>rfl) rfl rfl hsl.symm ?_
  refine SWx_go hE ?_
  conv=>whnf
  rw[←hsl]at e9
  (repeat((first|refine step_i (by kernel_rfl) ?_|refine g_c (by assumption) ?_|rw[beq_self_eq_true]|refine g_o (op_lenM rfl rfl rfl (ev_ok rfl) (tgt rfl) rfl) ?_|refine g_o (op_loadA rfl (ev_ok rfl) (tgt rfl) rfl (Nat.succ_ne_zero _) rfl) ?_|refine g_o (op_fieldA rfl (ev_ok rfl) (tgt rfl) rfl rfl (Nat.succ_ne_zero _) rfl) ?_|rw[hsl]);conv=>whnf))
  (first|exact Recast.refl _|exact Frz.recast (Recast.refl _) rfl|(refine Frz.one rfl rfl ?_;skip)|(refine Frz.tup ?_;skip))
end Go.Proofs.YthaeohlijigplaaGreat
namespace Go.Proofs.YthaeohlijigplaaGreat
open Go.Sx
set_option linter.unusedSimpArgs false
set_option linter.unusedVariables false
set_option maxRecDepth 100000
set_option maxHeartbeats 8000000
theorem FrzC.post {hp:List (Nat×Blk)} {c d e:SV} (h:FrzC hp c d) (he:∀ρ x,HasC ρ d x→HasC ρ e x) (h1:d.isOne=e.isOne):FrzC hp c e:=
 ⟨h.1.trans h1,fun ρ w B hh x hx i hi=>by
  obtain⟨i',u,e1,g,k⟩:=h.2 ρ w B hh x hx i hi
  exact⟨i',u,e1,g,he _ _ k⟩⟩
theorem lv_flat {ρ:Rho} {m:Me} {x:List Value} (h:HasC ρ (vecA 4 [.agg [meA m,.val (.slice none 0 0)]]) x):HasC ρ (lvs [⟨m,[]⟩]) x:=by
 simp only[lvs,HasC]at h ⊢
 rcases h with h|⟨hg,b,cap,z,pre,ex,ty,fz,h1,h2,h3⟩
 ·exact absurd h.1 (by simp)
 ·simp only[HasZ,HasC]at h2
  obtain⟨u,_,rfl,⟨z1,⟨a,_,rfl,⟨z2,g1,rfl⟩,v,_,rfl,⟨rfl,_⟩,rfl⟩,rfl⟩,rfl⟩:=h2
  refine .inr ⟨hg,b,cap,_,pre,ex,ty,fz,h1, ?_,fun y hy=> ?_,h3.2⟩
  ·simp only[List.map_cons,List.map_nil,HasZ,HasC]
   refine⟨_,_,rfl,⟨z2++[[.slice none 0 0]],HasZ_append (l:=[mvec 10 ptA m.ps,mvec 3 triA m.ts,mvec 3 triA m.ss]) (r:=[ivec .i64 []]) g1 ?_,by simp⟩,rfl⟩
   simp only[HasZ,HasC]
   exact⟨_,_,rfl,.inl ⟨rfl,none,rfl⟩,rfl⟩
  ·simp only[List.map_cons,List.map_nil,List.mem_singleton]at hy
   subst hy;rfl
theorem v_New (m:Me) (hf:m.Fit) (hc:CallOK Tryz.prog 36 [meA m] [] (iv 0) [] []):CallOK Tryz.prog 13 [meA m] [] (.tup [lvs [⟨m,[]⟩],iv 0]) [] []:=by
 have k1:=m_Copy m hf
 refine callF (Z:=[1]) tabOK mixedOK Tryz.func13 rfl (by kernel_rfl) (by first|rfl|(simp[keylessL,keyless,keylessL_map, *];done)) (by first|rfl|(simp[keylessL,keyless,keylessL_map, *];done)) (by kernel_rfl) rfl ?_
 intro w0 ρ0 hE
 conv=>whnf
 (repeat((first|refine step_w2 rfl rfl ?_|refine g_c (by assumption) ?_|rw[bne_self_eq_false]|refine g_o (op_loadA rfl (ev_ok rfl) (tgt rfl) rfl (Nat.succ_ne_zero _) rfl) ?_);conv=>whnf))
 refine Frz.tup (FrzL.cons ?_ (FrzL.cons (FrzC.keyless rfl) FrzL.nil))
 refine FrzC.post (d:=vecA 4 [.agg [meA m,.val (.slice none 0 0)]]) ?_ (fun ρ x h=>lv_flat h) rfl
 exact FrzC.seq rfl rfl rfl
end Go.Proofs.YthaeohlijigplaaGreat
namespace Go.Proofs.YthaeohlijigplaaGreat
open Go.Sx
set_option linter.unusedSimpArgs false
set_option linter.unusedVariables false
set_option maxRecDepth 100000
set_option maxHeartbeats 64000000
theorem g_rim1 {s r:T3} (h1:s.1=r.1) (h2:s.2.1=r.2.1):CallOK Tryz.prog 110 [triA s,triA r] [] (.val (.bool true)) [] []:=by
 obtain⟨a,b,c⟩:=s
 obtain⟨a',b',c'⟩:=r
 simp only at h1 h2
 subst h1 h2
 have t1:(a==a)=true:=beq_self_eq_true _
 have t2:(b==b)=true:=beq_self_eq_true _
 refine callV (Z:=[2,3]) tabOK mixedOK Tryz.func110 rfl (by kernel_rfl) rfl rfl (by kernel_rfl) rfl ?_
 intro W0 w0 ρ0 hE
 conv=>whnf
 (repeat((first|refine step_w1 rfl rfl ?_|refine g_o (op_pickT rfl (ev_ok rfl) (ev_ok rfl)) ?_|rw[beq_self_eq_true]|refine g_o (op_loadA rfl (ev_ok rfl) (tgt rfl) rfl (Nat.succ_ne_zero _) rfl) ?_|refine g_o (op_fieldA rfl (ev_ok rfl) (tgt rfl) rfl rfl (Nat.succ_ne_zero _) rfl) ?_);conv=>whnf));(first|exact Recast.refl _|exact Frz.recast (Recast.refl _) rfl|(refine Frz.one rfl rfl ?_;skip)|(refine Frz.tup ?_;skip))
theorem at_t3 {l:List T3} {k:Nat} (h:k<l.length):(l.map triA).getD k .any=triA (gt l k):=by
 rw[List.getD_eq_getElem?_getD,List.getElem?_map,List.getElem?_eq_getElem h,gt,List.getD_eq_getElem?_getD,List.getElem?_eq_getElem h];rfl
theorem g_sameB (K:Nat) (ss rs:List T3) (hl:ss.length=rs.length) (hll:ss.length<100000) (he:∀i,i<ss.length→(gt ss i).1=(gt rs i).1∧(gt ss i).2.1=(gt rs i).2.1):
  CallOK Tryz.prog 108 [mvec 3 triA ss,.slc K 3 0 rs.length,.clo 110 [] []] [(K,⟨112,true,.seq 3 (rs.map triA)⟩)] (.val (.bool true)) [] []:=by
 refine CallOK.anyWr ?_
 refine callK (Z:=[100006]) tabOK mixedOK Tryz.func108 rfl (by kernel_rfl) (args:=[mvec 3 triA ss,.slc 0 3 0 rs.length,.clo 110 [] []]) (fk:=[(0,⟨112,false,.seq 3 (rs.map triA)⟩)]) (c:=.val (.bool true)) (new:=[]) (upd:=[]) (ShapeOK.of rfl rfl rfl rfl rfl rfl rfl rfl rfl rfl rfl) rfl (fun _=>K) (NamesOK.ro rfl) ?_
 intro W0 w0 ρ0 hE
 have t0:((ss.length:Int) != (rs.length:Int))=false:=by rw[hl];exact bne_self_eq_false _
 conv=>whnf
 (repeat(first|(refine tst_ff t0 ?_;conv=>whnf)|(refine g_o (op_lenM rfl rfl rfl (ev_ok rfl) (tgt rfl) rfl) ?_;conv=>whnf)|(rw[t0];conv=>whnf)))
 refine SW_loopN hE (fun k=>k) [0,1,2,14,15] [0] (fun M fr hp=>∃i,M=ss.length - i∧i≤ss.length∧fr=[(0,mvec 3 triA ss),(1,.slc 0 3 0 rs.length),(2,.clo 110 [] []),(14,iv (ss.length:Nat)),(15,iv (i:Nat))]∧hp=[(0,⟨112,false,.seq 3 (rs.map triA)⟩)]) ss.length ?_ ?_ ?_
 ·kernel_rfl
 ·exact⟨0,rfl,by omega,rfl,rfl⟩
 rintro M _ _ ⟨i,rfl,hi,rfl,rfl⟩
 by_cases hlt:i<ss.length
 ·have s1:=dlt hlt
  have wk:=winc (i:=i) (by omega)
  have hg:ss.getD i (0,0,0)=gt ss i:=rfl
  have e1:=at_t3 (l:=rs) (k:=i) (by omega)
  have u1:0+(i:Int).toNat=i:=by omega
  have k1:=g_rim1 (he i hlt).1 (he i hlt).2
  generalize gt ss i=s at*
  generalize gt rs i=r at*
  conv=>whnf
  (repeat(first|(refine tst_tt s1 ?_;conv=>whnf)|(rw[s1];conv=>whnf)))
  refine SWx_thn (fr1:= ?fr6) (hp1:= ?hp6) (fun K hK=>SWx_go hE ?ra6) ?rb6
  case ra6=>
   conv=>whnf
   (repeat((first|refine step_i (by kernel_rfl) ?_|refine step_oL (by first|omega|decide|(simp only[tl1,dlen,List.length_replicate,List.length_set,List.length_map,List.length_zipWith,List.length_take,List.length_append,List.length_cons,List.length_nil];omega)) ?_|refine step_oA (by first|omega|decide|(simp only[tl1,dlen,List.length_replicate,List.length_set,List.length_map,List.length_zipWith,List.length_take,List.length_append,List.length_cons,List.length_nil];omega)) ?_|refine g_c (by assumption) ?_|refine g_o (op_loadA rfl (ev_ok rfl) (tgt rfl) rfl (Nat.succ_ne_zero _) rfl) ?_|refine g_o (op_indexN (α:=T3) (d:=(0,0,0)) rfl (ev_ok rfl) (ev_ok rfl) (tgt rfl) rfl (tgt rfl) rfl (by omega)) ?_|rw[hg]|rw[u1]|rw[e1]);conv=>whnf))
   exact hK
  conv=>whnf
  (repeat(first|(refine step_w2 rfl rfl ?_;conv=>whnf)|(rw[wk];conv=>whnf)))
  exact⟨ss.length - (i+1),fun k=>k,[0,1,2,14,15],[0],by omega,by kernel_rfl,i+1,rfl,by omega,rfl,rfl⟩
 ·have s1:=dge hlt
  conv=>whnf
  (repeat(first|(refine tst_ff s1 ?_;conv=>whnf)))
  exact⟨Recast.refl _,(fun _ _ h=>by cases h),(fun _ _ h=>by cases h)⟩
theorem g_same0:CallOK Tryz.prog 108 [mvec 3 triA [],mvec 3 triA [],.clo 110 [] []] [] (.val (.bool true)) [] []:=by
 refine callV (Z:=[]) tabOK mixedOK Tryz.func108 rfl (by kernel_rfl) rfl rfl (by kernel_rfl) rfl ?_
 intro W0 w0 ρ0 hE
 conv=>whnf
 (repeat(first|(refine step_w2 rfl rfl ?_;conv=>whnf)|(rw[bne_self_eq_false];conv=>whnf)|(refine g_o (op_lenM rfl rfl rfl (ev_ok rfl) (tgt rfl) rfl) ?_;conv=>whnf)))
 refine SW_loopN hE (fun k=>k) [0,1,2,14,15] [] (fun M fr hp=>fr=[(0,mvec 3 triA []),(1,mvec 3 triA []),(2,.clo 110 [] []),(14,iv 0),(15,iv 0)]∧hp=[]) 0 ?_ ?_ ?_
 ·kernel_rfl
 ·exact⟨rfl,rfl⟩
 rintro M _ _ ⟨rfl,rfl⟩
 conv=>whnf
 (repeat(first|(refine step_w2 rfl rfl ?_;conv=>whnf)));(first|exact Recast.refl _|exact Frz.recast (Recast.refl _) rfl|(refine Frz.one rfl rfl ?_;skip)|(refine Frz.tup ?_;skip))
theorem m_rimmed (m:Me) (h:LvlOK 0 m) (hl:m.ss.length=(rimL m.ts).length) (he:∀i,i<m.ss.length→(gt m.ss i).1=(gt (rimL m.ts) i).1∧(gt m.ss i).2.1=(gt (rimL m.ts) i).2.1):CallOK Tryz.prog 65 [meA m] [] (.val (.bool true)) [] []:=by
 have htl:=h.tl
 have hpl:=h.pl
 have hsl:=h.sl
 by_cases hr:rimL m.ts=[]
 ·have k1:=m_Rim0 m.ps m.ts (by omega) (by omega) h.good.ok h.good.ne hr
  rw[hr]at hl
  have hs0:m.ss=[]:=List.length_eq_zero_iff.1 hl
  have k2:=g_same0
  obtain⟨ps,ts,ss⟩:=m
  simp only at hs0
  subst hs0
  simp only at k1
  clear h he
  refine callV (Z:=[1]) tabOK mixedOK Tryz.func65 rfl (by kernel_rfl) rfl rfl (by kernel_rfl) rfl ?_
  intro W0 w0 ρ0 hE
  conv=>whnf
  (repeat((first|refine step_i (by kernel_rfl) ?_|refine g_c (by assumption) ?_|refine g_o (op_loadA rfl (ev_ok rfl) (tgt rfl) rfl (Nat.succ_ne_zero _) rfl) ?_|refine g_o (op_fieldA rfl (ev_ok rfl) (tgt rfl) rfl rfl (Nat.succ_ne_zero _) rfl) ?_);conv=>whnf));(first|exact Recast.refl _|exact Frz.recast (Recast.refl _) rfl|(refine Frz.one rfl rfl ?_;skip)|(refine Frz.tup ?_;skip))
 ·have k1:=m_Rim m.ps m.ts (by omega) (by omega) h.good.ok h.good.ne hr
  have k2:=g_sameB 2001 m.ss (rimL m.ts) hl (by omega) he
  obtain⟨ps,ts,ss⟩:=m
  simp only at k1 k2
  clear h he hl hr
  generalize rimL ts=rs at*
  refine callV (Z:=[1]) tabOK mixedOK Tryz.func65 rfl (by kernel_rfl) rfl rfl (by kernel_rfl) rfl ?_
  intro W0 w0 ρ0 hE
  conv=>whnf
  (repeat((first|refine step_i (by kernel_rfl) ?_|refine g_cn (by assumption) rfl ?_|refine g_c1 (by assumption) rfl ?_|refine g_o (op_loadA rfl (ev_ok rfl) (tgt rfl) rfl (Nat.succ_ne_zero _) rfl) ?_|refine g_o (op_fieldA rfl (ev_ok rfl) (tgt rfl) rfl rfl (Nat.succ_ne_zero _) rfl) ?_);conv=>whnf));(first|exact Recast.refl _|exact Frz.recast (Recast.refl _) rfl|(refine Frz.one rfl rfl ?_;skip)|(refine Frz.tup ?_;skip))
structure ChkOK (m:Me):Prop where
 sd:SdOK m.ps.length m.ss
 nd:m.ps.Nodup
 us:∀p:Nat,p<m.ps.length→∃j,j<m.ts.length∧((p:Int)=(gt m.ts j).1∨(p:Int)=(gt m.ts j).2.1∨(p:Int)=(gt m.ts j).2.2)
 ap:∀i k,i<m.ts.length→k<i→beyF (cor m i).1 (cor m i).2.1 (cor m i).2.2 [(cor m k).1,(cor m k).2.1,(cor m k).2.2]=true∨beyF (cor m k).1 (cor m k).2.1 (cor m k).2.2 [(cor m i).1,(cor m i).2.1,(cor m i).2.2]=true
 wh:∀i (p:Nat),i<m.ts.length→p<m.ps.length→[(gt m.ts i).1,(gt m.ts i).2.1,(gt m.ts i).2.2].any (fun x=>(p:Int)==x)=false→whT m (gp m.ps p) i=0
 rl:m.ss.length=(rimL m.ts).length
 re:∀i,i<m.ss.length→(gt m.ss i).1=(gt (rimL m.ts) i).1∧(gt m.ss i).2.1=(gt (rimL m.ts) i).2.1
theorem m_Check (m:Me) (h:LvlOK 0 m) (hc:ChkOK m):CallOK Tryz.prog 36 [meA m] [] (iv 0) [] []:=by
 have k1:=m_args m h hc.sd
 have k2:=m_once m h hc.nd hc.us
 have k3:=m_apart m h hc.ap hc.wh
 have k4:=m_rimmed m h hc.rl hc.re
 have htl:=h.tl
 have hpl:=h.pl
 have hsl:=h.sl
 obtain⟨ps,ts,ss⟩:=m
 simp only at htl hpl hsl
 clear h hc
 have t1:decide ((ps.length:Int)>4096)=false:=decide_eq_false (by omega)
 have t2:decide ((ts.length:Int)>8192)=false:=decide_eq_false (by omega)
 have t3:decide ((ss.length:Int)>24576)=false:=decide_eq_false (by omega)
 refine callV (Z:=[1]) tabOK mixedOK Tryz.func36 rfl (by kernel_rfl) rfl rfl (by kernel_rfl) rfl ?_
 intro W0 w0 ρ0 hE
 conv=>whnf
 (repeat((first|refine step_w1 rfl rfl ?_|refine step_w2 rfl rfl ?_|refine g_c (by assumption) ?_|refine g_o (op_pickF rfl (ev_ok rfl) (ev_ok rfl)) ?_|refine tst_ff t3 ?_|refine g_o (op_lenM rfl rfl rfl (ev_ok rfl) (tgt rfl) rfl) ?_|refine g_o (op_loadA rfl (ev_ok rfl) (tgt rfl) rfl (Nat.succ_ne_zero _) rfl) ?_|refine g_o (op_fieldA rfl (ev_ok rfl) (tgt rfl) rfl rfl (Nat.succ_ne_zero _) rfl) ?_|rw[t1]|rw[t2]);conv=>whnf));(first|exact Recast.refl _|exact Frz.recast (Recast.refl _) rfl|(refine Frz.one rfl rfl ?_;skip)|(refine Frz.tup ?_;skip))
theorem v_New0 (m:Me) (h:LvlOK 0 m) (hc:ChkOK m):CallOK Tryz.prog 13 [meA m] [] (.tup [lvs [⟨m,[]⟩],iv 0]) [] []:=
 v_New m (h.fit (by omega)) (m_Check m h hc)
end Go.Proofs.YthaeohlijigplaaGreat
namespace Go.Proofs.YthaeohlijigplaaGreat
open Go.Sx
set_option linter.unusedSimpArgs false
set_option linter.unusedVariables false
set_option maxRecDepth 100000
set_option maxHeartbeats 8000000
theorem conv (d e f p q X:Pt):tw d e f*tw p q X=tw X e f*tw p q d+tw d X f*tw p q e+tw d e X*tw p q f:=by
 have h1:tw d e f*X.1=tw X e f*d.1+tw d X f*e.1+tw d e X*f.1:=by simp only[tw,pcross,psub];grind
 have h2:tw d e f*X.2=tw X e f*d.2+tw d X f*e.2+tw d e X*f.2:=by simp only[tw,pcross,psub];grind
 have h3:=tw_sum d e f X
 have e1:∀Y:Pt,tw p q Y=(q.1 - p.1)*(Y.2 - p.2) - (q.2 - p.2)*(Y.1 - p.1):=fun Y=>by simp only[tw,pcross,psub]
 rw[e1 X,e1 d,e1 e,e1 f]
 generalize tw d e f=T at*
 generalize tw X e f=u at*
 generalize tw d X f=v at*
 generalize tw d e X=w at*
 subst h3
 have:(u+v+w)*((q.1 - p.1)*(X.2 - p.2) - (q.2 - p.2)*(X.1 - p.1))=(q.1 - p.1)*((u+v+w)*X.2 - (u+v+w)*p.2) - (q.2 - p.2)*((u+v+w)*X.1 - (u+v+w)*p.1):=by grind
 rw[this,h1,h2]
 grind
theorem nb_le {p q d e f:Pt} (h:nbF p q [d,e,f]=false):tw p q d≤0∧tw p q e≤0∧tw p q f≤0:=by
 simp only[nbF,List.any_cons,List.any_nil,Bool.or_false,Bool.or_eq_false_iff,leftB,num_pos,decide_eq_false_iff_not]at h
 obtain⟨h1,h2,h3⟩:=h
 exact⟨by grind,by grind,by grind⟩
theorem mul_np {a b:Rat} (ha:0≤a) (hb:b≤0):a*b≤0:=by
 have:=Rat.mul_nonneg ha (show 0≤ -b by grind)
 grind
theorem side_no {d e f p q X:Pt} (hT:0<tw d e f) (hl:tw p q d≤0∧tw p q e≤0∧tw p q f≤0) (hc:clT d e f X):tw p q X≤0:=by
 have h:=conv d e f p q X
 have h1:=mul_np hc.1 hl.1
 have h2:=mul_np hc.2.1 hl.2.1
 have h3:=mul_np hc.2.2 hl.2.2
 by_cases h0:tw p q X≤0
 ·exact h0
 ·have:=Rat.mul_pos hT (show 0<tw p q X by grind)
  grind
theorem side_lt {d e f p q r X:Pt} (hT:0<tw d e f) (hr:0<tw p q r) (hl:tw p q d≤0∧tw p q e≤0∧tw p q f≤0) (hc:inT d e f X):tw p q X<0:=by
 have h:=conv d e f p q X
 have hle:=side_no hT hl hc.cl
 by_cases h0:tw p q X=0
 ·exfalso
  have h1:=mul_np (Rat.le_of_lt hc.1) hl.1
  have h2:=mul_np (Rat.le_of_lt hc.2.1) hl.2.1
  have h3:=mul_np (Rat.le_of_lt hc.2.2) hl.2.2
  rw[h0]at h
  have z:∀{a b:Rat},0<a→b≤0→a*b=0→b=0:=fun {a b} ha hb hab=>by
   rcases Rat.mul_eq_zero.1 hab with e|e
   ·rw[e]at ha;exact absurd ha (by decide)
   ·exact e
  have z1:=z hc.1 hl.1 (by grind)
  have z2:=z hc.2.1 hl.2.1 (by grind)
  have z3:=z hc.2.2 hl.2.2 (by grind)
  have hh:=conv d e f p q r
  rw[z1,z2,z3]at hh
  have:=Rat.mul_pos hT hr
  grind
 ·grind
theorem in_cyc {a b c X:Pt} (h:inT a b c X):0<tw a b X∧0<tw b c X∧0<tw c a X:=by
 obtain⟨h1,h2,h3⟩:=h
 refine⟨h3,by rw[←tw_cyc X b c]at h1;exact h1, ?_⟩
 have:tw c a X=tw a X c:=by rw[←tw_cyc c a X]
 rw[this];exact h2
theorem cl_cyc {a b c X:Pt} (h:clT a b c X):0≤tw a b X∧0≤tw b c X∧0≤tw c a X:=by
 obtain⟨h1,h2,h3⟩:=h
 refine⟨h3,by rw[←tw_cyc X b c]at h1;exact h1, ?_⟩
 have:tw c a X=tw a X c:=by rw[←tw_cyc c a X]
 rw[this];exact h2
theorem bey_cases {a b c:Pt} {l:List Pt} (h:beyF a b c l=true):nbF a b l=false∨nbF b c l=false∨nbF c a l=false:=by
 simpa [beyF]using h
theorem sep_bey {a b c d e f X:Pt} (hT:0<tw a b c) (hT':0<tw d e f) (h:beyF a b c [d,e,f]=true∨beyF d e f [a,b,c]=true) (hi:inT a b c X):¬clT d e f X:=fun hc=>by
 rcases h with h|h
 ·obtain⟨i1,i2,i3⟩:=in_cyc hi
  rcases bey_cases h with h|h|h
  ·have:=side_no hT' (nb_le h) hc;grind
  ·have:=side_no hT' (nb_le h) hc;grind
  ·have:=side_no hT' (nb_le h) hc;grind
 ·obtain⟨c1,c2,c3⟩:=cl_cyc hc
  rcases bey_cases h with h|h|h
  ·have:=side_lt (r:=f) hT hT' (nb_le h) hi;grind
  ·have:=side_lt (r:=d) hT (by rw[tw_cyc];exact hT') (nb_le h) hi;grind
  ·have:=side_lt (r:=e) hT (by rw[←tw_cyc f d e];exact hT') (nb_le h) hi;grind
theorem kk_bd (x:M6):(-3≤(kk x).1∧(kk x).1≤3)∧(-3≤(kk x).2.1∧(kk x).2.1≤3)∧(-3≤(kk x).2.2.1∧(kk x).2.2.1≤3)∧(-3≤(kk x).2.2.2∧(kk x).2.2.2≤3):=by
 have h0:=tmod4 x.k0
 have h1:=tmod4 x.k1
 have h2:=tmod4 x.k2
 have h3:=tmod4 x.k3
 unfold kk
 simp only
 split
 ·decide
 ·split<;>simp only<;>omega
theorem movP_bd (x:M6) {p:I2} (h:posOK p):(-1000000≤(movP x p).1∧(movP x p).1≤1000000)∧(-1000000≤(movP x p).2∧(movP x p).2≤1000000):=by
 obtain⟨k0,k1,k2,k3⟩:=kk_bd x
 obtain⟨h1,h2⟩:=h
 have m1:=(w_mul (b:=p.1) k0 (by omega)).1
 have m2:=(w_mul (b:=p.2) k1 (by omega)).1
 have m3:=(w_mul (b:=p.1) k2 (by omega)).1
 have m4:=(w_mul (b:=p.2) k3 (by omega)).1
 unfold movP
 simp only
 omega
theorem PP_pb (x:M6) {p:I2} (h:posOK p) (hd:0≤x.den):PB 200 (PP x p):=by
 obtain⟨h1,h2⟩:=movP_bd x h
 have hD:0≤denM x∧denM x≤10:=by
  have:=Int.tmod_nonneg 6 hd
  have:=Int.tmod_lt_of_pos x.den (b:=6) (by decide)
  unfold denM;omega
 have f1:=fs_int (n:=(movP x p).1) (by omega) (by omega)
 have f2:=fs_int (n:=(movP x p).2) (by omega) (by omega)
 have f3:=fs_int (n:=denM x) (by omega) (by omega)
 have g1:=fs_div ((movP x p).1:Rat) (denM x:Rat)
 have g2:=fs_div ((movP x p).2:Rat) (denM x:Rat)
 exact⟨by show fs (((movP x p).1:Rat)/(denM x:Rat))≤200;omega,by show fs (((movP x p).2:Rat)/(denM x:Rat))≤200;omega⟩
theorem PP_inj (x:M6) (hd:0≤x.den) {a b:I2} (h:PP x a=PP x b):a=b:=by
 have hs:=det_pos x
 have hD:((denM x:Int):Rat)≠0:=by
  have:=den_pos hd
  have h1:(0:Rat)<((denM x:Int):Rat):=by exact_mod_cast this
  grind
 simp only[PP,ptD,Prod.mk.injEq]at h
 obtain⟨h1,h2⟩:=h
 have e:∀u v:Int,(u:Rat)/((denM x:Int):Rat)=(v:Rat)/((denM x:Int):Rat)→u=v:=fun u v huv=>by
  have h3:(u:Rat)/((denM x:Int):Rat)*((denM x:Int):Rat)=(v:Rat)/((denM x:Int):Rat)*((denM x:Int):Rat):=by rw[huv]
  rw[Rat.div_mul_cancel hD,Rat.div_mul_cancel hD]at h3
  exact_mod_cast h3
 have e1:=e _ _ h1
 have e2:=e _ _ h2
 unfold movP at e1 e2
 unfold detM at hs
 simp only at e1 e2
 generalize (kk x).1=k0 at*
 generalize (kk x).2.1=k1 at*
 generalize (kk x).2.2.1=k2 at*
 generalize (kk x).2.2.2=k3 at*
 obtain⟨a1,a2⟩:=a
 obtain⟨b1,b2⟩:=b
 simp only at e1 e2
 have z1:(k0*k3 - k1*k2)*(a1 - b1)=0:=by
  have:(k0*k3 - k1*k2)*(a1 - b1)=k3*((k0*a1+k1*a2) - (k0*b1+k1*b2)) - k1*((k2*a1+k3*a2) - (k2*b1+k3*b2)):=by grind
  rw[this,e1,e2,Int.sub_self,Int.sub_self,Int.mul_zero,Int.mul_zero];rfl
 have z2:(k0*k3 - k1*k2)*(a2 - b2)=0:=by
  have:(k0*k3 - k1*k2)*(a2 - b2)=k0*((k2*a1+k3*a2) - (k2*b1+k3*b2)) - k2*((k0*a1+k1*a2) - (k0*b1+k1*b2)):=by grind
  rw[this,e1,e2,Int.sub_self,Int.sub_self,Int.mul_zero,Int.mul_zero];rfl
 rcases Int.mul_eq_zero.1 z1 with h|h
 ·omega
 ·rcases Int.mul_eq_zero.1 z2 with h'|h'
  ·omega
  ·rw[show a1=b1 by omega,show a2=b2 by omega]
end Go.Proofs.YthaeohlijigplaaGreat
namespace Go.Sx
set_option linter.unusedSimpArgs false
set_option linter.unusedVariables false
set_option maxRecDepth 100000
set_option maxHeartbeats 4000000
theorem run_firstCV {P:Program} {ρ:Rho} {w:World} {s n:Nat} {vs:List SV} {d:Data} {v:Value} (hv:Has ρ (vecA s vs) v) (himm:∀b o,ρ.imm b=some o→w.heap[b]? =some o)
  (hr:∀z,HasZ (bareR ρ.imm ρ.glob) vs z→(∀x∈vs,x.width=s)→Rows ρ s d z) (hn:n=vs.length):
  ∃z,Rows ρ s d z∧(∀c,c≤n→(Builtin.firstCells s c v).run P w= .ok (((z.drop 0).take c).flatten).toArray w)∧Builtin.lenOf v=Pure.pure n:=by
 subst hn
 rcases has_vec hv with⟨rfl,a,rfl⟩|⟨b,cap,z,pre,ex,ty,fz,h1,h2,h3,h4,h5,h6⟩
 ·refine⟨[],hr [] (by simp only[HasZ]) (fun x hx=>by cases hx),fun c hc=> ?_,rfl⟩
  obtain rfl:c=0:=by simpa using hc
  cases a with
  |none=>simp[Builtin.firstCells]
  |some a=>simp[Builtin.firstCells,loadCells,loadCellsFrom]
 ·have hzr:=hr z h2 h3
  obtain⟨zl,zw⟩:=hzr.len
  have hzl:z.length=vs.length:=HasZ_length h2
  subst h6
  refine⟨z,hzr,fun c hc=> ?_,rfl⟩
  have hh:=himm _ _ h1
  rw[List.drop_zero]
  have hseg:(z.take c).flatten=z.flatten.take (c*s):=flatten_take (s:=s) _ _ zw
  have hlen:(z.take c).flatten.length=c*s:=by
   rw[flatten_len (s:=s) _ (fun u hu=>zw u (List.mem_of_mem_take hu)),List.length_take]
   congr 1
   omega
  refine run_firstCells_some (P:=P) w s c _ vs.length cap _ hlen ?_
  intro j u hj
  have hadd:(⟨b,pre.length,none⟩:Addr).add j=⟨b,pre.length+j,none⟩:=by unfold Addr.add;split<;>simp_all
  rw[hadd,cell_of_row w b (pre.length+j) _ ty fz hh]
  rw[hseg,List.getElem?_take]at hj
  split at hj
  ·have hlt:j<z.flatten.length:=(List.getElem?_eq_some_iff.1 hj).1
   simp only[List.getElem?_toArray]
   rw[List.getElem?_append_right (by omega),Nat.add_sub_cancel_left,List.getElem?_append_left hlt]
   exact hj
  ·cases hj
theorem op_copyV {P:Program} {o:Oper} {fr:List (Nat×SV)} {fk:List (Nat×Blk)} {t t2 e ty:TypeId} {x y:Operand} {xs:Array Operand} {ts:Array TypeId} {ti te:TI} {k i n m c:Nat} {d d' d2:Data} {vs:List SV} (ho:o.op= .call ⟨.builtin .copy,xs,ts⟩) (hxs:xs= #[x,y]) (hts:ts= #[t,t2])
  (hx:EvOK fr x (.slc k te.size i n)) (hy:EvOK fr y (vecA te.size vs)) (hr2:∀(ρ:Rho) z,HasZ (bareR ρ.imm ρ.glob) vs z→(∀x∈vs,x.width=te.size)→Rows ρ te.size d2 z) (ht:TOK P t ti) (hk:ti.kind= .slc e) (he:TOK P e te)
  (hf:(k,⟨ty,true,d⟩)∈fk) (hl:d.live=true) (hw:dwidth d=some te.size)
  (hn:i+n≤dlen d) (hmv:m=vs.length) (hm:0+m≤dlen d2) (hc:c=Nat.min m n) (hd:dcopy d i d2 0 c=some d'):
  OpOK P o fr fk (.val (.int .i64 (c:Nat))) [] [(k,⟨ty,true,d'⟩)]:=
 ok_value fun ρ a w hp=>by
  have hvx:=hx ρ a hp.hft
  have hvy:=hy ρ a hp.hft
  have hu:=ht.kind;rw[hk]at hu
  have hcm:c≤m:=hc▸Nat.min_le_left _ _
  have hcn:c≤n:=hc▸Nat.min_le_right _ _
  obtain⟨z2,hz2,hrun2,hlen2⟩:=run_firstCV (P:=P) (d:=d2) hvy hp.imm (hr2 ρ) hmv
  have hload:=hrun2 c hcm
  obtain⟨zl2,zw2⟩:=hz2.len
  have hsegw:∀u∈(z2.drop 0).take c,u.length=te.size:=fun u hu=>zw2 u (List.mem_of_mem_drop (List.mem_of_mem_take hu))
  have hsegl:((z2.drop 0).take c).length=c:=by rw[List.length_take,List.length_drop];omega
  have hcall:∀v w',(Builtin.copy_ ts o.type #[a.eval x,a.eval y]).run P w= .ok v w'→(execOp a.eval o).run P w= .ok (.value v) w':=by
   intro v w' h
   simp only[execOp,ho,resolve,invoke,builtin,hxs,Sem.run_bind,Sem.run_pure,Result.andThen_ok,List.map_toArray,List.map_cons,List.map_nil]
   rw[h]
   rfl
  have hone:∀v∈(((z2.drop 0).take c).flatten),v.oneCell'=true:=fun u hu=>by
   obtain⟨q,hq,hu⟩:=List.mem_flatten.1 hu
   exact hz2.one' q (List.mem_of_mem_drop (List.mem_of_mem_take hq)) u hu
  rcases has_slc hvx with⟨b,t',cap,e1,e2,e3,hv⟩|⟨rfl,a',hv⟩
  ·obtain⟨z,ex,hz,g1,g2,g3⟩:=rows_at (hp.hfk k _ hf) hl hw e1
   obtain⟨zl,zw⟩:=hz.len
   simp only at zl
   have hrows:=(dcopy_rows hd hz hz2).1
   have hcl:(((z2.drop 0).take c).flatten).length=c*te.size:=by rw[flatten_len _ hsegw,hsegl]
   have hfit:i*te.size+c*te.size≤(z.flatten++ex).length:=by
    have:=Nat.mul_le_mul_right te.size (show i+c≤i+cap by omega)
    rw[Nat.add_mul]at this
    omega
   have hst:=run_storeCells_at (P:=P) b (i*te.size) ty (((z2.drop 0).take c).flatten) 0 (z.flatten++ex).toArray w g1 (by simp only[List.size_toArray];omega) hone
   have hzl:z.flatten.length=z.length*te.size:=flatten_len _ zw
   have hicz:(i+c)*te.size≤z.flatten.length:=by
    rw[hzl];exact Nat.mul_le_mul_right _ (by omega)
   have hiz:i*te.size≤z.flatten.length:=by
    rw[hzl];exact Nat.mul_le_mul_right _ (by omega)
   have hL:(z.flatten++ex).take (i*te.size)++((z2.drop 0).take c).flatten++(z.flatten++ex).drop (i*te.size+(((z2.drop 0).take c).flatten).length)=(z.take i++((z2.drop 0).take c++z.drop (i+c))).flatten++ex:=by
    rw[hcl,←Nat.add_mul,List.take_append_of_le_length hiz,List.drop_append_of_le_length hicz,List.flatten_append,List.flatten_append,flatten_take _ _ zw,flatten_drop _ _ zw]
    simp only[List.append_assoc]
   simp only[Nat.add_zero,hL]at hst
   refine⟨goInt c,w.setRow b ((z.take i++((z2.drop 0).take c++z.drop (i+c))).flatten++ex).toArray,ρ,hcall _ _ ?_, ?_⟩
   ·simp only[Builtin.copy_,hts,hv,List.getElem?_toArray,List.getElem?_cons_zero,List.getElem?_cons_succ,Sem.run_bind,run_underlying hu,Result.andThen_ok,hlen2,Sem.run_pure,he.sizeOf]
    rw[←hc,hload]
    simp only[Result.andThen_ok,hst]
   ·refine⟨.refl ρ,has_val rfl,fun _ _=>rfl,⟨rfl,rfl,rfl,by simp[World.setRow],fun j hj hnj=> ?_,Nat.le_refl _⟩,fun j bj hj=> ?_,(fun j c1 c2 h1 h2 h3 h4=> ?_),(fun _ _ _ h=>by cases h),(fun _ _ _ _ _ _ h=>by cases h),fun b o h=>.inl h⟩
    ·refine heap_setRow_other fun hib=>hnj ⟨k,_,t',List.mem_cons_self .., ?_⟩
     rw[hib];exact e1
    ·rcases hj with hj|hj
     ·simp only[List.mem_singleton,Prod.mk.injEq]at hj
      obtain⟨rfl,rfl⟩:=hj
      refine .inr (.inl ⟨b,t',_,ex,e1,by rw[Data.obj_cells hrows.notLoop];exact heap_setRow_same g1,hrows.data, ?_,g3⟩)
      rw[←g2,List.length_append,List.length_append,flatten_len _ hrows.len.2,hzl]
      congr 2
      rw[List.length_append,List.length_append,List.length_take,List.length_drop,hsegl]
      omega
     ·cases hj
    ·simp only[List.mem_singleton,Prod.mk.injEq]at h1 h2
     obtain⟨_,rfl⟩:=h1
     obtain⟨_,rfl⟩:=h2
     rw[h3]at h4;cases h4
  ·obtain rfl:c=0:=by omega
   obtain⟨z,hz,hcase⟩:=blk_rows (hp.hfk k _ hf) hl hw
   have hrows:=(dcopy_rows hd hz hz2).1
   have hsame:z.take i++((z2.drop 0).take 0++z.drop (i+0))=z:=by simp
   rw[hsame]at hrows
   refine⟨goInt 0,w,ρ,hcall _ _ ?_, ?_⟩
   ·simp only[Builtin.copy_,hts,hv,List.getElem?_toArray,List.getElem?_cons_zero,List.getElem?_cons_succ,Sem.run_bind,run_underlying hu,Result.andThen_ok,hlen2,Sem.run_pure,he.sizeOf]
    rw[←hc,hload]
    cases a' with
    |none=>simp[goInt]
    |some a'=>simp[goInt,storeCells]
   ·refine⟨.refl ρ,has_val rfl,fun _ _=>rfl,.refl _ _,fun j bj hj=> ?_,(fun j c1 c2 h1 h2 h3 h4=> ?_),(fun _ _ _ h=>by cases h),(fun _ _ _ _ _ _ h=>by cases h),fun b o h=>.inl h⟩
    ·rcases hj with hj|hj
     ·simp only[List.mem_singleton,Prod.mk.injEq]at hj
      obtain⟨rfl,rfl⟩:=hj
      rcases hcase with⟨b',t',ex,h1,h2,h3,h4⟩|⟨h1,h2⟩
      ·exact .inr (.inl ⟨b',t',_,ex,h1,by rw[Data.obj_cells hrows.notLoop];exact h2,hrows.data,h3,h4⟩)
      ·refine .inr (.inr ⟨h1, ?_⟩)
       exact empty_of hrows (by rw[h2];rfl)
     ·cases hj
    ·simp only[List.mem_singleton,Prod.mk.injEq]at h1 h2
     obtain⟨_,rfl⟩:=h1
     obtain⟨_,rfl⟩:=h2
     rw[h3]at h4;cases h4
theorem retseq_RR {E:Env} {j s:Nat} {ty:TypeId} {wr:Bool} {cs cs':List SV} {fr:List (Nat×SV)} {hp:List (Nat×Blk)} (hj:find hp j=some ⟨ty,wr,.seq s cs⟩) (hd:∀ρ z,HasZ ρ cs z→HasZ ρ cs' z) (hw:∀x∈cs',x.width=s) (he:cs=[]→cs'=[]) {a:Act} {w:World} (hR:RR E (fn fr hp) a w):
  RR E (fn fr ((j,⟨ty,wr,.seq s cs'⟩)::hp)) a w:=by
 obtain⟨ρ,hext,hfx,hR⟩:=hR
 have hblk:∀i b,(fn fr ((j,⟨ty,wr,.seq s cs'⟩)::hp) (.k i)).blk=some b→∃b0,(fn fr hp (.k i)).blk=some b0∧b0.wr=b.wr∧b0.data.live=b.data.live∧(b0=b∨(i=j∧b0=⟨ty,wr,.seq s cs⟩∧b=⟨ty,wr,.seq s cs'⟩)):=by
  intro i b hb
  simp only[fn,LV.blk,find]at hb ⊢
  cases hi:Nat.beq j i with
  |true=>
   rw[hi]at hb
   simp only[Option.some.injEq]at hb
   obtain rfl:=Nat.eq_of_beq_eq_true hi
   subst hb
   exact⟨_,hj,rfl,rfl,.inr ⟨rfl,rfl,rfl⟩⟩
  |false=>rw[hi]at hb;exact⟨b,hb,rfl,rfl,.inl rfl⟩
 refine⟨ρ,hext,fun i hi=> ?_,{defers:=hR.defers,size:=hR.size,fr:=fun u sv hu=>hR.fr u sv hu,pres:=hR.pres,hp:= ?_}⟩
 ·have:=hfx i hi
  simp only[fn,LV.blk,find]at this ⊢
  cases hb:Nat.beq j i with
  |true=>simp
  |false=>exact this
 ·constructor
  ·intro i b hb
   obtain⟨b0,h1,h2,h3,rfl|⟨rfl,rfl,rfl⟩⟩:=hblk i b hb
   ·exact hR.hp.blk i b0 h1
   ·rcases hR.hp.blk i _ h1 with h4|⟨b',t,vs,ex,g1,g2,g3,g4,g5⟩|⟨_,h4⟩
    ·cases h4
    ·refine .inr (.inl ⟨b',t,vs,ex,g1,g2, ?_,g4,g5⟩)
     simp only[DataC]at g3 ⊢
     obtain⟨z,g6,g7⟩:=g3
     exact⟨z,hd _ z g6,g7.1,hw⟩
    ·exact .inr (.inr ⟨‹_›,he h4⟩)
  ·intro i i' x x' b b' hx hx' hn hxe hb hb' hl hl'
   obtain⟨b0,h1,h2,h3,_⟩:=hblk i b hb
   obtain⟨b0',h1',h2',h3',_⟩:=hblk i' b' hb'
   rw[←h2]
   exact hR.hp.sep i i' x x' b0 b0' hx hx' hn hxe h1 h1' (h3.trans hl) (h3'.trans hl')
  ·intro i b x hb hw hl hx
   obtain⟨b0,h1,h2,h3,_⟩:=hblk i b hb
   exact hR.hp.own i b0 x h1 (h2.trans hw) (h3.trans hl) hx
  ·intro i x hx
   obtain⟨b,hb⟩:=hR.hp.dom i x hx
   simp only[fn,LV.blk,find]at hb ⊢
   cases hi:Nat.beq j i with
   |true=>exact⟨_,rfl⟩
   |false=>exact⟨b,hb⟩
  ·exact hR.hp.imm
  ·intro i b x hb hw hl hx
   obtain⟨b0,h1,h2,h3,_⟩:=hblk i b hb
   exact hR.hp.immw i b0 x h1 (h2.trans hw) (h3.trans hl) hx
theorem SWx_retseq {E:Env} (j:Nat) {s:Nat} {ty:TypeId} {wr:Bool} {cs:List SV} (cs':List SV) {c:Code} {K:Post'} {fr:List (Nat×SV)} {hp:List (Nat×Blk)} (hj:find hp j=some ⟨ty,wr,.seq s cs⟩) (hd:∀ρ z,HasZ ρ cs z→HasZ ρ cs' z) (hw:∀x∈cs',x.width=s) (he:cs=[]→cs'=[])
  (hs:SWx E c K fr ((j,⟨ty,wr,.seq s cs'⟩)::hp)):SWx E c K fr hp:=⟨fun a w hR=>hs.run a w (retseq_RR hj hd hw he hR)⟩
theorem HasZ_rep {ρ:Rho} {c d:SV} (h:∀x,HasC ρ c x→HasC ρ d x):∀(n:Nat) (z:List (List Value)),HasZ ρ (List.replicate n c) z→HasZ ρ (List.replicate n d) z
 |0,z,hz=>hz
 |n+1,z,hz=>by
  rw[List.replicate_succ]at hz ⊢
  simp only[HasZ]at hz ⊢
  obtain⟨x,r,rfl,h1,h2⟩:=hz
  exact⟨x,r,rfl,h x h1,HasZ_rep h n r h2⟩
theorem op_storeG {P:Program} {o:Oper} {ft:List (Nat×SV)} {fk:List (Nat×Blk)} {t:TypeId} {x y:Operand} {ti:TI} {k s i r f:Nat} {ty:TypeId} {d d':Data} {ob:Option Prop} {cs cs' nw:List SV} {sv:SV} (ho:o.op= .store t x y) (hx:EvOK ft x (.ptr k s i r)) (hy:EvOK ft y sv)
  (ht:TOK P t ti) (hk:(k,⟨ty,true,d⟩)∈fk) (he:elem d s i=some (ob,cs)) (hob:obP ob) (hc:∀(ρ:Rho) (v:Value),Has ρ sv v→∃z,HasZ ρ nw z∧v.cells.toList=z.flatten) (hw:SV.widthL nw=ti.size) (hle:r+ti.size≤SV.widthL cs)
  (hp:put f cs r ti.size nw=some cs') (hd:elemPut d i cs'=some d'):OpOK P o ft fk .any [] [(k,⟨ty,true,d'⟩)]:=
 ok_skip fun ρ a w hpre=>by
  have hx:=hx ρ a hpre.hft
  simp only[Has,HasC]at hx
  obtain⟨_,⟨b,n,hkey,rfl⟩,hv⟩:=hx
  simp only[mkV,SV.isOne,if_true,List.headD_cons]at hv
  rcases hpre.hfk k _ hk with h0|⟨b',n',vs,ex,h1,h2,h3,h4,h5⟩|⟨h1,h2⟩
  case inl=>simp only at h0;cases d<;>simp[Data.live,elem]at h0 he
  case inr.inr=>rw[hkey]at h1;cases h1
  rw[hkey]at h1
  cases h1
  simp only at h2 h3
  rw[Data.obj_cells (elem_cells he)]at h2
  obtain⟨z,g1,g2,g3⟩:=elem_has he hob h3
  obtain⟨yz,y1,y2⟩:=hc ρ _ (hy ρ a hpre.hft)
  have hyl:=(HasZ.len nw yz y1).1
  have hy1:=(HasZ.len nw yz y1).2
  have hzl:=(HasZ.len cs z g1).1
  obtain⟨z',p1,p2⟩:=put_has hp g1 y1
  have hzl':z'.flatten.length=SV.widthL cs:=by
   rw[p2]
   simp only[List.length_append,List.length_take,List.length_drop]
   omega
  have hdc:=elemPut_has he hob h3 hd p1 hzl'
  have hsplit:vs=vs.take (i*s)++(z.flatten++vs.drop (i*s+SV.widthL cs)):=by
   rw[g2,hzl,←List.drop_drop,List.take_append_drop,List.take_append_drop]
  have hAl:(vs.take (i*s)).length=i*s:=by rw[List.length_take];omega
  generalize hA:vs.take (i*s)=A at hsplit hAl hdc
  generalize hC:vs.drop (i*s+SV.widthL cs)=C at hsplit hdc
  have hsz:(yz.flatten).length=ti.size:=by omega
  have hL:(vs++ex).take (i*s+r)++yz.flatten++(vs++ex).drop (i*s+r+yz.flatten.length)=(A++z'.flatten++C)++ex:=by
   rw[hsplit,p2,hsz,←hAl]
   simp only[List.append_assoc]
   rw[List.take_length_add_append,Nat.add_assoc,List.drop_length_add_append,List.take_append_of_le_length (by omega),List.drop_append_of_le_length (by omega)]
   try simp
  have hrun:(storeVar t ⟨b,i*s+r,none⟩ (a.eval y)).run P w= .ok () (w.setRow b ((A++z'.flatten++C)++ex).toArray):=by
   have hsc:=run_storeCells_at (P:=P) b (i*s+r) ty yz.flatten 0 (vs++ex).toArray w h2 (by simp only[List.size_toArray,List.length_append];omega) hy1
   simp only[Nat.add_zero,hL]at hsc
   have hcells:(a.eval y).cells.size=ti.size:=by rw[←Array.length_toList,y2];exact hsz
   unfold storeVar
   simp only[Sem.run_bind,ht.sizeOf,Result.andThen_ok,hcells,ne_eq,not_true_eq_false,if_false,y2,hsc]
  refine⟨w.setRow b ((A++z'.flatten++C)++ex).toArray,ρ, ?_, ?_⟩
  ·simp only[execOp,ho,Instr.storeAt,Instr.sureAddr,hv,Sem.run_bind,Sem.run_pure,Result.andThen_ok,hrun]
  ·refine⟨.refl ρ,trivial,fun _ _=>rfl,⟨rfl,rfl,rfl,by simp[World.setRow],fun i hi hn=> ?_,Nat.le_refl _⟩,fun j bj hj=> ?_,(fun j c c' h1 h2 h3 h4=> ?_),(fun _ _ _ h=>by cases h),(fun _ _ _ _ _ _ h=>by cases h),fun b o h=>.inl h⟩
   ·refine heap_setRow_other fun hib=>hn ⟨k,_,n,List.mem_cons_self .., ?_⟩
    rw[hib];exact hkey
   ·rcases hj with hj|hj
    ·simp only[List.mem_singleton,Prod.mk.injEq]at hj
     obtain⟨rfl,rfl⟩:=hj
     refine .inr (.inl ⟨b,n,_,ex,hkey,by rw[Data.obj_cells (elemPut_cells hd)];exact heap_setRow_same h2,hdc, ?_,h5⟩)
     rw[←h4,hsplit]
     simp only[List.length_append,hzl',hzl]
     omega
    ·cases hj
   ·simp only[List.mem_singleton,Prod.mk.injEq]at h1 h2
    obtain⟨_,rfl⟩:=h1
    obtain⟨_,rfl⟩:=h2
    rw[h3]at h4;cases h4
theorem agg_has {ρ:Rho} {c:List SV} {v:Value} (h:Has ρ (.agg c) v):∃z,HasZ ρ [.agg c] z∧v.cells.toList=z.flatten:=by
 obtain⟨y,h1,h2⟩:=comps_has (l:=c) rfl h
 refine⟨[y.flatten], ?_,by rw[h2];simp⟩
 simp only[HasZ,HasC]
 exact⟨y.flatten,[],rfl,⟨y,h1,rfl⟩,rfl⟩
theorem g_storeA {P:Program} {o:Oper} {fr:List (Nat×SV)} {hp:List (Nat×Blk)} {K:SV→List (Nat×Blk)→List (Nat×Blk)→List (Nat×Blk)→Prop} {t ty:TypeId} {x y:Operand} {ti:TI} {k w i:Nat} {xs:List SV} {c:List SV} {e:SV} (ho:o.op= .store t x y) (hx:EvOK fr x (.ptr k w i 0))
  (hy:EvOK fr y (.agg c)) (hf:find hp k=some ⟨ty,true,.seq w xs⟩) (ht:TOK P t ti) (he:elem (.seq w xs) w i=some (some (i<xs.length),[e])) (hi:i<xs.length) (hw:SV.widthL [.agg c]=ti.size) (hle:0+ti.size≤SV.widthL [e]) (hp':put 64 [e] 0 ti.size [.agg c]=some [.agg c]) (hd:elemPut (.seq w xs) i [.agg c]=some (.seq w (xs.set i (.agg c))))
  (hK:K .any [(k,⟨ty,true,.seq w xs⟩)] [] [(k,⟨ty,true,.seq w (xs.set i (.agg c))⟩)]):
  ∃c fk new upd,OpOK P o fr fk c new upd∧FkOK hp fk∧NewOK hp new∧UpdOK fk upd∧K c fk new upd:=
 ⟨.any,_,[],_,op_storeG (ob:=some (i<xs.length)) ho hx hy ht (List.mem_singleton.2 rfl) he hi (fun _ _ h=>agg_has h) hw hle hp' hd,one_fk hf,nil_new,one_upd (List.mem_singleton.2 rfl) rfl rfl rfl,hK⟩
end Go.Sx
namespace Go.Proofs.YthaeohlijigplaaGreat
open Go.Sx
set_option linter.unusedSimpArgs false
set_option linter.unusedVariables false
set_option maxRecDepth 100000
set_option maxHeartbeats 16000000
abbrev zLv:SV:=.agg [.val (.slice none 0 0),.val (.slice none 0 0),.val (.slice none 0 0),.val (.slice none 0 0)]
theorem zLv_has {ρ:Rho} {x:List Value} (h:HasC ρ zLv x):HasC ρ (lvA lv0) x:=by
 simp only[HasC,HasZ]at h
 obtain⟨z,⟨x1,r1,rfl,h1,x2,r2,rfl,h2,x3,r3,rfl,h3,x4,r4,rfl,h4,rfl⟩,rfl⟩:=h
 simp only[lvA,lv0,List.map_nil]
 have g:∀{w:Nat} {x:List Value},x=[.slice none 0 0]∧(Value.slice none 0 0).oneCell'=true→HasC ρ (vecA w []) x:=fun h=>by
  simp only[HasC];exact .inl ⟨rfl,none,h.1⟩
 have e:HasZ ρ [mvec 10 ptA lv0.m.ps,mvec 3 triA lv0.m.ts,mvec 3 triA lv0.m.ss,ivec .i64 lv0.pa] [x1,x2,x3,x4]:=by
  simp only[HasZ]
  exact⟨x1,_,rfl,g h1,x2,_,rfl,g h2,x3,_,rfl,g h3,x4,_,rfl,g h4,rfl⟩
 simp only[HasC]
 exact⟨_,e,rfl⟩
theorem zeros_Lv (n:Nat):∀ρ z,HasZ ρ (List.replicate n zLv) z→HasZ ρ ((List.replicate n lv0).map lvA) z:=fun ρ z h=>by
 rw[List.map_replicate]
 exact HasZ_rep (fun x hx=>zLv_has hx) n z h
theorem cop_Lv (c:List Lv):dcopy (.seq 4 ((List.replicate (c.length+1) lv0).map lvA)) 0 (.seq 4 (c.map lvA)) 0 (Nat.min c.length (c.length+1))=some (.seq 4 ((c++[lv0]).map lvA)):=by
 have:Nat.min c.length (c.length+1)=c.length:=Nat.min_eq_left (by omega)
 simp[dcopy,this,List.take_of_length_le]
theorem lvN_has {l:Lv} {ρ:Rho} {x:List Value} (h:HasC ρ (.agg [meA l.m,ivec .i64 l.pa]) x):HasC ρ (lvA l) x:=by
 simp only[HasC,HasZ]at h
 obtain⟨z,⟨x1,r1,rfl,⟨z1,⟨a,r2,rfl,h1,b,r3,rfl,h2,d,r4,rfl,h3,rfl⟩,rfl⟩,x4,r5,rfl,h4,rfl⟩,rfl⟩:=h
 have e:HasZ ρ [mvec 10 ptA l.m.ps,mvec 3 triA l.m.ts,mvec 3 triA l.m.ss,ivec .i64 l.pa] [a,b,d,x4]:=by
  simp only[HasZ,HasC]
  exact⟨a,_,rfl,h1,b,_,rfl,h2,d,_,rfl,h3,x4,_,rfl,h4,rfl⟩
 simp only[lvA,HasC]
 exact⟨_,e,by simp⟩
theorem HasZ_set {ρ:Rho} {c d:SV} (h:∀x,HasC ρ c x→HasC ρ d x):∀(L:List SV) (i:Nat) (z:List (List Value)),HasZ ρ (L.set i c) z→HasZ ρ (L.set i d) z
 |[],_,z,hz=>hz
 |a::L,0,z,hz=>by
  simp only[List.set_cons_zero,HasZ]at hz ⊢
  obtain⟨x,r,rfl,h1,h2⟩:=hz
  exact⟨x,r,rfl,h x h1,h2⟩
 |a::L,i+1,z,hz=>by
  simp only[List.set_cons_succ,HasZ]at hz ⊢
  obtain⟨x,r,rfl,h1,h2⟩:=hz
  exact⟨x,r,rfl,h1,HasZ_set h L i r h2⟩
theorem lv_at1 (c:List Lv) {i:Nat} (h:i<c.length):((c++[lv0]).map lvA).getD i .any=lvA (lvG c i):=by
 rw[List.getD_eq_getElem?_getD,List.getElem?_map,List.getElem?_append_left h,List.getElem?_eq_getElem h,lvG,List.getD_eq_getElem?_getD,List.getElem?_eq_getElem h];rfl
theorem lv_set1 (c:List Lv) {i:Nat} (h:i<c.length):((c++[lv0]).map lvA).set i (lvA (lvG c i))=(c++[lv0]).map lvA:=by
 rw[←List.map_set]
 congr 1
 apply List.ext_getElem?
 intro j
 rw[List.getElem?_set]
 split
 ·rename_i hj
  subst hj
  rw[if_pos (by simp;omega),List.getElem?_append_left h,List.getElem?_eq_getElem h,lvG,List.getD_eq_getElem?_getD,List.getElem?_eq_getElem h];rfl
 ·rfl
theorem lv_at2 (c:List Lv):((c++[lv0]).map lvA).getD c.length .any=lvA lv0:=by
 rw[List.getD_eq_getElem?_getD,List.getElem?_map,List.getElem?_append_right (Nat.le_refl _),Nat.sub_self];rfl
theorem lv_set2 (c:List Lv) (l:Lv):((c++[lv0]).map lvA).set c.length (lvA l)=(c++[l]).map lvA:=by
 rw[←List.map_set,List.set_append_right _ _ (Nat.le_refl _),Nat.sub_self];rfl
theorem v_moreR (c:List Lv) (g:FuncId) (cs:List SV) (m:Me) (pa:List Int) (hc:c≠[]) (hl:c.length≤64) (hf:∀i,i<c.length→(lvG c i).m.Fit∧(lvG c i).pa.length<1099511627776) (k:CallOK Tryz.prog g ([]++([meA (lvG c (c.length - 1)).m]++[])) [] (.tup [meA m,ivec .i64 pa,iv 0]) [] []):
  CallOK Tryz.prog 40 [lvs c,.clo g [] []] [] (.tup [lvs (c++[⟨m,pa⟩]),iv 0]) [] []:=by
 have hp:0<c.length:=List.length_pos_iff.2 hc
 have kt:=v_Top c hc (by omega) (hf _ (by omega)).1
 rw[show c.getD (c.length - 1) lv0=lvG c (c.length - 1)from rfl]at kt
 generalize lvG c (c.length - 1)=top at*
 have t1:(((c.length:Nat):Int)==0)=false:=beq_eq_false_iff_ne.2 (by omega)
 have t2:decide (((c.length:Nat):Int)>64)=false:=decide_eq_false (by omega)
 have e1:IntKind.i64.wrap (((c.length:Nat):Int)+1)=((c.length+1:Nat):Int):=by rw[wrap_i64 (by omega) (by omega)];omega
 refine callF (Z:=[100009,100014,100016]) tabOK mixedOK Tryz.func40 rfl (by kernel_rfl) (by first|rfl|(simp[keylessL,keyless,keylessL_map, *];done)) (by first|rfl|(simp[keylessL,keyless,keylessL_map, *];done)) (by kernel_rfl) rfl ?_
 intro w0 ρ0 hE
 conv=>whnf
 (repeat(first|(refine step_w2 rfl rfl ?_;conv=>whnf)|(refine g_c (by assumption) ?_;conv=>whnf)|(rw[bne_self_eq_false];conv=>whnf)|(refine g_o (op_lenM rfl rfl rfl (ev_ok rfl) (tgt rfl) rfl) ?_;conv=>whnf)|(refine⟨⟨by omega,Int.le_refl _,by simp only[tiB38];omega,by omega⟩, ?_⟩;conv=>whnf)|(rw[t1];conv=>whnf)|(rw[t2];conv=>whnf)|(rw[e1];conv=>whnf)|(rw[Int.toNat_natCast];conv=>whnf)))
 refine SWx_retseq 33 ((List.replicate (c.length+1) lv0).map lvA) rfl (zeros_Lv _) (fun x hx=>by rw[List.map_replicate]at hx;rw[(List.mem_replicate.1 hx).2];rfl) (fun h=>by cases h) ?_
 refine SWx_go hE ?_
 conv=>whnf
 (repeat(first|(refine g_o (op_lenM rfl rfl rfl (ev_ok rfl) (tgt rfl) rfl) ?_;conv=>whnf)|(refine⟨_,[(33,_)],[],[(33,_)],op_copyV (d':=.seq 4 ((c++[lv0]).map lvA)) rfl rfl rfl (ev_ok rfl) (ev_ok rfl) (rows_seqW 4 lvA c) (tgt rfl) rfl (tgt rfl) (List.mem_cons_self ..) rfl rfl (by simp[dlen]) (List.length_map ..).symm (by simp[dlen]) rfl (cop_Lv c),one_fk rfl,nil_new,one_upd (List.mem_cons_self ..) rfl rfl rfl, ?_⟩;conv=>whnf)))
 refine SW_loopN hE (fun k=>k) [0,6,7,9,38,39] [6,33] (fun M fr hp=>∃i,M=c.length - i∧i≤c.length∧fr=[(0,lvs c),(6,.ptr 6 0 0 0),(7,ivec .i64 pa),(9,.slc 33 4 0 (c.length+1)),(38,iv (c.length:Nat)),(39,iv (i:Nat))]∧
  hp=[(6,⟨35,true,.one [mvec 10 ptA m.ps,mvec 3 triA m.ts,mvec 3 triA m.ss]⟩),(33,⟨38,true,.seq 4 ((c++[lv0]).map lvA)⟩)]) c.length ?_ ?_ ?_
 ·kernel_rfl
 ·exact⟨0,rfl,by omega,rfl,rfl⟩
 rintro M _ _ ⟨i,rfl,hi,rfl,rfl⟩
 have hcl:((c++[lv0]).map lvA).length=c.length+1:=by simp
 by_cases hlt:i<c.length
 ·have s1:=dlt hlt
  have wk:=winc (i:=i) (by omega)
  have hfi:=hf i hlt
  have e2:=lv_at1 c hlt
  have e3:=lv_set1 c hlt
  have hli:c.getD i lv0=lvG c i:=rfl
  have km:=m_Copy (lvG c i).m hfi.1
  have kc:=g_CloneFI (lvG c i).pa hfi.2
  have kp:=g_ClipI (lvG c i).pa
  have u1:0+(i:Int).toNat=i:=by omega
  generalize hL:(c++[lv0]).map lvA=L at*
  generalize lvG c i=li at*
  conv=>whnf
  (repeat((first|refine step_w1 rfl rfl ?_|refine step_i (by kernel_rfl) ?_|refine step_oA (by first|omega|decide|(simp only[tl0,dlen,List.length_replicate,List.length_set,List.length_map,List.length_zipWith,List.length_take,List.length_append,List.length_cons,List.length_nil];omega)) ?_|refine g_c (by assumption) ?_|refine g_o (op_loadA rfl (ev_ok rfl) (tgt rfl) rfl (Nat.succ_ne_zero _) rfl) ?_|refine g_o (op_fieldA rfl (ev_ok rfl) (tgt rfl) rfl rfl (Nat.succ_ne_zero _) rfl) ?_|refine g_o (op_indexN (α:=Lv) (d:=lv0) rfl (ev_ok rfl) (ev_ok rfl) (tgt rfl) rfl (tgt rfl) rfl (by omega)) ?_|refine g_storeA rfl (ev_ok rfl) (ev_ok rfl) rfl (tgt rfl) (congrArg (fun c=>some (some _,[c])) e2) (by omega) rfl (Nat.le_refl _) rfl rfl ?_|rw[s1]|rw[hli]|rw[u1]|rw[e2]);conv=>whnf))
  refine SWx_retseq 33 L rfl (fun ρ z h=>by have:=HasZ_set (fun x=>lvN_has (l:=li)) L i z h;rwa [e3]at this) (fun x hx=>by rw[←hL]at hx;obtain⟨l,_,rfl⟩:=List.mem_map.1 hx;rfl) (fun h=>by rw[List.set_eq_nil_iff]at h;exact h) ?_
  refine SWx_go hE ?_
  conv=>whnf
  (repeat(first|(rw[wk];conv=>whnf)))
  exact⟨c.length - (i+1),fun k=>k,[0,6,7,9,38,39],[6,33],by omega,by kernel_rfl,i+1,rfl,by omega,rfl,rfl⟩
 ·have s1:=dge hlt
  obtain rfl:i=c.length:=by omega
  have e2:=lv_at2 c
  have e3:=lv_set2 c ⟨m,pa⟩
  have u1:0+(c.length:Int).toNat=c.length:=by omega
  generalize hL:(c++[lv0]).map lvA=L at*
  conv=>whnf
  (repeat((first|refine step_w2 rfl rfl ?_|refine step_oA (by first|omega|decide|(simp only[tl0,dlen,List.length_replicate,List.length_set,List.length_map,List.length_zipWith,List.length_take,List.length_append,List.length_cons,List.length_nil];omega)) ?_|refine g_o (op_lenM rfl rfl rfl (ev_ok rfl) (tgt rfl) rfl) ?_|refine g_storeA rfl (ev_ok rfl) (ev_ok rfl) rfl (tgt rfl) (congrArg (fun c=>some (some _,[c])) e2) (by omega) rfl (Nat.le_refl _) rfl rfl ?_|rw[s1]|rw[u1]|rw[e2]);conv=>whnf))
  refine SWx_retseq 33 ((c++[(⟨m,pa⟩:Lv)]).map lvA) rfl (fun ρ z h=>by have:=HasZ_set (fun x=>lvN_has (l:=⟨m,pa⟩)) L c.length z h;rwa [e3]at this) (fun x hx=>by obtain⟨l,_,rfl⟩:=List.mem_map.1 hx;rfl) (fun h=>by rw[List.set_eq_nil_iff]at h;rw[h]at hcl;cases hcl) ?_
  refine SWx_go hE ?_
  conv=>whnf
  skip
  have hlm:c.length+1=((c++[(⟨m,pa⟩:Lv)]).map lvA).length:=by simp
  (first|exact Recast.refl _|exact Frz.recast (Recast.refl _) rfl|(refine Frz.one rfl rfl ?_;skip)|(refine Frz.tup ?_;(repeat(first|exact FrzC.keyless rfl|exact FrzL.nil|refine FrzL.cons ?_ ?_|(refine FrzC.seq rfl (by first|rfl|(apply keylessL_map;intro _;rfl)) ?_;(first|rfl|omega|(simp<;>fail)|(simp<;>omega)))))))
theorem v_moreB (c:List Lv) (g:FuncId) (cs:List SV) (m:Me) (pa:List Int) (hc:c≠[]) (hl:c.length≤64) (hf:∀i,i<c.length→(lvG c i).m.Fit∧(lvG c i).pa.length<1099511627776) (k:CallOK Tryz.prog g ([]++([meA (lvG c (c.length - 1)).m]++[ptrA cs])) [] (.tup [meA m,ivec .i64 pa,iv 0]) [] []):
  CallOK Tryz.prog 40 [lvs c,.clo g [] [ptrA cs]] [] (.tup [lvs (c++[⟨m,pa⟩]),iv 0]) [] []:=by
 have hp:0<c.length:=List.length_pos_iff.2 hc
 have kt:=v_Top c hc (by omega) (hf _ (by omega)).1
 rw[show c.getD (c.length - 1) lv0=lvG c (c.length - 1)from rfl]at kt
 generalize lvG c (c.length - 1)=top at*
 have t1:(((c.length:Nat):Int)==0)=false:=beq_eq_false_iff_ne.2 (by omega)
 have t2:decide (((c.length:Nat):Int)>64)=false:=decide_eq_false (by omega)
 have e1:IntKind.i64.wrap (((c.length:Nat):Int)+1)=((c.length+1:Nat):Int):=by rw[wrap_i64 (by omega) (by omega)];omega
 refine callF (Z:=[100009,100014,100016]) tabOK mixedOK Tryz.func40 rfl (by kernel_rfl) (by first|rfl|(simp[keylessL,keyless,keylessL_map, *];done)) (by first|rfl|(simp[keylessL,keyless,keylessL_map, *];done)) (by kernel_rfl) rfl ?_
 intro w0 ρ0 hE
 conv=>whnf
 (repeat(first|(refine step_w2 rfl rfl ?_;conv=>whnf)|(refine g_c (by assumption) ?_;conv=>whnf)|(rw[bne_self_eq_false];conv=>whnf)|(refine g_o (op_lenM rfl rfl rfl (ev_ok rfl) (tgt rfl) rfl) ?_;conv=>whnf)|(refine⟨⟨by omega,Int.le_refl _,by simp only[tiB38];omega,by omega⟩, ?_⟩;conv=>whnf)|(rw[t1];conv=>whnf)|(rw[t2];conv=>whnf)|(rw[e1];conv=>whnf)|(rw[Int.toNat_natCast];conv=>whnf)))
 refine SWx_retseq 33 ((List.replicate (c.length+1) lv0).map lvA) rfl (zeros_Lv _) (fun x hx=>by rw[List.map_replicate]at hx;rw[(List.mem_replicate.1 hx).2];rfl) (fun h=>by cases h) ?_
 refine SWx_go hE ?_
 conv=>whnf
 (repeat(first|(refine g_o (op_lenM rfl rfl rfl (ev_ok rfl) (tgt rfl) rfl) ?_;conv=>whnf)|(refine⟨_,[(33,_)],[],[(33,_)],op_copyV (d':=.seq 4 ((c++[lv0]).map lvA)) rfl rfl rfl (ev_ok rfl) (ev_ok rfl) (rows_seqW 4 lvA c) (tgt rfl) rfl (tgt rfl) (List.mem_cons_self ..) rfl rfl (by simp[dlen]) (List.length_map ..).symm (by simp[dlen]) rfl (cop_Lv c),one_fk rfl,nil_new,one_upd (List.mem_cons_self ..) rfl rfl rfl, ?_⟩;conv=>whnf)))
 refine SW_loopN hE (fun k=>k) [0,6,7,9,38,39] [6,33] (fun M fr hp=>∃i,M=c.length - i∧i≤c.length∧fr=[(0,lvs c),(6,.ptr 6 0 0 0),(7,ivec .i64 pa),(9,.slc 33 4 0 (c.length+1)),(38,iv (c.length:Nat)),(39,iv (i:Nat))]∧
  hp=[(6,⟨35,true,.one [mvec 10 ptA m.ps,mvec 3 triA m.ts,mvec 3 triA m.ss]⟩),(33,⟨38,true,.seq 4 ((c++[lv0]).map lvA)⟩)]) c.length ?_ ?_ ?_
 ·kernel_rfl
 ·exact⟨0,rfl,by omega,rfl,rfl⟩
 rintro M _ _ ⟨i,rfl,hi,rfl,rfl⟩
 have hcl:((c++[lv0]).map lvA).length=c.length+1:=by simp
 by_cases hlt:i<c.length
 ·have s1:=dlt hlt
  have wk:=winc (i:=i) (by omega)
  have hfi:=hf i hlt
  have e2:=lv_at1 c hlt
  have e3:=lv_set1 c hlt
  have hli:c.getD i lv0=lvG c i:=rfl
  have km:=m_Copy (lvG c i).m hfi.1
  have kc:=g_CloneFI (lvG c i).pa hfi.2
  have kp:=g_ClipI (lvG c i).pa
  have u1:0+(i:Int).toNat=i:=by omega
  generalize hL:(c++[lv0]).map lvA=L at*
  generalize lvG c i=li at*
  conv=>whnf
  (repeat((first|refine step_w1 rfl rfl ?_|refine step_i (by kernel_rfl) ?_|refine step_oA (by first|omega|decide|(simp only[tl0,dlen,List.length_replicate,List.length_set,List.length_map,List.length_zipWith,List.length_take,List.length_append,List.length_cons,List.length_nil];omega)) ?_|refine g_c (by assumption) ?_|refine g_o (op_loadA rfl (ev_ok rfl) (tgt rfl) rfl (Nat.succ_ne_zero _) rfl) ?_|refine g_o (op_fieldA rfl (ev_ok rfl) (tgt rfl) rfl rfl (Nat.succ_ne_zero _) rfl) ?_|refine g_o (op_indexN (α:=Lv) (d:=lv0) rfl (ev_ok rfl) (ev_ok rfl) (tgt rfl) rfl (tgt rfl) rfl (by omega)) ?_|refine g_storeA rfl (ev_ok rfl) (ev_ok rfl) rfl (tgt rfl) (congrArg (fun c=>some (some _,[c])) e2) (by omega) rfl (Nat.le_refl _) rfl rfl ?_|rw[s1]|rw[hli]|rw[u1]|rw[e2]);conv=>whnf))
  refine SWx_retseq 33 L rfl (fun ρ z h=>by have:=HasZ_set (fun x=>lvN_has (l:=li)) L i z h;rwa [e3]at this) (fun x hx=>by rw[←hL]at hx;obtain⟨l,_,rfl⟩:=List.mem_map.1 hx;rfl) (fun h=>by rw[List.set_eq_nil_iff]at h;exact h) ?_
  refine SWx_go hE ?_
  conv=>whnf
  (repeat(first|(rw[wk];conv=>whnf)))
  exact⟨c.length - (i+1),fun k=>k,[0,6,7,9,38,39],[6,33],by omega,by kernel_rfl,i+1,rfl,by omega,rfl,rfl⟩
 ·have s1:=dge hlt
  obtain rfl:i=c.length:=by omega
  have e2:=lv_at2 c
  have e3:=lv_set2 c ⟨m,pa⟩
  have u1:0+(c.length:Int).toNat=c.length:=by omega
  generalize hL:(c++[lv0]).map lvA=L at*
  conv=>whnf
  (repeat((first|refine step_w2 rfl rfl ?_|refine step_oA (by first|omega|decide|(simp only[tl0,dlen,List.length_replicate,List.length_set,List.length_map,List.length_zipWith,List.length_take,List.length_append,List.length_cons,List.length_nil];omega)) ?_|refine g_o (op_lenM rfl rfl rfl (ev_ok rfl) (tgt rfl) rfl) ?_|refine g_storeA rfl (ev_ok rfl) (ev_ok rfl) rfl (tgt rfl) (congrArg (fun c=>some (some _,[c])) e2) (by omega) rfl (Nat.le_refl _) rfl rfl ?_|rw[s1]|rw[u1]|rw[e2]);conv=>whnf))
  refine SWx_retseq 33 ((c++[(⟨m,pa⟩:Lv)]).map lvA) rfl (fun ρ z h=>by have:=HasZ_set (fun x=>lvN_has (l:=⟨m,pa⟩)) L c.length z h;rwa [e3]at this) (fun x hx=>by obtain⟨l,_,rfl⟩:=List.mem_map.1 hx;rfl) (fun h=>by rw[List.set_eq_nil_iff]at h;rw[h]at hcl;cases hcl) ?_
  refine SWx_go hE ?_
  conv=>whnf
  skip
  have hlm:c.length+1=((c++[(⟨m,pa⟩:Lv)]).map lvA).length:=by simp
  (first|exact Recast.refl _|exact Frz.recast (Recast.refl _) rfl|(refine Frz.one rfl rfl ?_;skip)|(refine Frz.tup ?_;(repeat(first|exact FrzC.keyless rfl|exact FrzL.nil|refine FrzL.cons ?_ ?_|(refine FrzC.seq rfl (by first|rfl|(apply keylessL_map;intro _;rfl)) ?_;(first|rfl|omega|(simp<;>fail)|(simp<;>omega)))))))
theorem v_Red (c:List Lv) (m:Me) (pa:List Int) (hc:c≠[]) (hl:c.length≤64) (hf:∀i,i<c.length→(lvG c i).m.Fit∧(lvG c i).pa.length<1099511627776) (k:CallOK Tryz.prog 41 [meA (lvG c (c.length - 1)).m] [] (.tup [meA m,ivec .i64 pa,iv 0]) [] []):
  CallOK Tryz.prog 16 [lvs c] [] (.tup [lvs (c++[⟨m,pa⟩]),iv 0]) [] []:=by
 have k1:=v_moreR c 41 [] m pa hc hl hf k
 refine callV (Z:=[]) tabOK mixedOK Tryz.func16 rfl (by kernel_rfl) rfl rfl (by kernel_rfl) rfl ?_
 intro W0 w0 ρ0 hE
 conv=>whnf
 (repeat(first|(refine g_c (by assumption) ?_;conv=>whnf)));(first|exact Recast.refl _|exact Frz.recast (Recast.refl _) rfl|(refine Frz.one rfl rfl ?_;skip)|(refine Frz.tup ?_;skip))
theorem v_Bisect1 (t m:Me) (mk pa:List Int) (k:CallOK Tryz.prog 43 [meA t,ivec .i64 mk] [] (.tup [meA m,ivec .i64 pa,iv 0]) [] []):
  CallOK Tryz.prog 42 ([]++([meA t]++[ptrA [ivec .i64 mk]])) [] (.tup [meA m,ivec .i64 pa,iv 0]) [] []:=by
 refine callV (Z:=[2]) tabOK mixedOK Tryz.func42 rfl (by kernel_rfl) rfl rfl (by kernel_rfl) rfl ?_
 intro W0 w0 ρ0 hE
 conv=>whnf
 (repeat(first|(refine g_c (by assumption) ?_;conv=>whnf)|(refine g_o (op_loadA rfl (ev_ok rfl) (tgt rfl) rfl (Nat.succ_ne_zero _) rfl) ?_;conv=>whnf)));(first|exact Recast.refl _|exact Frz.recast (Recast.refl _) rfl|(refine Frz.one rfl rfl ?_;skip)|(refine Frz.tup ?_;skip))
theorem v_Bisect (c:List Lv) (m:Me) (mk pa:List Int) (hc:c≠[]) (hl:c.length≤64) (hf:∀i,i<c.length→(lvG c i).m.Fit∧(lvG c i).pa.length<1099511627776) (k:CallOK Tryz.prog 43 [meA (lvG c (c.length - 1)).m,ivec .i64 mk] [] (.tup [meA m,ivec .i64 pa,iv 0]) [] []):
  CallOK Tryz.prog 17 [lvs c,ivec .i64 mk] [] (.tup [lvs (c++[⟨m,pa⟩]),iv 0]) [] []:=by
 have k1:=v_moreB c 42 [ivec .i64 mk] m pa hc hl hf (v_Bisect1 _ m mk pa k)
 refine callV (Z:=[3]) tabOK mixedOK Tryz.func17 rfl (by kernel_rfl) rfl rfl (by kernel_rfl) rfl ?_
 intro W0 w0 ρ0 hE
 conv=>whnf
 (repeat(first|(refine g_c (by assumption) ?_;conv=>whnf)|(refine g_o (op_makeFunc rfl rfl rfl) ?_;conv=>whnf)));(first|exact Recast.refl _|exact Frz.recast (Recast.refl _) rfl|(refine Frz.one rfl rfl ?_;skip)|(refine Frz.tup ?_;skip))
end Go.Proofs.YthaeohlijigplaaGreat
