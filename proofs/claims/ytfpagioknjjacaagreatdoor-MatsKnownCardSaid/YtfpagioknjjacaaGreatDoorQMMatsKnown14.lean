/- The texts Lc. -/
import Derived.Test.YtfpagioknjjacaaGreatDoorQMMatsKnown13
namespace Go.Sx
set_option linter.unusedSimpArgs false
set_option linter.unusedVariables false
theorem SWx_thenM {E:Env} {c:Code} {K:Post'} {fr fr1:List (Nat×SV)} {hp hp1:List (Nat×Blk)} (h:∀K':Post',K' .normal fr1 hp1→SWx E c K' fr hp) (hk:K .normal fr1 hp1):SWx E c K fr hp:=h K hk
end Go.Sx
namespace Go.Proofs.YtfpagioknjjacaaGreatDoor
open Go.Sx
set_option linter.unusedSimpArgs false
set_option linter.unusedVariables false
set_option maxRecDepth 100000
set_option maxHeartbeats 4000000
abbrev mS (r c K:Nat):SV:=.agg [iv r,iv c,.slc K 5 0 (r*c)]
theorem m_MakeN1 {r c:Nat} (hr:r≤2048) (hc:c≤2048) (F:Nat→Nat→Rat) (g:FuncId) (p:Pred)
  (hf:∀i k,i<r→k<c→CallOK Tryz.prog g ([]++([iv (i:Nat),iv (k:Nat)]++[.atom p])) [] (.frac (F i k)) [] []) (K:Nat):
  CallOK Tryz.prog 92 [iv r,iv c,.clo g [] [.atom p]] [] (.tup [mS r c K,iv 0]) [(K,fblk (mk r c F))] []:=by
 have k1:=m_sides r c
 rw[sides_of (by omega)]at k1
 have hz:(mk r c F).length=r*c:=mk_len ..
 have hrc:r*c≤2048*2048:=Nat.mul_le_mul hr hc
 have t1:IntKind.i64.wrap ((r:Int)*(c:Int))=((r*c:Nat):Int):=by rw[←Int.natCast_mul,wrap_i64 (by omega) (by omega)]
 refine callK (Z:=[]) tabOK mixedOK Tryz.func92 rfl (by kernel_rfl) (args:=[iv r,iv c,.clo g [] [.atom p]]) (fk:=[]) (c:=.tup [mS r c 25,iv 0]) (new:=[(25,fblk (mk r c F))]) (upd:=[]) (ShapeOK.of rfl rfl rfl rfl rfl rfl rfl rfl rfl rfl rfl) rfl (fun _=>K) NamesOK.one ?_
 intro W0 w0 ρ0 hE
 conv=>whnf
 (repeat((first|refine step_w2 rfl rfl ?_|refine step_oA (by first|omega|decide|(simp only[tl0,dlen,List.length_replicate,List.length_set,List.length_map,List.length_zipWith,List.length_take,List.length_append,List.length_cons,List.length_nil];omega)) ?_|refine g_c (by assumption) ?_|rw[bne_self_eq_false]|refine⟨_,op_eqNilF rfl (ev_ok rfl) (ev_ok rfl) Tryz.underlying137, ?_⟩|rw[t1]|rw[Int.toNat_natCast]);conv=>whnf))
 refine SW_loopN hE (fun k=>k) [0,1,2,6,9,30,31] [6,9,25] (fun m fr hp=>∃i:Nat,m=r - i∧i≤r∧fr=[(0,iv r),(1,iv c),(2,.clo g [] [.atom p]),(6,.ptr 6 0 0 0),(9,.ptr 9 0 0 0),(30,iv r),(31,iv (i:Nat))]∧
  hp=[(6,zM),(9,bM r c 25),(25,fblk ((mk r c F).take (i*c)++List.replicate (r*c - i*c) 0))]) r ?_ ?_ ?_
 ·kernel_rfl
 ·exact⟨0,rfl,Nat.zero_le _,rfl,by rw[Nat.zero_mul,List.take_zero];rfl⟩
 rintro m _ _ ⟨i,rfl,hi,rfl,rfl⟩
 conv=>whnf
 by_cases hlt:i<r
 ·have t2:=dlt hlt
  have t3:=winc (i:=i) (by omega)
  have hic:(i+1)*c≤r*c:=Nat.mul_le_mul_right c hlt
  rw[Nat.succ_mul]at hic
  have hlen:=fill_len (d:=(0:Rat)) (show i*c≤r*c by omega) hz
  have o1:=m_rowM (a:=(mk r c F).take (i*c)++List.replicate (r*c - i*c) 0) ⟨hr,hc,hlen⟩ hlt 25
  (repeat(first|(refine step_w1 rfl rfl ?_;conv=>whnf)|(refine g_c1 (by assumption) rfl ?_;conv=>whnf)|(rw[t2];conv=>whnf)))
  refine SW_loopN hE (fun k=>k) [0,1,2,6,9,10,11,30,31,37,38] [6,9,25] (fun m fr hp=>∃k:Nat,m=c - k∧k≤c∧fr=[(0,iv r),(1,iv c),(2,.clo g [] [.atom p]),(6,.ptr 6 0 0 0),(9,.ptr 9 0 0 0),(10,iv (i:Nat)),(11,.slc 25 5 (i*c) c),(30,iv r),(31,iv (i:Nat)),(37,iv c),(38,iv (k:Nat))]∧
   hp=[(6,zM),(9,bM r c 25),(25,fblk ((mk r c F).take (i*c+k)++List.replicate (r*c - (i*c+k)) 0))]) c ?_ ?_ ?_
  ·kernel_rfl
  ·exact⟨0,rfl,Nat.zero_le _,rfl,rfl⟩
  rintro m _ _ ⟨k,rfl,hk,rfl,rfl⟩
  conv=>whnf
  by_cases hlk:k<c
  ·have t4:=dlt hlk
   have t5:=winc (i:=k) (by omega)
   have hlen:=fill_len (d:=(0:Rat)) (show i*c+k≤r*c by omega) hz
   have o2:=hf i k hlt hlk
   rw[←mk_el (f:=F) hlt hlk]at o2
   (repeat((first|refine step_w1 rfl rfl ?_|refine step_oL (by first|omega|decide|(simp only[tl0,dlen,List.length_replicate,List.length_set,List.length_map,List.length_zipWith,List.length_take,List.length_append,List.length_cons,List.length_nil];omega)) ?_|refine step_oA (by first|omega|decide|(simp only[tl0,dlen,List.length_replicate,List.length_set,List.length_map,List.length_zipWith,List.length_take,List.length_append,List.length_cons,List.length_nil];omega)) ?_|refine g_c (by assumption) ?_|rw[t4]|rw[t5]|rw[Int.toNat_natCast]);conv=>whnf))
   refine⟨c - (k+1),fun k=>k,[0,1,2,6,9,10,11,30,31,37,38],[6,9,25],by omega,by kernel_rfl,k+1,rfl,hlk,rfl, ?_⟩
   rw[show i*c+(k+1)=i*c+k+1 from rfl,fblk,←fill_set (e:=0) (show i*c+k<r*c by omega) hz]
   rfl
  ·have t4:=dge hlk
   obtain rfl:k=c:=by omega
   (repeat(first|(refine step_w2 rfl rfl ?_;conv=>whnf)|(rw[t4];conv=>whnf)|(rw[t3];conv=>whnf)))
   refine⟨r - (i+1),fun k=>k,[0,1,2,6,9,30,31],[6,9,25],by omega,by kernel_rfl,i+1,rfl,hlt,rfl, ?_⟩
   rw[Nat.succ_mul]
   rfl
 ·have t2:=dge hlt
  obtain rfl:i=r:=by omega
  rw[fill_all hz]
  (repeat(first|(refine step_w2 rfl rfl ?_;conv=>whnf)|(rw[t2];conv=>whnf)))
  exact⟨Recast.refl _,(fun k b hm=>by simp only[List.mem_singleton,Prod.mk.injEq]at hm;obtain⟨rfl,rfl⟩:=hm;rfl),(fun _ _ h=>by cases h)⟩
theorem m_MakeN3 {r c:Nat} (hr:r≤2048) (hc:c≤2048) (F:Nat→Nat→Rat) (g:FuncId) (p q s:Pred)
  (hf:∀i k,i<r→k<c→CallOK Tryz.prog g ([]++([iv (i:Nat),iv (k:Nat)]++[.atom p,.atom q,.atom s])) [] (.frac (F i k)) [] []) (K:Nat):
  CallOK Tryz.prog 92 [iv r,iv c,.clo g [] [.atom p,.atom q,.atom s]] [] (.tup [mS r c K,iv 0]) [(K,fblk (mk r c F))] []:=by
 have k1:=m_sides r c
 rw[sides_of (by omega)]at k1
 have hz:(mk r c F).length=r*c:=mk_len ..
 have hrc:r*c≤2048*2048:=Nat.mul_le_mul hr hc
 have t1:IntKind.i64.wrap ((r:Int)*(c:Int))=((r*c:Nat):Int):=by rw[←Int.natCast_mul,wrap_i64 (by omega) (by omega)]
 refine callK (Z:=[]) tabOK mixedOK Tryz.func92 rfl (by kernel_rfl) (args:=[iv r,iv c,.clo g [] [.atom p,.atom q,.atom s]]) (fk:=[]) (c:=.tup [mS r c 25,iv 0]) (new:=[(25,fblk (mk r c F))]) (upd:=[]) (ShapeOK.of rfl rfl rfl rfl rfl rfl rfl rfl rfl rfl rfl) rfl (fun _=>K) NamesOK.one ?_
 intro W0 w0 ρ0 hE
 conv=>whnf
 (repeat((first|refine step_w2 rfl rfl ?_|refine step_oA (by first|omega|decide|(simp only[tl0,dlen,List.length_replicate,List.length_set,List.length_map,List.length_zipWith,List.length_take,List.length_append,List.length_cons,List.length_nil];omega)) ?_|refine g_c (by assumption) ?_|rw[bne_self_eq_false]|refine⟨_,op_eqNilF rfl (ev_ok rfl) (ev_ok rfl) Tryz.underlying137, ?_⟩|rw[t1]|rw[Int.toNat_natCast]);conv=>whnf))
 refine SW_loopN hE (fun k=>k) [0,1,2,6,9,30,31] [6,9,25] (fun m fr hp=>∃i:Nat,m=r - i∧i≤r∧fr=[(0,iv r),(1,iv c),(2,.clo g [] [.atom p,.atom q,.atom s]),(6,.ptr 6 0 0 0),(9,.ptr 9 0 0 0),(30,iv r),(31,iv (i:Nat))]∧
  hp=[(6,zM),(9,bM r c 25),(25,fblk ((mk r c F).take (i*c)++List.replicate (r*c - i*c) 0))]) r ?_ ?_ ?_
 ·kernel_rfl
 ·exact⟨0,rfl,Nat.zero_le _,rfl,by rw[Nat.zero_mul,List.take_zero];rfl⟩
 rintro m _ _ ⟨i,rfl,hi,rfl,rfl⟩
 conv=>whnf
 by_cases hlt:i<r
 ·have t2:=dlt hlt
  have t3:=winc (i:=i) (by omega)
  have hic:(i+1)*c≤r*c:=Nat.mul_le_mul_right c hlt
  rw[Nat.succ_mul]at hic
  have hlen:=fill_len (d:=(0:Rat)) (show i*c≤r*c by omega) hz
  have o1:=m_rowM (a:=(mk r c F).take (i*c)++List.replicate (r*c - i*c) 0) ⟨hr,hc,hlen⟩ hlt 25
  (repeat(first|(refine step_w1 rfl rfl ?_;conv=>whnf)|(refine g_c1 (by assumption) rfl ?_;conv=>whnf)|(rw[t2];conv=>whnf)))
  refine SW_loopN hE (fun k=>k) [0,1,2,6,9,10,11,30,31,37,38] [6,9,25] (fun m fr hp=>∃k:Nat,m=c - k∧k≤c∧fr=[(0,iv r),(1,iv c),(2,.clo g [] [.atom p,.atom q,.atom s]),(6,.ptr 6 0 0 0),(9,.ptr 9 0 0 0),(10,iv (i:Nat)),(11,.slc 25 5 (i*c) c),(30,iv r),(31,iv (i:Nat)),(37,iv c),(38,iv (k:Nat))]∧
   hp=[(6,zM),(9,bM r c 25),(25,fblk ((mk r c F).take (i*c+k)++List.replicate (r*c - (i*c+k)) 0))]) c ?_ ?_ ?_
  ·kernel_rfl
  ·exact⟨0,rfl,Nat.zero_le _,rfl,rfl⟩
  rintro m _ _ ⟨k,rfl,hk,rfl,rfl⟩
  conv=>whnf
  by_cases hlk:k<c
  ·have t4:=dlt hlk
   have t5:=winc (i:=k) (by omega)
   have hlen:=fill_len (d:=(0:Rat)) (show i*c+k≤r*c by omega) hz
   have o2:=hf i k hlt hlk
   rw[←mk_el (f:=F) hlt hlk]at o2
   (repeat((first|refine step_w1 rfl rfl ?_|refine step_oL (by first|omega|decide|(simp only[tl0,dlen,List.length_replicate,List.length_set,List.length_map,List.length_zipWith,List.length_take,List.length_append,List.length_cons,List.length_nil];omega)) ?_|refine step_oA (by first|omega|decide|(simp only[tl0,dlen,List.length_replicate,List.length_set,List.length_map,List.length_zipWith,List.length_take,List.length_append,List.length_cons,List.length_nil];omega)) ?_|refine g_c (by assumption) ?_|rw[t4]|rw[t5]|rw[Int.toNat_natCast]);conv=>whnf))
   refine⟨c - (k+1),fun k=>k,[0,1,2,6,9,10,11,30,31,37,38],[6,9,25],by omega,by kernel_rfl,k+1,rfl,hlk,rfl, ?_⟩
   rw[show i*c+(k+1)=i*c+k+1 from rfl,fblk,←fill_set (e:=0) (show i*c+k<r*c by omega) hz]
   rfl
  ·have t4:=dge hlk
   obtain rfl:k=c:=by omega
   (repeat(first|(refine step_w2 rfl rfl ?_;conv=>whnf)|(rw[t4];conv=>whnf)|(rw[t3];conv=>whnf)))
   refine⟨r - (i+1),fun k=>k,[0,1,2,6,9,30,31],[6,9,25],by omega,by kernel_rfl,i+1,rfl,hlt,rfl, ?_⟩
   rw[Nat.succ_mul]
   rfl
 ·have t2:=dge hlt
  obtain rfl:i=r:=by omega
  rw[fill_all hz]
  (repeat(first|(refine step_w2 rfl rfl ?_;conv=>whnf)|(rw[t2];conv=>whnf)))
  exact⟨Recast.refl _,(fun k b hm=>by simp only[List.mem_singleton,Prod.mk.injEq]at hm;obtain⟨rfl,rfl⟩:=hm;rfl),(fun _ _ h=>by cases h)⟩
theorem m_TurnM {r c:Nat} {a:List Rat} (ha:OKM r c a) (K:Nat):CallOK Tryz.prog 16 [mA r c a] [] (.tup [mS c r K,iv 0]) [(K,fblk (mturn r c a))] []:=by
 have k0:=m_Check0 ha
 have k1:=m_MakeN1 ha.c ha.r _ 101 (ptrP (mC r c a)) (fun i k hi hk=>m_Turn1 ha i k hi hk) 1001
 refine callK (Z:=[1]) tabOK mixedOK Tryz.func16 rfl (by kernel_rfl) (args:=[mA r c a]) (fk:=[]) (c:=.tup [mS c r 1001,iv 0]) (new:=[(1001,fblk (mturn r c a))]) (upd:=[]) (ShapeOK.of rfl rfl rfl rfl rfl rfl rfl rfl rfl rfl rfl) rfl (fun _=>K) NamesOK.one ?_
 intro W0 w0 ρ0 hE
 conv=>whnf
 (repeat((first|refine step_w2 rfl rfl ?_|refine g_c (by assumption) ?_|refine g_cn (by assumption) rfl ?_|rw[bne_self_eq_false]|refine g_o (op_loadA rfl (ev_ok rfl) (tgt rfl) rfl (Nat.succ_ne_zero _) rfl) ?_|refine g_o (op_fieldA rfl (ev_ok rfl) (tgt rfl) rfl rfl (Nat.succ_ne_zero _) rfl) ?_|refine g_o (op_makeFunc rfl rfl rfl) ?_);conv=>whnf))
 exact⟨Recast.refl _,(fun k b hm=>by simp only[List.mem_singleton,Prod.mk.injEq]at hm;obtain⟨rfl,rfl⟩:=hm;rfl),(fun _ _ h=>by cases h)⟩
theorem m_eachM (F:Rat→Rat→Rat) (g:FuncId) {r c:Nat} {a b:List Rat} (ha:OKM r c a) (hb:OKM r c b)
  (hf:∀i k,i<r→k<c→CallOK Tryz.prog g ([]++([.frac (el a c i k),.frac (el b c i k)]++[])) [] (.frac (F (el a c i k) (el b c i k))) [] []) (K:Nat):
  CallOK Tryz.prog 103 [mA r c a,mA r c b,.clo g [] []] [] (.tup [mS r c K,iv 0]) [(K,fblk (List.zipWith F a b))] []:=by
 have k1:=m_all2 ha hb
 have kc:∀i k,i<r→k<c→CallOK Tryz.prog 219 ([]++([iv (i:Nat),iv (k:Nat)]++[ptrA [.clo g [] []],ptrA (mC r c a),ptrA (mC r c b)])) [] (.frac (F (el a c i k) (el b c i k))) [] []:=by
  intro i k hi hk
  have o1:=m_at ha hi hk
  have o2:=m_at hb hi hk
  have o3:=hf i k hi hk
  refine callV (Z:=[]) tabOK mixedOK Tryz.func219 rfl (by kernel_rfl) rfl rfl (by kernel_rfl) rfl ?_
  intro W0 w0 ρ0 hE
  conv=>whnf
  (repeat(first|(refine step_i (by kernel_rfl) ?_;conv=>whnf)|(refine g_c (by assumption) ?_;conv=>whnf)|(refine g_o (op_loadA rfl (ev_ok rfl) (tgt rfl) rfl (Nat.succ_ne_zero _) rfl) ?_;conv=>whnf)));(first|exact Recast.refl _|exact Frz.recast (Recast.refl _) rfl|(refine Frz.one rfl rfl ?_;skip)|(refine Frz.tup ?_;skip))
 have k2:=m_MakeN3 ha.r ha.c _ 219 (ptrP [.clo g [] []]) (ptrP (mC r c a)) (ptrP (mC r c b)) kc 1001
 rw[zip_mk ha.n hb.n]at k2
 refine callK (Z:=[3,4,5,11]) tabOK mixedOK Tryz.func103 rfl (by kernel_rfl) (args:=[mA r c a,mA r c b,.clo g [] []]) (fk:=[]) (c:=.tup [mS r c 1001,iv 0]) (new:=[(1001,fblk (List.zipWith F a b))]) (upd:=[]) (ShapeOK.of rfl rfl rfl rfl rfl rfl rfl rfl rfl rfl rfl) rfl (fun _=>K) NamesOK.one ?_
 intro W0 w0 ρ0 hE
 conv=>whnf
 (repeat((first|refine step_w1 rfl rfl ?_|refine step_w2 rfl rfl ?_|refine g_c (by assumption) ?_|refine g_cn (by assumption) rfl ?_|refine g_o (op_pickF rfl (ev_ok rfl) (ev_ok rfl)) ?_|rw[bne_self_eq_false]|refine g_o (op_loadA rfl (ev_ok rfl) (tgt rfl) rfl (Nat.succ_ne_zero _) rfl) ?_|refine g_o (op_fieldA rfl (ev_ok rfl) (tgt rfl) rfl rfl (Nat.succ_ne_zero _) rfl) ?_|refine g_o (op_makeFunc rfl rfl rfl) ?_);conv=>whnf))
 exact⟨Recast.refl _,(fun k b hm=>by simp only[List.mem_singleton,Prod.mk.injEq]at hm;obtain⟨rfl,rfl⟩:=hm;rfl),(fun _ _ h=>by cases h)⟩
theorem m_AddM {r c A B:Nat} {a b:List Rat} (ha:OKM r c a) (hb:OKM r c b) (sa:Sm A a) (sb:Sm B b) (h:A+B≤1073741824) (K:Nat):CallOK Tryz.prog 17 [mA r c a,mA r c b] [] (.tup [mS r c K,iv 0]) [(K,fblk (vadd a b))] []:=by
 have k1:=m_eachM (·+·) 80 ha hb (fun i k hi hk=>f_Add _ _ (Nat.le_trans (el_add sa sb ha hb hi hk) h)) 1001
 refine callK (Z:=[]) tabOK mixedOK Tryz.func17 rfl (by kernel_rfl) (args:=[mA r c a,mA r c b]) (fk:=[]) (c:=.tup [mS r c 1001,iv 0]) (new:=[(1001,fblk (vadd a b))]) (upd:=[]) (ShapeOK.of rfl rfl rfl rfl rfl rfl rfl rfl rfl rfl rfl) rfl (fun _=>K) NamesOK.one ?_
 intro W0 w0 ρ0 hE
 conv=>whnf
 (repeat(first|(refine g_cn (by assumption) rfl ?_;conv=>whnf)))
 exact⟨Recast.refl _,(fun k b hm=>by simp only[List.mem_singleton,Prod.mk.injEq]at hm;obtain⟨rfl,rfl⟩:=hm;rfl),(fun _ _ h=>by cases h)⟩
theorem m_lineM (F:Nat→Rat) (g:FuncId) (p q:Pred) {r c:Nat} {a:List Rat} (ha:OKM r c a) {i n many:Nat} (hi:i<n) (hm:many≤2048) (hf:∀k,k<many→CallOK Tryz.prog g ([]++([iv (k:Nat)]++[.atom p,.atom q])) [] (.frac (F k)) [] []) (K:Nat):
  CallOK Tryz.prog 106 [mA r c a,iv i,iv n,iv many,.clo g [] [.atom p,.atom q]] [] (.tup [.slc K 5 0 many,iv 0]) [(K,fblk ((List.range many).map F))] []:=by
 have k0:=m_Check0 ha
 have k1:=m_has i n
 rw[decide_eq_true (show(0:Int)≤(i:Int)∧(i:Int)<(n:Int) by omega)]at k1
 have hz:((List.range many).map F).length=many:=by simp
 refine callK (Z:=[5]) tabOK mixedOK Tryz.func106 rfl (by kernel_rfl) (args:=[mA r c a,iv i,iv n,iv many,.clo g [] [.atom p,.atom q]]) (fk:=[]) (c:=.tup [.slc 25 5 0 many,iv 0]) (new:=[(25,fblk ((List.range many).map F))]) (upd:=[]) (ShapeOK.of rfl rfl rfl rfl rfl rfl rfl rfl rfl rfl rfl) rfl (fun _=>K) NamesOK.one ?_
 intro W0 w0 ρ0 hE
 conv=>whnf
 (repeat((first|refine step_w2 rfl rfl ?_|refine step_oA (by first|omega|decide|(simp only[tl0,dlen,List.length_replicate,List.length_set,List.length_map,List.length_zipWith,List.length_take,List.length_append,List.length_cons,List.length_nil];omega)) ?_|refine g_c (by assumption) ?_|rw[bne_self_eq_false]|refine g_o (op_loadA rfl (ev_ok rfl) (tgt rfl) rfl (Nat.succ_ne_zero _) rfl) ?_|rw[Int.toNat_natCast]);conv=>whnf))
 refine SW_loopN hE (fun k=>k) [4,13,26,27] [25] (fun m fr hp=>∃j:Nat,m=many - j∧j≤many∧fr=[(4,.clo g [] [.atom p,.atom q]),(13,.slc 25 5 0 many),(26,iv many),(27,iv (j:Nat))]∧hp=[(25,fblk (((List.range many).map F).take j++List.replicate (many - j) 0))]) many ?_ ?_ ?_
 ·kernel_rfl
 ·exact⟨0,rfl,Nat.zero_le _,rfl,rfl⟩
 rintro m _ _ ⟨j,rfl,hj,rfl,rfl⟩
 have hlen:=fill_len (d:=(0:Rat)) hj hz
 conv=>whnf
 by_cases hlt:j<many
 ·have t1:=dlt hlt
  have t2:=winc (i:=j) (by omega)
  have o1:=hf j hlt
  rw[show F j=((List.range many).map F).getD j 0 from by simp[List.getD_eq_getElem?_getD,hlt]]at o1
  (repeat((first|refine step_w1 rfl rfl ?_|refine step_oL (by first|omega|decide|(simp only[tl0,dlen,List.length_replicate,List.length_set,List.length_map,List.length_zipWith,List.length_take,List.length_append,List.length_cons,List.length_nil];omega)) ?_|refine step_oA (by first|omega|decide|(simp only[tl0,dlen,List.length_replicate,List.length_set,List.length_map,List.length_zipWith,List.length_take,List.length_append,List.length_cons,List.length_nil];omega)) ?_|refine g_c (by assumption) ?_|rw[t1]|rw[t2]|rw[Int.toNat_natCast]|rw[Nat.zero_add]);conv=>whnf))
  refine⟨many - (j+1),fun k=>k,[4,13,26,27],[25],by omega,by kernel_rfl,j+1,rfl,hlt,rfl, ?_⟩
  rw[fblk,←fill_set (e:=0) hlt hz]
  rfl
 ·have t1:=dge hlt
  have hI:j=many:=by omega
  subst hI
  rw[fill_all hz]
  (repeat(first|(refine step_w2 rfl rfl ?_;conv=>whnf)|(rw[t1];conv=>whnf)))
  exact⟨Recast.refl _,(fun k b hm=>by simp only[List.mem_singleton,Prod.mk.injEq]at hm;obtain⟨rfl,rfl⟩:=hm;rfl),(fun _ _ h=>by cases h)⟩
theorem m_RowN {r c:Nat} {a:List Rat} (ha:OKM r c a) {i:Nat} (hi:i<r) (K:Nat):CallOK Tryz.prog 19 [mA r c a,iv i] [] (.tup [.slc K 5 0 c,iv 0]) [(K,fblk (rowF r c a i))] []:=by
 have k0:=m_lineM (fun p=>el a c i p) 107 (ptrP (mC r c a)) (ptrP [iv i]) ha hi ha.c (fun p hp=>by
  have k1:=m_at ha hi hp
  refine callV (Z:=[]) tabOK mixedOK Tryz.func107 rfl (by kernel_rfl) rfl rfl (by kernel_rfl) rfl ?_
  intro W0 w0 ρ0 hE
  conv=>whnf
  (repeat(first|(refine g_c (by assumption) ?_;conv=>whnf)|(refine g_o (op_loadA rfl (ev_ok rfl) (tgt rfl) rfl (Nat.succ_ne_zero _) rfl) ?_;conv=>whnf)));(first|exact Recast.refl _|exact Frz.recast (Recast.refl _) rfl|(refine Frz.one rfl rfl ?_;skip)|(refine Frz.tup ?_;skip))) 1001
 refine callK (Z:=[2,3]) tabOK mixedOK Tryz.func19 rfl (by kernel_rfl) (args:=[mA r c a,iv i]) (fk:=[]) (c:=.tup [.slc 1001 5 0 c,iv 0]) (new:=[(1001,fblk (rowF r c a i))]) (upd:=[]) (ShapeOK.of rfl rfl rfl rfl rfl rfl rfl rfl rfl rfl rfl) rfl (fun _=>K) NamesOK.one ?_
 intro W0 w0 ρ0 hE
 conv=>whnf
 (repeat((first|refine g_cn (by assumption) rfl ?_|refine g_o (op_loadA rfl (ev_ok rfl) (tgt rfl) rfl (Nat.succ_ne_zero _) rfl) ?_|refine g_o (op_fieldA rfl (ev_ok rfl) (tgt rfl) rfl rfl (Nat.succ_ne_zero _) rfl) ?_|refine g_o (op_makeFunc rfl rfl rfl) ?_);conv=>whnf))
 exact⟨Recast.refl _,(fun k b hm=>by simp only[List.mem_singleton,Prod.mk.injEq]at hm;obtain⟨rfl,rfl⟩:=hm;rfl),(fun _ _ h=>by cases h)⟩
end Go.Proofs.YtfpagioknjjacaaGreatDoor
