/- The texts Kb, Kc, Kd, Ke, Kf, Ra, Km, Qa, Qb, Qc, Fb, Ai, Qd. -/
import Derived.Test.YtfjhnollamkdcaaGreatDoorQsA5
namespace Go.Sx
set_option linter.unusedSimpArgs false
set_option linter.unusedVariables false
section
variable {P:Program} {o:Oper} {ft:List (Nat×SV)} {fk:List (Nat×Blk)}
theorem op_slice3 {t e:TypeId} {x lo hi mx:Operand} {ti te:TI} {k s i n:Nat} {l h:Int} {kl kh km:IntKind} (ho:o.op= .slice t x (some lo) (some hi) (some mx)) (hx:EvOK ft x (.slc k s i n))
  (hlo:EvOK ft lo (.val (.int kl l))) (hhi:EvOK ft hi (.val (.int kh h))) (hmx:EvOK ft mx (.val (.int km h)))
  (ht:TOK P t ti) (hk:ti.kind= .slc e) (he:TOK P e te) (hs:te.size=s) (hh:0≤l∧l≤h∧h≤n):OpOK P o ft fk (.slc k s (i+l.toNat) (h - l).toNat) [] []:=
 ok_pure fun ρ a w hp=>by
  obtain⟨h0,hlh,hh⟩:=hh
  have hu:=ht.kind;rw[hk]at hu
  have key:∀(ad:Option Addr) (m cap:Nat),n=m→m≤cap→a.eval x= .slice ad m cap→
    (execOp a.eval o).run P w= .ok (.value (.slice (if h.toNat=l.toNat then ad else ad.map (·.add (l.toNat*s))) (h.toNat - l.toNat) (h.toNat - l.toNat))) w:=by
   intro ad m cap hnm hmc hv
   have hr:∀(z:Operand) (kd:IntKind) (bd:Nat),EvOK ft z (.val (.int kd h))→h.toNat≤bd→∀q,(Instr.sliceBound (a.eval z) bd q).run P w= .ok h.toNat w:=by
    intro z kd bd hz hbd q
    have:=of_has_val (hz ρ a hp.hft)
    have hb:0≤h∧h≤(bd:Int):=by omega
    simp[Instr.sliceBound,this,asIntOf,hb]
   have hl:∀q,(Instr.sliceBound (a.eval lo) h.toNat q).run P w= .ok l.toNat w:=by
    intro q
    have:=of_has_val (hlo ρ a hp.hft)
    have hb:0≤l∧l≤(h.toNat:Int):=by omega
    simp only[Instr.sliceBound,this,asIntOf,Sem.run_bind,Sem.run_pure,Result.andThen_ok,hb,and_self,if_true]
   have hbnds:(Instr.sliceBounds true m cap (some (a.eval lo)) (some (a.eval hi)) (some (a.eval mx))).run P w= .ok (l.toNat,h.toNat,h.toNat) w:=by
    unfold Instr.sliceBounds
    simp[hr mx km cap hmx (by omega),hr hi kh h.toNat hhi (Nat.le_refl _),hl]
   simp only[execOp,ho,Option.map_some,Instr.sliceAt,Sem.run_bind,run_underlying hu,Result.andThen_ok,Instr.slice,hv,hbnds,he.sizeOf,hs,Sem.run_pure]
  rcases has_slc (hx ρ a hp.hft)with⟨b,t',cap,h1,h2,h3,h4⟩|⟨rfl,ad,h4⟩
  ·refine⟨_,key _ n cap rfl h2 h4,slc_has ?_⟩
   by_cases hc:h.toNat=l.toNat
   ·right
    have:h.toNat - l.toNat=0:=by omega
    refine⟨by omega,some ⟨b,i*s,none⟩, ?_⟩
    rw[if_pos hc,this]
   ·left
    refine⟨b,t',h.toNat - l.toNat,h1,by omega, ?_, ?_⟩
    ·exact Nat.le_trans (Nat.mul_le_mul_right s (show i+l.toNat+(h.toNat - l.toNat)≤i+cap by omega)) h3
    ·rw[if_neg hc]
     have hadd:(⟨b,i*s,none⟩:Addr).add (l.toNat*s)=⟨b,(i+l.toNat)*s,none⟩:=by
      unfold Addr.add
      rw[Nat.add_mul]
      split
      ·rename_i h0;simp[h0]
      ·rfl
     rw[Option.map_some,hadd,show(h - l).toNat=h.toNat - l.toNat from by omega]
  ·refine⟨_,key ad 0 0 rfl (Nat.le_refl _) h4,slc_has (.inr ⟨by omega,ad, ?_⟩)⟩
   have h1:l.toNat=0:=by omega
   have h2:h.toNat=0:=by omega
   simp[h1,h2]
theorem op_eqNilF {f:FuncId} {a b:List SV} {t t2:TypeId} {x y:Operand} {p r:Array TypeId} {v:Bool} (ho:o.op= .binOp .eql t x y t2) (hx:EvOK ft x (.clo f a b)) (hy:EvOK ft y (.val .nilFunc)) (hu:P.underlying t=some (.func p r v)):OpOK P o ft fk (.val (.bool false)) [] []:=
 ok_pure fun ρ ac w hp=>by
  have h1:=hx ρ ac hp.hft
  simp only[Has,HasC]at h1
  obtain⟨_,⟨fz,cz,_,_,rfl⟩,e1⟩:=h1
  have e2:=of_has_val (hy ρ ac hp.hft)
  simp only[mkV,SV.isOne,if_true,List.headD_cons]at e1
  have hq:∀d vs ws,(Op.equalIn (d+1) t (.func (.func f) vs ws) .nilFunc).run P w= .ok false w:=fun d vs ws=>by simp[Op.equalIn,run_underlying hu]
  have hq':∀vs ws,(Op.equal t (.func (.func f) vs ws) .nilFunc).run P w= .ok false w:=fun vs ws=>hq 9999 vs ws
  refine⟨_, ?_,has_val rfl⟩
  simp[execOp,ho,e1,e2,eqGuard,binOp,hq']
end
end Go.Sx
namespace Go.Proofs.YtfjhnollamkdcaaGreatDoor
open Go.Sx
set_option linter.unusedSimpArgs false
set_option linter.unusedVariables false
set_option maxRecDepth 100000
set_option maxHeartbeats 4000000
abbrev zM:Blk:=⟨30,true,.one [iv 0,iv 0,.val (.slice none 0 0)]⟩
abbrev bM (r c K:Nat):Blk:=⟨30,true,.one [iv r,iv c,.slc K 5 0 (r*c)]⟩
abbrev fblk (l:List Rat):Blk:=⟨49,true,.fracs l⟩
theorem m_rowM {r c:Nat} {a:List Rat} (h:OKM r c a) {i:Nat} (hi:i<r) (K:Nat):CallOK Tryz.prog 123 [.agg [iv r,iv c,.slc K 5 0 (r*c)],iv i] [(K,fblk a)] (.slc K 5 (i*c) c) [] []:=by
 obtain⟨t1,t2,t3⟩:=row_w (i:=i) (c:=c) (by have:=h.r;omega) h.c
 have hlt:=Nat.mul_le_mul_right c (show i+1≤r from hi)
 have hle:i*c≤(i+1)*c:=Nat.mul_le_mul_right c (by omega)
 have e1:(((i+1)*c:Nat) - (i*c:Nat):Int).toNat=c:=by rw[Nat.succ_mul];omega
 refine CallOK.anyWr ?_
 refine callK (Z:=[]) tabOK mixedOK Tryz.func123 rfl (by kernel_rfl) (args:=[.agg [iv r,iv c,.slc 1001 5 0 (r*c)],iv i]) (fk:=[(1001,⟨49,false,.fracs a⟩)]) (c:=.slc 1001 5 (i*c) c) (new:=[]) (upd:=[]) (ShapeOK.of rfl rfl rfl rfl rfl rfl rfl rfl rfl rfl rfl) rfl (fun _=>K) (NamesOK.ro rfl) ?_
 intro W0 w0 ρ0 hE
 conv=>whnf
 (repeat((first|refine step_i (by kernel_rfl) ?_|refine g_o (op_slice3 rfl (ev_ok rfl) (ev_ok rfl) (ev_ok rfl) (ev_ok rfl) (tgt rfl) rfl (tgt rfl) rfl (by omega)) ?_|rw[t1]|rw[t3]|rw[t2]|rw[e1]|rw[Int.toNat_natCast]|rw[Nat.zero_add]);conv=>whnf))
 exact⟨Recast.refl _,(fun _ _ h=>by cases h),(fun _ _ h=>by cases h)⟩
theorem m_Make0 {r c:Nat} (hr:r≤2048) (hc:c≤2048) (F:Nat→Nat→Rat) (g:FuncId)
  (hf:∀i k,i<r→k<c→CallOK Tryz.prog g ([]++([iv (i:Nat),iv (k:Nat)]++[])) [] (.frac (F i k)) [] []):
  CallOK Tryz.prog 60 [iv r,iv c,.clo g [] []] [] (.tup [mA r c (mk r c F),iv 0]) [] []:=by
 have k1:=m_sides r c
 rw[sides_of (by omega)]at k1
 have hz:(mk r c F).length=r*c:=mk_len ..
 have hrc:r*c≤2048*2048:=Nat.mul_le_mul hr hc
 have t1:IntKind.i64.wrap ((r:Int)*(c:Int))=((r*c:Nat):Int):=by rw[←Int.natCast_mul,wrap_i64 (by omega) (by omega)]
 refine callF (Z:=[]) tabOK mixedOK Tryz.func60 rfl (by kernel_rfl) (by first|rfl|(simp[keylessL,keyless,keylessL_map, *];done)) (by first|rfl|(simp[keylessL,keyless,keylessL_map, *];done)) (by kernel_rfl) rfl ?_
 intro w0 ρ0 hE
 conv=>whnf
 (repeat((first|refine step_w2 rfl rfl ?_|refine step_oA (by first|omega|decide|(simp only[tl0,dlen,List.length_replicate,List.length_set,List.length_map,List.length_zipWith,List.length_take,List.length_append,List.length_cons,List.length_nil];omega)) ?_|refine g_c (by assumption) ?_|rw[bne_self_eq_false]|refine⟨_,op_eqNilF rfl (ev_ok rfl) (ev_ok rfl) Tryz.underlying118, ?_⟩|rw[t1]|rw[Int.toNat_natCast]);conv=>whnf))
 refine SW_loopN hE (fun k=>k) [0,1,2,6,9,30,31] [6,9,25] (fun m fr hp=>∃i:Nat,m=r - i∧i≤r∧fr=[(0,iv r),(1,iv c),(2,.clo g [] []),(6,.ptr 6 0 0 0),(9,.ptr 9 0 0 0),(30,iv r),(31,iv (i:Nat))]∧
  hp=[(6,zM),(9,bM r c 25),(25,fblk ((mk r c F).take (i*c)++List.replicate (r*c - i*c) 0))]) r ?_ ?_ ?_
 ·kernel_rfl
 ·exact⟨0,rfl,Nat.zero_le _,rfl,by rw[Nat.zero_mul,List.take_zero];rfl⟩
 rintro m _ _ ⟨i,rfl,hi,rfl,rfl⟩
 conv=>whnf
 by_cases hlt:i<r
 ·have t2:=dlt hlt
  have t3:=winc (i:=i) (by omega)
  have hic:(i+1)*c≤r*c:=Nat.mul_le_mul_right c hlt
  rw[Nat.succ_mul]at hic
  have hlen:=fill_len (d:=(0:Rat)) (show i*c≤r*c by omega) hz
  have o1:=m_rowM (a:=(mk r c F).take (i*c)++List.replicate (r*c - i*c) 0) ⟨hr,hc,hlen⟩ hlt 25
  (repeat(first|(refine step_w1 rfl rfl ?_;conv=>whnf)|(refine g_c1 (by assumption) rfl ?_;conv=>whnf)|(rw[t2];conv=>whnf)))
  refine SW_loopN hE (fun k=>k) [0,1,2,6,9,10,11,30,31,37,38] [6,9,25] (fun m fr hp=>∃k:Nat,m=c - k∧k≤c∧fr=[(0,iv r),(1,iv c),(2,.clo g [] []),(6,.ptr 6 0 0 0),(9,.ptr 9 0 0 0),(10,iv (i:Nat)),(11,.slc 25 5 (i*c) c),(30,iv r),(31,iv (i:Nat)),(37,iv c),(38,iv (k:Nat))]∧
   hp=[(6,zM),(9,bM r c 25),(25,fblk ((mk r c F).take (i*c+k)++List.replicate (r*c - (i*c+k)) 0))]) c ?_ ?_ ?_
  ·kernel_rfl
  ·exact⟨0,rfl,Nat.zero_le _,rfl,rfl⟩
  rintro m _ _ ⟨k,rfl,hk,rfl,rfl⟩
  conv=>whnf
  by_cases hlk:k<c
  ·have t4:=dlt hlk
   have t5:=winc (i:=k) (by omega)
   have hlen:=fill_len (d:=(0:Rat)) (show i*c+k≤r*c by omega) hz
   have o2:=hf i k hlt hlk
   rw[←mk_el (f:=F) hlt hlk]at o2
   (repeat((first|refine step_w1 rfl rfl ?_|refine step_oL (by first|omega|decide|(simp only[tl0,dlen,List.length_replicate,List.length_set,List.length_map,List.length_zipWith,List.length_take,List.length_append,List.length_cons,List.length_nil];omega)) ?_|refine step_oA (by first|omega|decide|(simp only[tl0,dlen,List.length_replicate,List.length_set,List.length_map,List.length_zipWith,List.length_take,List.length_append,List.length_cons,List.length_nil];omega)) ?_|refine g_c (by assumption) ?_|rw[t4]|rw[t5]|rw[Int.toNat_natCast]);conv=>whnf))
   refine⟨c - (k+1),fun k=>k,[0,1,2,6,9,10,11,30,31,37,38],[6,9,25],by omega,by kernel_rfl,k+1,rfl,hlk,rfl, ?_⟩
   rw[show i*c+(k+1)=i*c+k+1 from rfl,fblk,←fill_set (e:=0) (show i*c+k<r*c by omega) hz]
   rfl
  ·have t4:=dge hlk
   obtain rfl:k=c:=by omega
   (repeat(first|(refine step_w2 rfl rfl ?_;conv=>whnf)|(rw[t4];conv=>whnf)|(rw[t3];conv=>whnf)))
   refine⟨r - (i+1),fun k=>k,[0,1,2,6,9,30,31],[6,9,25],by omega,by kernel_rfl,i+1,rfl,hlt,rfl, ?_⟩
   rw[Nat.succ_mul]
   rfl
 ·have t2:=dge hlt
  obtain rfl:i=r:=by omega
  rw[fill_all hz]
  (repeat(first|(refine step_w2 rfl rfl ?_;conv=>whnf)|(rw[t2];conv=>whnf)))
  (first|exact Recast.refl _|exact Frz.recast (Recast.refl _) rfl|(refine Frz.one rfl rfl ?_;skip)|(refine Frz.tup ?_;(repeat(first|exact FrzC.keyless rfl|exact FrzL.nil|refine FrzL.cons ?_ ?_|(refine FrzC.fracs rfl ?_;(first|rfl|omega|(simp<;>fail)|(simp<;>omega)))|refine FrzC.agg ?_))))
theorem m_Make1 {r c:Nat} (hr:r≤2048) (hc:c≤2048) (F:Nat→Nat→Rat) (g:FuncId) (p:Pred)
  (hf:∀i k,i<r→k<c→CallOK Tryz.prog g ([]++([iv (i:Nat),iv (k:Nat)]++[.atom p])) [] (.frac (F i k)) [] []):
  CallOK Tryz.prog 60 [iv r,iv c,.clo g [] [.atom p]] [] (.tup [mA r c (mk r c F),iv 0]) [] []:=by
 have k1:=m_sides r c
 rw[sides_of (by omega)]at k1
 have hz:(mk r c F).length=r*c:=mk_len ..
 have hrc:r*c≤2048*2048:=Nat.mul_le_mul hr hc
 have t1:IntKind.i64.wrap ((r:Int)*(c:Int))=((r*c:Nat):Int):=by rw[←Int.natCast_mul,wrap_i64 (by omega) (by omega)]
 refine callF (Z:=[]) tabOK mixedOK Tryz.func60 rfl (by kernel_rfl) (by first|rfl|(simp[keylessL,keyless,keylessL_map, *];done)) (by first|rfl|(simp[keylessL,keyless,keylessL_map, *];done)) (by kernel_rfl) rfl ?_
 intro w0 ρ0 hE
 conv=>whnf
 (repeat((first|refine step_w2 rfl rfl ?_|refine step_oA (by first|omega|decide|(simp only[tl0,dlen,List.length_replicate,List.length_set,List.length_map,List.length_zipWith,List.length_take,List.length_append,List.length_cons,List.length_nil];omega)) ?_|refine g_c (by assumption) ?_|rw[bne_self_eq_false]|refine⟨_,op_eqNilF rfl (ev_ok rfl) (ev_ok rfl) Tryz.underlying118, ?_⟩|rw[t1]|rw[Int.toNat_natCast]);conv=>whnf))
 refine SW_loopN hE (fun k=>k) [0,1,2,6,9,30,31] [6,9,25] (fun m fr hp=>∃i:Nat,m=r - i∧i≤r∧fr=[(0,iv r),(1,iv c),(2,.clo g [] [.atom p]),(6,.ptr 6 0 0 0),(9,.ptr 9 0 0 0),(30,iv r),(31,iv (i:Nat))]∧
  hp=[(6,zM),(9,bM r c 25),(25,fblk ((mk r c F).take (i*c)++List.replicate (r*c - i*c) 0))]) r ?_ ?_ ?_
 ·kernel_rfl
 ·exact⟨0,rfl,Nat.zero_le _,rfl,by rw[Nat.zero_mul,List.take_zero];rfl⟩
 rintro m _ _ ⟨i,rfl,hi,rfl,rfl⟩
 conv=>whnf
 by_cases hlt:i<r
 ·have t2:=dlt hlt
  have t3:=winc (i:=i) (by omega)
  have hic:(i+1)*c≤r*c:=Nat.mul_le_mul_right c hlt
  rw[Nat.succ_mul]at hic
  have hlen:=fill_len (d:=(0:Rat)) (show i*c≤r*c by omega) hz
  have o1:=m_rowM (a:=(mk r c F).take (i*c)++List.replicate (r*c - i*c) 0) ⟨hr,hc,hlen⟩ hlt 25
  (repeat(first|(refine step_w1 rfl rfl ?_;conv=>whnf)|(refine g_c1 (by assumption) rfl ?_;conv=>whnf)|(rw[t2];conv=>whnf)))
  refine SW_loopN hE (fun k=>k) [0,1,2,6,9,10,11,30,31,37,38] [6,9,25] (fun m fr hp=>∃k:Nat,m=c - k∧k≤c∧fr=[(0,iv r),(1,iv c),(2,.clo g [] [.atom p]),(6,.ptr 6 0 0 0),(9,.ptr 9 0 0 0),(10,iv (i:Nat)),(11,.slc 25 5 (i*c) c),(30,iv r),(31,iv (i:Nat)),(37,iv c),(38,iv (k:Nat))]∧
   hp=[(6,zM),(9,bM r c 25),(25,fblk ((mk r c F).take (i*c+k)++List.replicate (r*c - (i*c+k)) 0))]) c ?_ ?_ ?_
  ·kernel_rfl
  ·exact⟨0,rfl,Nat.zero_le _,rfl,rfl⟩
  rintro m _ _ ⟨k,rfl,hk,rfl,rfl⟩
  conv=>whnf
  by_cases hlk:k<c
  ·have t4:=dlt hlk
   have t5:=winc (i:=k) (by omega)
   have hlen:=fill_len (d:=(0:Rat)) (show i*c+k≤r*c by omega) hz
   have o2:=hf i k hlt hlk
   rw[←mk_el (f:=F) hlt hlk]at o2
   (repeat((first|refine step_w1 rfl rfl ?_|refine step_oL (by first|omega|decide|(simp only[tl0,dlen,List.length_replicate,List.length_set,List.length_map,List.length_zipWith,List.length_take,List.length_append,List.length_cons,List.length_nil];omega)) ?_|refine step_oA (by first|omega|decide|(simp only[tl0,dlen,List.length_replicate,List.length_set,List.length_map,List.length_zipWith,List.length_take,List.length_append,List.length_cons,List.length_nil];omega)) ?_|refine g_c (by assumption) ?_|rw[t4]|rw[t5]|rw[Int.toNat_natCast]);conv=>whnf))
   refine⟨c - (k+1),fun k=>k,[0,1,2,6,9,10,11,30,31,37,38],[6,9,25],by omega,by kernel_rfl,k+1,rfl,hlk,rfl, ?_⟩
   rw[show i*c+(k+1)=i*c+k+1 from rfl,fblk,←fill_set (e:=0) (show i*c+k<r*c by omega) hz]
   rfl
  ·have t4:=dge hlk
   obtain rfl:k=c:=by omega
   (repeat(first|(refine step_w2 rfl rfl ?_;conv=>whnf)|(rw[t4];conv=>whnf)|(rw[t3];conv=>whnf)))
   refine⟨r - (i+1),fun k=>k,[0,1,2,6,9,30,31],[6,9,25],by omega,by kernel_rfl,i+1,rfl,hlt,rfl, ?_⟩
   rw[Nat.succ_mul]
   rfl
 ·have t2:=dge hlt
  obtain rfl:i=r:=by omega
  rw[fill_all hz]
  (repeat(first|(refine step_w2 rfl rfl ?_;conv=>whnf)|(rw[t2];conv=>whnf)))
  (first|exact Recast.refl _|exact Frz.recast (Recast.refl _) rfl|(refine Frz.one rfl rfl ?_;skip)|(refine Frz.tup ?_;(repeat(first|exact FrzC.keyless rfl|exact FrzL.nil|refine FrzL.cons ?_ ?_|(refine FrzC.fracs rfl ?_;(first|rfl|omega|(simp<;>fail)|(simp<;>omega)))|refine FrzC.agg ?_))))
end Go.Proofs.YtfjhnollamkdcaaGreatDoor
namespace Go.Proofs.YtfjhnollamkdcaaGreatDoor
open Go.Sx
set_option linter.unusedSimpArgs false
set_option linter.unusedVariables false
set_option maxRecDepth 100000
set_option maxHeartbeats 4000000
theorem delta_eq (i k:Nat):delta i k=if i=k then((1:Int):Rat)else 0:=by unfold delta;split<;>simp
theorem m_One1 (i k:Nat) (hi:i≤2048) (hk:k≤2048):CallOK Tryz.prog 118 ([]++([iv (i:Nat),iv (k:Nat)]++[])) [] (.frac (delta i k)) [] []:=by
 have k1:=c_fInt 1 (by decide) (by decide)
 rw[delta_eq]
 refine callV (Z:=[]) tabOK mixedOK Tryz.func118 rfl (by kernel_rfl) rfl rfl (by kernel_rfl) rfl ?_
 intro W0 w0 ρ0 hE
 conv=>whnf
 by_cases h:i=k
 ·have t1:((i:Int) != (k:Int))=false:=by rw[h];exact bne_self_eq_false _
  rw[if_pos h]
  (repeat(first|(refine step_w2 rfl rfl ?_;conv=>whnf)|(refine g_c (by assumption) ?_;conv=>whnf)|(rw[t1];conv=>whnf)));(first|exact Recast.refl _|exact Frz.recast (Recast.refl _) rfl|(refine Frz.one rfl rfl ?_;skip)|(refine Frz.tup ?_;skip))
 ·have t1:((i:Int) != (k:Int))=true:=bne_iff_ne.2 (by omega)
  rw[if_neg h]
  (repeat(first|(refine step_w1 rfl rfl ?_;conv=>whnf)|(rw[t1];conv=>whnf)));(first|exact Recast.refl _|exact Frz.recast (Recast.refl _) rfl|(refine Frz.one rfl rfl ?_;skip)|(refine Frz.tup ?_;skip))
theorem m_One (n:Nat) (hn:n≤2048):CallOK Tryz.prog 50 [iv n] [] (.tup [mA n n (mone n),iv 0]) [] []:=by
 have k1:=m_Make0 hn hn delta 118 (fun i k hi hk=>m_One1 i k (by omega) (by omega))
 refine callV (Z:=[]) tabOK mixedOK Tryz.func50 rfl (by kernel_rfl) rfl rfl (by kernel_rfl) rfl ?_
 intro W0 w0 ρ0 hE
 conv=>whnf
 (repeat(first|(refine g_c (by assumption) ?_;conv=>whnf)));(first|exact Recast.refl _|exact Frz.recast (Recast.refl _) rfl|(refine Frz.one rfl rfl ?_;skip)|(refine Frz.tup ?_;skip))
theorem m_Turn1 {r c:Nat} {a:List Rat} (ha:OKM r c a) (i k:Nat) (hi:i<c) (hk:k<r):CallOK Tryz.prog 108 ([]++([iv (i:Nat),iv (k:Nat)]++[ptrA (mC r c a)])) [] (.frac (el a c k i)) [] []:=by
 have k1:=m_at ha hk hi
 refine callV (Z:=[]) tabOK mixedOK Tryz.func108 rfl (by kernel_rfl) rfl rfl (by kernel_rfl) rfl ?_
 intro W0 w0 ρ0 hE
 conv=>whnf
 (repeat(first|(refine g_c (by assumption) ?_;conv=>whnf)|(refine g_o (op_loadA rfl (ev_ok rfl) (tgt rfl) rfl (Nat.succ_ne_zero _) rfl) ?_;conv=>whnf)));(first|exact Recast.refl _|exact Frz.recast (Recast.refl _) rfl|(refine Frz.one rfl rfl ?_;skip)|(refine Frz.tup ?_;skip))
theorem m_Turn {r c:Nat} {a:List Rat} (ha:OKM r c a):CallOK Tryz.prog 44 [mA r c a] [] (.tup [mA c r (mturn r c a),iv 0]) [] []:=by
 have k0:=m_Check0 ha
 have k1:=m_Make1 ha.c ha.r _ 108 (ptrP (mC r c a)) (fun i k hi hk=>m_Turn1 ha i k hi hk)
 refine callV (Z:=[1]) tabOK mixedOK Tryz.func44 rfl (by kernel_rfl) rfl rfl (by kernel_rfl) rfl ?_
 intro W0 w0 ρ0 hE
 conv=>whnf
 (repeat((first|refine step_w2 rfl rfl ?_|refine g_c (by assumption) ?_|rw[bne_self_eq_false]|refine g_o (op_loadA rfl (ev_ok rfl) (tgt rfl) rfl (Nat.succ_ne_zero _) rfl) ?_|refine g_o (op_fieldA rfl (ev_ok rfl) (tgt rfl) rfl rfl (Nat.succ_ne_zero _) rfl) ?_|refine g_o (op_makeFunc rfl rfl rfl) ?_);conv=>whnf));(first|exact Recast.refl _|exact Frz.recast (Recast.refl _) rfl|(refine Frz.one rfl rfl ?_;skip)|(refine Frz.tup ?_;skip))
end Go.Proofs.YtfjhnollamkdcaaGreatDoor
namespace Go.Proofs.YtfjhnollamkdcaaGreatDoor
open Go.Sx
set_option linter.unusedSimpArgs false
set_option linter.unusedVariables false
set_option maxRecDepth 100000
set_option maxHeartbeats 4000000
theorem row_dot {r c i:Nat} {a v:List Rat} (ha:a.length=r*c) (hv:v.length=c) (hi:i<r):vdot (rowL a c i) v=(mapply r c a v).getD i 0:=by
 rw[vdot_sum (rowL_len hi ha) hv,mapply_get hi]
 exact sum_congr c fun k hk=>by rw[rowL_get hk]
theorem Sm_row {a:List Rat} {r c i A:Nat} (sa:Sm A a) (ha:a.length=r*c) (hi:i<r):Sm A (rowL a c i):=by
 intro k hk
 rw[rowL_len hi ha]at hk
 rw[rowL_get hk];exact el_sm sa ha hi hk
theorem m_Apply {r c A B:Nat} (C:Nat) {a v:List Rat} (ha:OKM r c a) (hv:v.length=c) (sa:Sm A a) (sv:Sm B v) (hC:c≤C) (h:A+B+(2+C*(A+B))≤1073741824):
  CallOK Tryz.prog 142 [mA r c a,fvec v] [] (.tup [fvec (mapply r c a v),iv 0]) [] []:=by
 have hr:=ha.r
 have hc:=ha.c
 have k0:=m_all1 ha
 have k1:=m_short [v] (by simp) (by simp;omega)
 rw[show shortF [v]=0 from by simp[shortF];omega]at k1
 have t0:((v.length:Int) != (c:Int))=false:=by rw[hv];exact bne_self_eq_false _
 have hz:(mapply r c a v).length=r:=mapply_len
 refine callF (Z:=[2,11,17]) tabOK mixedOK Tryz.func142 rfl (by kernel_rfl) (by first|rfl|(simp[keylessL,keyless,keylessL_map, *];done)) (by first|rfl|(simp[keylessL,keyless,keylessL_map, *];done)) (by kernel_rfl) rfl ?_
 intro w0 ρ0 hE
 conv=>whnf
 (repeat((first|refine step_w2 rfl rfl ?_|refine step_oA (by first|omega|decide|(simp only[tl0,dlen,List.length_replicate,List.length_set,List.length_map,List.length_zipWith,List.length_take,List.length_append,List.length_cons,List.length_nil];omega)) ?_|refine g_c (by assumption) ?_|rw[bne_self_eq_false]|refine g_o (op_lenM rfl rfl rfl (ev_ok rfl) (tgt rfl) rfl) ?_|refine g_o (op_loadA rfl (ev_ok rfl) (tgt rfl) rfl (Nat.succ_ne_zero _) rfl) ?_|refine g_o (op_fieldA rfl (ev_ok rfl) (tgt rfl) rfl rfl (Nat.succ_ne_zero _) rfl) ?_|rw[t0]|rw[Int.toNat_natCast]);conv=>whnf))
 refine SW_loopN hE (fun k=>k) [1,2,8,31,32] [29] (fun m fr hp=>∃i:Nat,m=r - i∧i≤r∧fr=[(1,fvec v),(2,ptrA (mC r c a)),(8,.slc 29 5 0 r),(31,iv r),(32,iv (i:Nat))]∧hp=[(29,fblk ((mapply r c a v).take i++List.replicate (r - i) 0))]) r ?_ ?_ ?_
 ·kernel_rfl
 ·exact⟨0,rfl,Nat.zero_le _,rfl,rfl⟩
 rintro m _ _ ⟨i,rfl,hi,rfl,rfl⟩
 have hlen:=fill_len (d:=(0:Rat)) hi hz
 conv=>whnf
 by_cases hlt:i<r
 ·have t1:=dlt hlt
  have t2:=winc (i:=i) (by omega)
  have o1:=m_rowV ha hlt
  have l1:=rowL_len hlt ha.n
  have s1:=Sm_row sa ha.n hlt
  have hs:fsL (vmul (rowL a c i) v)≤_:=fsL_Sm (Sm_zip fs_mul s1 sv (l1.trans hv.symm))
  rw[zip_len l1 hv]at hs
  have hC2:=Nat.mul_le_mul_right (A+B) hC
  have o2:=v_Dot (rowL a c i) v (l1.trans hv.symm) (by omega) (Fit_Sm s1 sv (l1.trans hv.symm) (by omega)) (by omega)
  rw[row_dot ha.n hv hlt]at o2
  clear hs hC2 s1
  (repeat((first|refine step_w1 rfl rfl ?_|refine step_oL (by first|omega|decide|(simp only[tl0,dlen,List.length_replicate,List.length_set,List.length_map,List.length_zipWith,List.length_take,List.length_append,List.length_cons,List.length_nil];omega)) ?_|refine step_oA (by first|omega|decide|(simp only[tl0,dlen,List.length_replicate,List.length_set,List.length_map,List.length_zipWith,List.length_take,List.length_append,List.length_cons,List.length_nil];omega)) ?_|refine g_c (by assumption) ?_|refine g_o (op_loadA rfl (ev_ok rfl) (tgt rfl) rfl (Nat.succ_ne_zero _) rfl) ?_|rw[t1]|rw[t2]|rw[Int.toNat_natCast]|rw[Nat.zero_add]);conv=>whnf))
  refine⟨r - (i+1),fun k=>k,[1,2,8,31,32],[29],by omega,by kernel_rfl,i+1,rfl,hlt,rfl, ?_⟩
  rw[fblk,←fill_set (e:=0) hlt hz]
  rfl
 ·have t1:=dge hlt
  have hI:i=r:=by omega
  subst hI
  rw[fill_all hz]
  (repeat(first|(refine step_w2 rfl rfl ?_;conv=>whnf)|(rw[t1];conv=>whnf)))
  (first|exact Recast.refl _|exact Frz.recast (Recast.refl _) rfl|(refine Frz.one rfl rfl ?_;skip)|(refine Frz.tup ?_;(repeat(first|exact FrzC.keyless rfl|exact FrzL.nil|refine FrzL.cons ?_ ?_|(refine FrzC.fracs rfl ?_;(first|rfl|omega|(simp<;>fail)|(simp<;>omega)))))))
theorem fs_dot {a b:List Rat} {A B n N:Nat} (ha:Sm A a) (hb:Sm B b) (h1:a.length=n) (h2:b.length=n) (hn:n≤N):fs (vdot a b)≤2+N*(A+B):=by
 have:=fs_vdot ha hb h1 h2
 have:=Nat.mul_le_mul_right (A+B) hn
 omega
theorem Sm_apply {r c A B C:Nat} {a v:List Rat} (ha:a.length=r*c) (hv:v.length=c) (sa:Sm A a) (sv:Sm B v) (hC:c≤C):Sm (2+C*(A+B)) (mapply r c a v):=by
 intro i hi
 rw[mapply_len]at hi
 rw[←row_dot ha hv hi]
 exact fs_dot (Sm_row sa ha hi) sv (rowL_len hi ha) hv hC
theorem m_Form {r c A B D:Nat} (C:Nat) {a v w:List Rat} (ha:OKM r c a) (hv:v.length=r) (hw:w.length=c) (sa:Sm A a) (sv:Sm D v) (sw:Sm B w) (hC:c≤C) (hR:r≤C) (h:A+B+(2+C*(A+B))≤1073741824)
  (h2:D+(2+C*(A+B))+C*(D+(2+C*(A+B)))+2≤1073741824):
  CallOK Tryz.prog 82 [mA r c a,fvec v,fvec w] [] (.tup [.frac (mform r c a v w),iv 0]) [] []:=by
 have hr:=ha.r
 have hc:=ha.c
 have k0:=m_Check0 ha
 have k1:=m_short [v,w] (by simp) (by simp;omega)
 rw[show shortF [v,w]=0 from by simp[shortF];omega]at k1
 have k2:=m_Apply C ha hw sa sw hC h
 have s2:=Sm_apply ha.n hw sa sw hC
 have hml:(mapply r c a w).length=r:=mapply_len
 have hs:fsL (vmul v (mapply r c a w))≤_:=fsL_Sm (Sm_zip fs_mul sv s2 (hv.trans hml.symm))
 rw[zip_len hv hml]at hs
 have hC2:=Nat.mul_le_mul_right (D+(2+C*(A+B))) hR
 have k3:=v_Dot v (mapply r c a w) (hv.trans hml.symm) (by omega) (Fit_Sm sv s2 (hv.trans hml.symm) (by omega)) (by omega)
 have t0:((v.length:Int) != (r:Int))=false:=by rw[hv];exact bne_self_eq_false _
 have t1:((w.length:Int) != (c:Int))=false:=by rw[hw];exact bne_self_eq_false _
 clear hs hC2 s2 h2 h
 refine callV (Z:=[3,20]) tabOK mixedOK Tryz.func82 rfl (by kernel_rfl) rfl rfl (by kernel_rfl) rfl ?_
 intro W0 w0 ρ0 hE
 conv=>whnf
 (repeat((first|refine step_w1 rfl rfl ?_|refine step_w2 rfl rfl ?_|refine g_c (by assumption) ?_|refine g_o (op_pickF rfl (ev_ok rfl) (ev_ok rfl)) ?_|rw[bne_self_eq_false]|refine g_o (op_lenM rfl rfl rfl (ev_ok rfl) (tgt rfl) rfl) ?_|refine g_o (op_loadA rfl (ev_ok rfl) (tgt rfl) rfl (Nat.succ_ne_zero _) rfl) ?_|refine g_o (op_fieldA rfl (ev_ok rfl) (tgt rfl) rfl rfl (Nat.succ_ne_zero _) rfl) ?_|rw[t0]|rw[t1]);conv=>whnf));(first|exact Recast.refl _|exact Frz.recast (Recast.refl _) rfl|(refine Frz.one rfl rfl ?_;skip)|(refine Frz.tup ?_;skip))
theorem m_Equal (a b:List Rat) (ha:a.length<1099511627776) (hb:b.length<1099511627776):CallOK Tryz.prog 137 [fvec a,fvec b] [] (.val (.bool (decide (a=b)))) [] []:=by
 refine callV (Z:=[]) tabOK mixedOK Tryz.func137 rfl (by kernel_rfl) rfl rfl (by kernel_rfl) rfl ?_
 intro W0 w0 ρ0 hE
 conv=>whnf
 by_cases hab:a.length=b.length
 ·have t0:((a.length:Int) != (b.length:Int))=false:=by rw[hab];exact bne_self_eq_false _
  (repeat(first|(refine step_w2 rfl rfl ?_;conv=>whnf)|(refine g_o (op_lenM rfl rfl rfl (ev_ok rfl) (tgt rfl) rfl) ?_;conv=>whnf)|(rw[t0];conv=>whnf)))
  refine SW_loopN hE (fun k=>k) [0,1,4,11,12,13] [] (fun m fr hp=>∃i,m=a.length - i∧i≤a.length∧a.take i=b.take i∧fr=[(0,fvec a),(1,fvec b),(4,.val (.bool false)),(11,fvec a),(12,.val (.int .i64 (a.length:Nat))),(13,.val (.int .i64 (i:Nat)))]∧hp=[]) a.length ?_ ?_ ?_
  ·kernel_rfl
  ·exact⟨0,rfl,Nat.zero_le _,rfl,rfl,rfl⟩
  rintro m _ _ ⟨i,rfl,hi,ht,rfl,rfl⟩
  conv=>whnf
  by_cases hlt:i<a.length
  ·have t1:=dlt hlt
   have t2:=winc (i:=i) (by omega)
   by_cases hv:a.getD i 0=b.getD i 0
   ·have t3:(!decide (a.getD i 0=b.getD i 0))=false:=by rw[decide_eq_true hv];rfl
    (repeat((first|refine step_w1 rfl rfl ?_|refine step_w2 rfl rfl ?_|refine step_i (by kernel_rfl) ?_|refine g_o (op_indexN (α:=Rat) (d:=0) rfl (ev_ok rfl) (ev_ok rfl) (tgt rfl) rfl (tgt rfl) rfl (by omega)) ?_|refine g_o (op_loadA rfl (ev_ok rfl) (tgt rfl) rfl (Nat.succ_ne_zero _) rfl) ?_|refine⟨_,op_neAgg tabOK goodOK rfl (ev_ok rfl) (ev_ok rfl) rfl rfl rfl rfl (q_same _ _) q_guard, ?_⟩|rw[t1]|rw[t3]|rw[t2]);conv=>whnf))
    exact⟨a.length - (i+1),fun k=>k,[0,1,4,11,12,13],[],by omega,by kernel_rfl,i+1,rfl,hlt,by rw[take_snoc a i hlt,take_snoc b i (by omega),ht,hv],rfl,rfl⟩
   ·have t3:(!decide (a.getD i 0=b.getD i 0))=true:=by rw[decide_eq_false hv];rfl
    have e:decide (a=b)=false:=decide_eq_false (fun h=>hv (by rw[h]))
    rw[e]
    (repeat((first|refine step_w1 rfl rfl ?_|refine step_i (by kernel_rfl) ?_|refine g_o (op_indexN (α:=Rat) (d:=0) rfl (ev_ok rfl) (ev_ok rfl) (tgt rfl) rfl (tgt rfl) rfl (by omega)) ?_|refine g_o (op_loadA rfl (ev_ok rfl) (tgt rfl) rfl (Nat.succ_ne_zero _) rfl) ?_|refine⟨_,op_neAgg tabOK goodOK rfl (ev_ok rfl) (ev_ok rfl) rfl rfl rfl rfl (q_same _ _) q_guard, ?_⟩|rw[t1]|rw[t3]);conv=>whnf));(first|exact Recast.refl _|exact Frz.recast (Recast.refl _) rfl|(refine Frz.one rfl rfl ?_;skip)|(refine Frz.tup ?_;skip))
  ·have t1:=dge hlt
   have hI:i=a.length:=by omega
   have e:decide (a=b)=true:=decide_eq_true (by rw[hI,List.take_length]at ht;rw[ht,hab,List.take_length])
   rw[e]
   (repeat(first|(refine step_w2 rfl rfl ?_;conv=>whnf)|(rw[t1];conv=>whnf)));(first|exact Recast.refl _|exact Frz.recast (Recast.refl _) rfl|(refine Frz.one rfl rfl ?_;skip)|(refine Frz.tup ?_;skip))
 ·have t0:((a.length:Int) != (b.length:Int))=true:=bne_iff_ne.2 (by omega)
  have e:decide (a=b)=false:=decide_eq_false (fun h=>hab (by rw[h]))
  rw[e]
  (repeat(first|(refine step_w1 rfl rfl ?_;conv=>whnf)|(refine g_o (op_lenM rfl rfl rfl (ev_ok rfl) (tgt rfl) rfl) ?_;conv=>whnf)|(rw[t0];conv=>whnf)));(first|exact Recast.refl _|exact Frz.recast (Recast.refl _) rfl|(refine Frz.one rfl rfl ?_;skip)|(refine Frz.tup ?_;skip))
def sameF (r c s t:Int) (a b:List Rat):Bool:=r==s&&c==t&&decide (a=b)
theorem m_Same (r c s t:Int) (a b:List Rat) (ha:a.length<1099511627776) (hb:b.length<1099511627776):CallOK Tryz.prog 76 [mA r c a,mA s t b] [] (.val (.bool (sameF r c s t a b))) [] []:=by
 have k1:=m_Equal a b ha hb
 unfold sameF
 refine callV (Z:=[]) tabOK mixedOK Tryz.func76 rfl (by kernel_rfl) rfl rfl (by kernel_rfl) rfl ?_
 intro W0 w0 ρ0 hE
 conv=>whnf
 cases h1:(r==s)
 ·(repeat(first|(refine step_w2 rfl rfl ?_;conv=>whnf)|(refine g_o (op_pickF rfl (ev_ok rfl) (ev_ok rfl)) ?_;conv=>whnf)));(first|exact Recast.refl _|exact Frz.recast (Recast.refl _) rfl|(refine Frz.one rfl rfl ?_;skip)|(refine Frz.tup ?_;skip))
 ·cases h2:(c==t)
  ·(repeat((first|refine step_w1 rfl rfl ?_|refine step_w2 rfl rfl ?_|refine g_o (op_pickT rfl (ev_ok rfl) (ev_ok rfl)) ?_|refine g_o (op_pickF rfl (ev_ok rfl) (ev_ok rfl)) ?_|rw[h2]);conv=>whnf));(first|exact Recast.refl _|exact Frz.recast (Recast.refl _) rfl|(refine Frz.one rfl rfl ?_;skip)|(refine Frz.tup ?_;skip))
  ·(repeat((first|refine step_w1 rfl rfl ?_|refine g_c (by assumption) ?_|refine g_o (op_pickT rfl (ev_ok rfl) (ev_ok rfl)) ?_|rw[h2]);conv=>whnf));(first|exact Recast.refl _|exact Frz.recast (Recast.refl _) rfl|(refine Frz.one rfl rfl ?_;skip)|(refine Frz.tup ?_;skip))
theorem m_Symmetric {r c:Nat} {a:List Rat} (ha:OKM r c a):CallOK Tryz.prog 24 [mA r c a] [] (.val (.bool (sameF r c c r a (mturn r c a)))) [] []:=by
 have k1:=m_Turn ha
 have k2:=m_Same r c c r a (mturn r c a) (by have:=ha.small;omega) (by rw[mk_len];have:=Nat.mul_le_mul ha.c ha.r;omega)
 refine callV (Z:=[]) tabOK mixedOK Tryz.func24 rfl (by kernel_rfl) rfl rfl (by kernel_rfl) rfl ?_
 intro W0 w0 ρ0 hE
 conv=>whnf
 (repeat(first|(refine step_w1 rfl rfl ?_;conv=>whnf)|(refine g_c (by assumption) ?_;conv=>whnf)|(refine g_o (op_pickT rfl (ev_ok rfl) (ev_ok rfl)) ?_;conv=>whnf)));(first|exact Recast.refl _|exact Frz.recast (Recast.refl _) rfl|(refine Frz.one rfl rfl ?_;skip)|(refine Frz.tup ?_;skip))
end Go.Proofs.YtfjhnollamkdcaaGreatDoor
namespace Go.Proofs.YtfjhnollamkdcaaGreatDoor
open Go.Sx
set_option linter.unusedSimpArgs false
set_option linter.unusedVariables false
set_option maxRecDepth 100000
set_option maxHeartbeats 4000000
theorem m_Of (r c:Nat) (l:List Int) (hr:r≤2048) (hc:c≤2048) (hl:l.length=r*c) (h:∀x∈l, -9223372036854775808≤x∧x<9223372036854775808):CallOK Tryz.prog 49 [iv r,iv c,ivec .i64 l] [] (.tup [mA r c (ofInts l),iv 0]) [] []:=by
 have hb:=Nat.mul_le_mul hr hc
 have k1:=v_Of l (by omega) (fun i hi=>h _ (getD_mem hi))
 have k0:=m_Check0 (a:=ofInts l) ⟨hr,hc,by simpa [ofInts]using hl⟩
 refine callV (Z:=[]) tabOK mixedOK Tryz.func49 rfl (by kernel_rfl) rfl rfl (by kernel_rfl) rfl ?_
 intro W0 w0 ρ0 hE
 conv=>whnf
 (repeat(first|(refine step_w2 rfl rfl ?_;conv=>whnf)|(refine g_c (by assumption) ?_;conv=>whnf)));(first|exact Recast.refl _|exact Frz.recast (Recast.refl _) rfl|(refine Frz.one rfl rfl ?_;skip)|(refine Frz.tup ?_;skip))
end Go.Proofs.YtfjhnollamkdcaaGreatDoor
namespace Go.Sx
set_option linter.unusedSimpArgs false
set_option linter.unusedVariables false
theorem addKey_RR {E:Env} {k:Nat} {blk:Blk} {fr:List (Nat×SV)} {hp:List (Nat×Blk)} (hk:find hp k=none) (he:blk.data.empty) {a:Act} {w:World} (hR:RR E (fn fr hp) a w):
  RR E (fn fr ((k,blk)::hp)) a w:=by
 obtain⟨ρ,hext,hfx,hR⟩:=hR
 have hkn:ρ.key k=none:=by
  cases hx:ρ.key k with
  |none=>rfl
  |some x=>
   obtain⟨b,hb⟩:=hR.hp.dom k x hx
   simp only[fn,LV.blk,hk]at hb
   cases hb
 have hblk:∀j b,(fn fr ((k,blk)::hp) (.k j)).blk=some b→(j=k∧b=blk)∨(j≠k∧(fn fr hp (.k j)).blk=some b):=by
  intro j b hb
  simp only[fn,LV.blk,find]at hb ⊢
  cases hj:Nat.beq k j with
  |true=>rw[hj]at hb;simp only[Option.some.injEq]at hb;exact .inl ⟨(Nat.eq_of_beq_eq_true hj).symm,hb.symm⟩
  |false=>rw[hj]at hb;exact .inr ⟨by rintro rfl;simp[Nat.beq_refl]at hj,hb⟩
 have hne:∀j x,ρ.key j=some x→j≠k:=fun j x hx h=>by rw[h,hkn]at hx;cases hx
 refine⟨ρ,hext,fun j hj=> ?_,{defers:=hR.defers,size:=hR.size,fr:=fun u sv hu=>hR.fr u sv hu,pres:=hR.pres,hp:= ?_}⟩
 ·have:=hfx j hj
  simp only[fn,LV.blk,find]at this ⊢
  cases hb:Nat.beq k j with
  |true=>simp
  |false=>exact this
 ·constructor
  ·intro j b hb
   rcases hblk j b hb with⟨rfl,rfl⟩|⟨_,h1⟩
   ·exact .inr (.inr ⟨hkn,he⟩)
   ·exact hR.hp.blk j b h1
  ·intro j j' x x' b b' hx hx' hn hxe hb hb'
   rcases hblk j b hb with⟨h1,_⟩|⟨_,h1⟩
   ·exact absurd h1 (hne j x hx)
   ·rcases hblk j' b' hb' with⟨h2,_⟩|⟨_,h2⟩
    ·exact absurd h2 (hne j' x' hx')
    ·exact hR.hp.sep j j' x x' b b' hx hx' hn hxe h1 h2
  ·intro j b x hb hw hl hx
   rcases hblk j b hb with⟨h1,_⟩|⟨_,h1⟩
   ·exact absurd h1 (hne j x hx)
   ·exact hR.hp.own j b x h1 hw hl hx
  ·intro j x hx
   obtain⟨b,hb⟩:=hR.hp.dom j x hx
   have:=hne j x hx
   refine⟨b, ?_⟩
   simp only[fn,LV.blk,find]at hb ⊢
   cases hj:Nat.beq k j with
   |true=>exact absurd (Nat.eq_of_beq_eq_true hj).symm this
   |false=>exact hb
  ·exact hR.hp.imm
  ·intro j b x hb hw hl hx
   rcases hblk j b hb with⟨h1,_⟩|⟨_,h1⟩
   ·exact absurd h1 (hne j x hx)
   ·exact hR.hp.immw j b x h1 hw hl hx
theorem retell_RR {E:Env} {j:Nat} {ty:TypeId} {wr:Bool} {cs cs':List SV} {fr:List (Nat×SV)} {hp:List (Nat×Blk)} (hj:find hp j=some ⟨ty,wr,.one cs⟩) (hd:∀ρ z,HasZ ρ cs z→HasZ ρ cs' z) {a:Act} {w:World} (hR:RR E (fn fr hp) a w):
  RR E (fn fr ((j,⟨ty,wr,.one cs'⟩)::hp)) a w:=by
 obtain⟨ρ,hext,hfx,hR⟩:=hR
 have hblk:∀i b,(fn fr ((j,⟨ty,wr,.one cs'⟩)::hp) (.k i)).blk=some b→∃b0,(fn fr hp (.k i)).blk=some b0∧b0.wr=b.wr∧b0.data.live=b.data.live∧(b0=b∨(i=j∧b0=⟨ty,wr,.one cs⟩∧b=⟨ty,wr,.one cs'⟩)):=by
  intro i b hb
  simp only[fn,LV.blk,find]at hb ⊢
  cases hi:Nat.beq j i with
  |true=>
   rw[hi]at hb
   simp only[Option.some.injEq]at hb
   obtain rfl:=Nat.eq_of_beq_eq_true hi
   subst hb
   exact⟨_,hj,rfl,rfl,.inr ⟨rfl,rfl,rfl⟩⟩
  |false=>rw[hi]at hb;exact⟨b,hb,rfl,rfl,.inl rfl⟩
 refine⟨ρ,hext,fun i hi=> ?_,{defers:=hR.defers,size:=hR.size,fr:=fun u sv hu=>hR.fr u sv hu,pres:=hR.pres,hp:= ?_}⟩
 ·have:=hfx i hi
  simp only[fn,LV.blk,find]at this ⊢
  cases hb:Nat.beq j i with
  |true=>simp
  |false=>exact this
 ·constructor
  ·intro i b hb
   obtain⟨b0,h1,h2,h3,rfl|⟨rfl,rfl,rfl⟩⟩:=hblk i b hb
   ·exact hR.hp.blk i b0 h1
   ·rcases hR.hp.blk i _ h1 with h4|⟨b',t,vs,ex,g1,g2,g3,g4,g5⟩|⟨_,h4⟩
    ·cases h4
    ·refine .inr (.inl ⟨b',t,vs,ex,g1,g2, ?_,g4,g5⟩)
     simp only[DataC]at g3 ⊢
     obtain⟨z,g6,g7⟩:=g3
     exact⟨z,hd ρ z g6,g7⟩
    ·exact h4.elim
  ·intro i i' x x' b b' hx hx' hn hxe hb hb' hl hl'
   obtain⟨b0,h1,h2,h3,_⟩:=hblk i b hb
   obtain⟨b0',h1',h2',h3',_⟩:=hblk i' b' hb'
   rw[←h2]
   exact hR.hp.sep i i' x x' b0 b0' hx hx' hn hxe h1 h1' (h3.trans hl) (h3'.trans hl')
  ·intro i b x hb hw hl hx
   obtain⟨b0,h1,h2,h3,_⟩:=hblk i b hb
   exact hR.hp.own i b0 x h1 (h2.trans hw) (h3.trans hl) hx
  ·intro i x hx
   obtain⟨b,hb⟩:=hR.hp.dom i x hx
   simp only[fn,LV.blk,find]at hb ⊢
   cases hi:Nat.beq j i with
   |true=>exact⟨_,rfl⟩
   |false=>exact⟨b,hb⟩
  ·exact hR.hp.imm
  ·intro i b x hb hw hl hx
   obtain⟨b0,h1,h2,h3,_⟩:=hblk i b hb
   exact hR.hp.immw i b0 x h1 (h2.trans hw) (h3.trans hl) hx
theorem HasZ_adopt {ρ:Rho} {k s:Nat}:∀{cs:List SV} {p:Nat} {z:List (List Value)},cs[p]? =some (.val (.slice none 0 0))→HasZ ρ cs z→HasZ ρ (cs.set p (.slc k s 0 0)) z
 |[],p,z,h,_=>by simp at h
 |c::cs,0,z,h,hz=>by
  simp only[List.getElem?_cons_zero,Option.some.injEq]at h
  subst h
  simp only[HasZ,List.set_cons_zero]at hz ⊢
  obtain⟨x,r,rfl,h1,h2⟩:=hz
  refine⟨x,r,rfl, ?_,h2⟩
  simp only[HasC]at h1 ⊢
  exact .inr ⟨trivial,none,h1.1⟩
 |c::cs,p+1,z,h,hz=>by
  simp only[List.getElem?_cons_succ]at h
  simp only[HasZ,List.set_cons_succ]at hz ⊢
  obtain⟨x,r,rfl,h1,h2⟩:=hz
  exact⟨x,r,rfl,h1,HasZ_adopt h h2⟩
theorem SWx_adoptB {E:Env} {j k s p:Nat} {ty:TypeId} {wr:Bool} {cs cs':List SV} {c:Code} {K:Post'} {blk:Blk} {fr:List (Nat×SV)} {hp:List (Nat×Blk)} (hj:find hp j=some ⟨ty,wr,.one cs⟩) (hp':cs[p]? =some (.val (.slice none 0 0))) (hk:find hp k=none) (he:blk.data.empty)
  (hcs:cs.set p (.slc k s 0 0)=cs') (hs:SWx E c K fr ((k,blk)::(j,⟨ty,wr,.one cs'⟩)::hp)):SWx E c K fr hp:=⟨fun a w hR=>hs.run a w (by
  subst hcs
  refine addKey_RR ?_ he (retell_RR hj (fun ρ z hz=>HasZ_adopt hp' hz) hR)
  simp only[find]
  cases hb:Nat.beq j k with
  |false=>exact hk
  |true=>rw[Nat.eq_of_beq_eq_true hb,hk]at hj;cases hj)⟩
theorem tst_tt {t:Bool} {A B:Prop} (h:t=true) (k:A):(t=true→A)∧(t=false→B):=⟨fun _=>k,fun h'=>(by rw[h]at h';cases h')⟩
theorem tst_ff {t:Bool} {A B:Prop} (h:t=false) (k:B):(t=true→A)∧(t=false→B):=⟨fun h'=>(by rw[h]at h';cases h'),fun _=>k⟩
def Wk (c d:SV):Prop:=c.isOne=d.isOne∧∀ρ x,HasC ρ c x→HasC ρ d x
def WkL (l m:List SV):Prop:=(∀z,List.zipWith mkV l z=List.zipWith mkV m z)∧∀ρ z,HasZ ρ l z→HasZ ρ m z
theorem Wk.refl {c:SV}:Wk c c:=⟨rfl,fun _ _ h=>h⟩
theorem Wk.nil {w:Nat} {a:Option Addr}:Wk (.val (.slice a 0 0)) (vecA w []):=⟨rfl,fun _ _ h=>nil_vec h⟩
theorem WkL.nil:WkL [] []:=⟨fun _=>rfl,fun _ _ h=>h⟩
theorem WkL.cons {c d:SV} {l m:List SV} (h:Wk c d) (k:WkL l m):WkL (c::l) (d::m):=
 ⟨fun z=>by cases z with
  |nil=>rfl
  |cons x r=>rw[List.zipWith_cons_cons,List.zipWith_cons_cons,k.1 r,mkV_eq h.1],fun ρ z hz=>by
  simp only[HasZ]at hz ⊢
  obtain⟨x,r,rfl,h1,h2⟩:=hz
  exact⟨x,r,rfl,h.2 ρ x h1,k.2 ρ r h2⟩⟩
theorem Wk.agg {l m:List SV} (h:WkL l m):Wk (.agg l) (.agg m):=⟨rfl,fun ρ x hx=>by
 simp only[HasC]at hx ⊢
 obtain⟨z,h1,h2⟩:=hx
 exact⟨z,h.2 ρ z h1,h2⟩⟩
theorem CallOK.wk {P:Program} {f:FuncId} {args args':List SV} {fk:List (Nat×Blk)} {c:SV} {new upd:List (Nat×Blk)} (h:CallOK P f args' fk c new upd) (hw:WkL args args'):CallOK P f args fk c new upd:=CallOK.args h hw.2 hw.1
end Go.Sx
namespace Go.Proofs.YtfjhnollamkdcaaGreatDoor
open Go.Sx
set_option linter.unusedSimpArgs false
set_option linter.unusedVariables false
set_option maxRecDepth 100000
set_option maxHeartbeats 4000000
def tdF:Nat→Nat→List Nat
 |0,_=>[]
 |f+1,n=>if n=0 then[]else n % 10000::tdF f (n/10000)
def tdW (n:Nat):List Nat:=tdF n n
def W4 (xs:List Int):Prop:=∀i,0≤xs.getD i 0∧xs.getD i 0<10000
theorem W4.set {xs:List Int} (h:W4 xs) {i:Nat} {v:Int} (h0:0≤v) (h1:v<10000):W4 (xs.set i v):=by
 intro j
 rw[getD_set]
 split
 ·exact⟨h0,h1⟩
 ·exact h j
theorem W4.mem {xs:List Int} (h:W4 xs):∀x∈xs,0≤x∧x<10000:=by
 intro x hx
 obtain⟨i,hi⟩:=List.getElem?_of_mem hx
 have:=h i
 rw[List.getD_eq_getElem?_getD,hi]at this
 exact this
def td (n:Nat):List Int:=(tdW n).map Int.ofNat
end Go.Proofs.YtfjhnollamkdcaaGreatDoor
namespace Go.Proofs.YtfjhnollamkdcaaGreatDoor
open Go.Sx
set_option linter.unusedSimpArgs false
set_option linter.unusedVariables false
set_option maxRecDepth 100000
set_option maxHeartbeats 8000000
theorem OKM_mk {r c:Nat} {F:Nat→Nat→Rat} (hr:r≤2048) (hc:c≤2048):OKM r c (mk r c F):=⟨hr,hc,mk_len ..⟩
end Go.Proofs.YtfjhnollamkdcaaGreatDoor
namespace Go.Sx
set_option linter.unusedSimpArgs false
set_option linter.unusedVariables false
theorem CallOK.weak {P:Program} {f:FuncId} {args:List SV} {fk fk':List (Nat×Blk)} {c:SV} {new upd:List (Nat×Blk)} (h:CallOK P f args fk' c new upd) (hk:∀ρ w,PreW fk new ρ w→PreW fk' new ρ w):CallOK P f args fk c new upd:=by
 rcases h with⟨h1,h2⟩|h
 ·exact .inl ⟨h1,fun ρ w z hz hp=>h2 ρ w z hz (hk ρ w hp)⟩
 ·exact .inr fun ρ w z hz hp=>h ρ w z hz (hk ρ w hp)
def roB (b:Bool) (x:Blk):Blk:=⟨x.ty,b&&x.wr,x.data⟩
theorem PreW.some {ρ:Rho} {w:World} {fk new:List (Nat×Blk)} (g:Nat→Bool) (hp:PreW fk new ρ w):PreW (fk.map fun x=>(x.1,roB (g x.1) x.2)) new ρ w:=by
 refine⟨fun k b hk=> ?_,fun k k' x x' b b' hk hk' e1 e2 e3 e4 e5 e6=> ?_,hp.imm,fun k b x hk hw hl hx=> ?_,hp.fresh⟩
 ·obtain⟨⟨q,b0⟩,hq,he⟩:=List.mem_map.1 hk
  cases he
  exact hp.hfk q b0 hq
 ·obtain⟨⟨q,b0⟩,hq,he⟩:=List.mem_map.1 hk
  obtain⟨⟨q',b0'⟩,hq',he'⟩:=List.mem_map.1 hk'
  cases he
  cases he'
  have:=hp.sep q q' x x' b0 b0' hq hq' e1 e2 e3 e4 e5 e6
  simp[roB,this]
 ·obtain⟨⟨q,b0⟩,hq,he⟩:=List.mem_map.1 hk
  cases he
  exact hp.immw q b0 x hq (by simp[roB]at hw;exact hw.2) hl hx
def deads:List Nat→List (Nat×Blk)
 |[]=>[]
 |k::r=>(k,⟨0,true,.dead⟩)::deads r
theorem find_deads {mv:List Nat} {hp:List (Nat×Blk)} {k:Nat}:(k∈mv→find (deads mv++hp) k=some ⟨0,true,.dead⟩)∧(k∉mv→find (deads mv++hp) k=find hp k):=by
 induction mv with
 |nil=>exact⟨(fun h=>by cases h),fun _=>rfl⟩
 |cons j r ih=>
  simp only[deads,List.cons_append,find]
  cases hb:Nat.beq j k with
  |true=>
   obtain rfl:=Nat.eq_of_beq_eq_true hb
   exact⟨fun _=>rfl,fun h=>absurd (List.mem_cons_self ..) h⟩
  |false=>
   have hne:k≠j:=by rintro rfl;simp[Nat.beq_refl]at hb
   exact⟨fun h=>ih.1 ((List.mem_cons.1 h).resolve_left hne),fun h=>ih.2 fun g=>h (List.mem_cons_of_mem _ g)⟩
def fixM (σ:Nat→Nat) (ks mv:List Nat):List Nat→Bool
 |[]=>true
 |k::r=>(memN k mv||(memN k ks&&Nat.beq (σ k) k))&&fixM σ ks mv r
theorem fixM_spec {σ:Nat→Nat} {ks mv:List Nat}:∀{l:List Nat},fixM σ ks mv l=true→∀k∈l,k∈mv∨(k∈ks∧σ k=k)
 |j::r,h,k,hk=>by
  simp only[fixM,Bool.and_eq_true,Bool.or_eq_true,memN_iff]at h
  rcases List.mem_cons.1 hk with rfl|hk
  ·exact h.1.imp id fun g=>⟨g.1,Nat.eq_of_beq_eq_true g.2⟩
  ·exact fixM_spec h.2 k hk
def awayOK (σ:Nat→Nat) (mv:List Nat):List Nat→Bool
 |[]=>true
 |k::r=> !(memN (σ k) mv)&&awayOK σ mv r
theorem awayOK_spec {σ:Nat→Nat} {mv:List Nat}:∀{l:List Nat},awayOK σ mv l=true→∀k∈l,σ k∉mv
 |j::r,h,k,hk=>by
  simp only[awayOK,Bool.and_eq_true,Bool.not_eq_true',←Bool.not_eq_true,memN_iff]at h
  rcases List.mem_cons.1 hk with rfl|hk
  ·exact h.1
  ·exact awayOK_spec h.2 k hk
def moveOK (fx:List Nat) (σ:Nat→Nat) (ts ks mv:List Nat) (fr:List (Nat×SV)) (hp:List (Nat×Blk)):Bool:=
 normOKf ks fr ts&&(normOKh ks hp ks&&(injOK σ ks&&(fixM σ ks mv fx&&(awayOK σ mv ks&&subN mv fx))))
theorem move_RR {E:Env} (hE:E.OK) {σ:Nat→Nat} {ts ks mv:List Nat} {fr:List (Nat×SV)} {hp:List (Nat×Blk)} (h:moveOK E.fx σ ts ks mv fr hp=true) {a:Act} {w:World} (hR:RR E (fn fr hp) a w):
  RR E (fn (normF σ fr ts) (deads mv++normH σ hp ks)) a w:=by
 simp only[moveOK,Bool.and_eq_true]at h
 obtain⟨h1,h2,h3,h4,h5,h6⟩:=h
 obtain⟨ρ,hext,hfx,hR⟩:=hR
 have hinj:=injOK_spec h3
 have hfix:=fixM_spec h4
 have haway:=awayOK_spec h5
 have hmv:=subN_spec h6
 let ρ':Rho:=⟨fun k'=>if k'∈mv then ρ.key k' else match ks.find? (fun k=>σ k==k')with
  |some k=>ρ.key k
  |none=>none,ρ.imm,ρ.glob⟩
 have hkm:∀k∈mv,ρ'.key k=ρ.key k:=fun k hk=>if_pos hk
 have hkey:∀k∈ks,ρ'.key (σ k)=ρ.key k:=by
  intro k hk
  show(if σ k∈mv then ρ.key (σ k)else match ks.find? (fun j=>σ j==σ k)with|some k=>ρ.key k|none=>none)=ρ.key k
  rw[if_neg (haway k hk)]
  cases hf:ks.find? (fun j=>σ j==σ k)with
  |none=>have:=List.find?_eq_none.1 hf k hk;simp at this
  |some j=>
   have hj:=List.mem_of_find?_eq_some hf
   have hs:=List.find?_some hf
   have:j=k:=hinj j hj k hk (by simpa using hs)
   rw[this]
 have hkey':∀k' x,ρ'.key k'=some x→k'∈mv∨(k'∉mv∧∃k∈ks,σ k=k'∧ρ.key k=some x):=by
  intro k' x hx
  by_cases hm:k'∈mv
  ·exact .inl hm
  have hx:(if k'∈mv then ρ.key k' else match ks.find? (fun j=>σ j==k')with|some k=>ρ.key k|none=>none)=some x:=hx
  rw[if_neg hm]at hx
  cases hf:ks.find? (fun j=>σ j==k')with
  |none=>rw[hf]at hx;cases hx
  |some j=>rw[hf]at hx;exact .inr ⟨hm,j,List.mem_of_find?_eq_some hf,by simpa using List.find?_some hf,hx⟩
 have hold:∀k' b',(fn (normF σ fr ts) (deads mv++normH σ hp ks) (.k k')).blk=some b'→(k'∈mv∧b'=⟨0,true,.dead⟩)∨∃k∈ks,σ k=k'∧∃b,find hp k=some b∧b'=renB σ b∧∀j∈refsD b.data,j∈ks:=by
  intro k' b' hb
  simp only[fn,LV.blk]at hb
  by_cases hm:k'∈mv
  ·rw[find_deads.1 hm]at hb;cases hb;exact .inl ⟨hm,rfl⟩
  ·rw[find_deads.2 hm]at hb;exact .inr (normH_find h2 k' b' hb)
 have hlive:∀k' b',(fn (normF σ fr ts) (deads mv++normH σ hp ks) (.k k')).blk=some b'→b'.data.live=true→∃k∈ks,σ k=k'∧∃b,find hp k=some b∧b'=renB σ b∧∀j∈refsD b.data,j∈ks:=by
  intro k' b' hb hl
  rcases hold k' b' hb with⟨_,rfl⟩|g
  ·cases hl
  ·exact g
 have hfk:∀k∈E.fx,ρ'.key k=ρ.key k:=by
  intro k hk
  rcases hfix k hk with e|⟨e1,e2⟩
  ·exact hkm k e
  ·have:=hkey k e1
   rw[e2]at this;exact this
 refine⟨ρ',⟨⟨fun k x hx=> ?_,hext.le.imm⟩,hext.imm,fun k hk=> ?_⟩,fun k hk=> ?_,{defers:=hR.defers,size:=hR.size,fr:= ?_,pres:=hR.pres,hp:= ?_}⟩
 ·rw[hfk k (hE.dom k x hx)];exact hext.le.key k x hx
 ·rw[hfk k hk];exact hext.fix k hk
 ·simp only[fn,LV.blk]
  rcases hfix k hk with e|⟨e1,e2⟩
  ·rw[find_deads.1 e];simp
  ·by_cases hm:k∈mv
   ·rw[find_deads.1 hm];simp
   ·rw[find_deads.2 hm]
    obtain⟨b,hb⟩:=normH_has (σ:=σ) h2 k e1
    rw[e2]at hb
    rw[hb];simp
 ·intro t sv ht
  obtain⟨c,c1,rfl,c3⟩:=normF_lk h1 t sv ht
  exact(ren_has (ρ:=ρ) (ρ':=ρ') (σ:=σ) rfl c _ (fun k hk=>hkey k (c3 k hk))).2 (hR.fr t c (by simp only[fn,LV.sv];exact c1))
 ·constructor
  ·intro k' b' hb
   rcases hold k' b' hb with⟨_,rfl⟩|⟨k,hk,rfl,b,b1,rfl,b3⟩
   ·exact .inl rfl
   ·exact(renB_iff (ρ:=ρ) (ρ':=ρ') (σ:=σ) rfl k b (hkey k hk) (fun j hj=>hkey j (b3 j hj))).2 (hR.hp.blk k b (by simp only[fn,LV.blk];exact b1))
  ·intro k1 k2 x1 x2 b1 b2 hx1 hx2 hne he hb1 hb2 hl1 hl2
   obtain⟨j1,m1,rfl,c1,d1,rfl,_⟩:=hlive k1 b1 hb1 hl1
   obtain⟨j2,m2,rfl,c2,d2,rfl,_⟩:=hlive k2 b2 hb2 hl2
   rw[hkey j1 m1]at hx1
   rw[hkey j2 m2]at hx2
   exact hR.hp.sep j1 j2 x1 x2 c1 c2 hx1 hx2 (fun h=>hne (by rw[h])) he (by simp only[fn,LV.blk];exact d1) (by simp only[fn,LV.blk];exact d2) (by rwa [renB,renD_live]at hl1) (by rwa [renB,renD_live]at hl2)
  ·intro k' b' x hb hw hl hx
   obtain⟨k,hk,rfl,b,b1,rfl,_⟩:=hlive k' b' hb hl
   rw[hkey k hk]at hx
   exact hR.hp.own k b x (by simp only[fn,LV.blk];exact b1) hw (by rwa [renB,renD_live]at hl) hx
  ·intro k' x hx
   simp only[fn,LV.blk]
   rcases hkey' k' x hx with hm|⟨hm,k,hk,rfl,_⟩
   ·exact⟨_,find_deads.1 hm⟩
   ·rw[find_deads.2 hm]
    exact normH_has (σ:=σ) h2 k hk
  ·exact hR.hp.imm
  ·intro k' b' x hb hw hl hx
   obtain⟨k,hk,rfl,b,b1,rfl,_⟩:=hlive k' b' hb hl
   rw[hkey k hk]at hx
   exact hR.hp.immw k b x (by simp only[fn,LV.blk];exact b1) hw (by rwa [renB,renD_live]at hl) hx
theorem SWx_move {E:Env} (hE:E.OK) (σ:Nat→Nat) (ts ks mv:List Nat) {c:Code} {K:Post'} {fr:List (Nat×SV)} {hp:List (Nat×Blk)} (h:moveOK E.fx σ ts ks mv fr hp=true)
  (hs:SWx E c K (normF σ fr ts) (deads mv++normH σ hp ks)):SWx E c K fr hp:=⟨fun a w hR=>hs.run a w (move_RR hE h hR)⟩
theorem SWx_norm {E:Env} (hE:E.OK) (σ:Nat→Nat) (ts ks:List Nat) {c:Code} {K:Post'} {fr:List (Nat×SV)} {hp:List (Nat×Blk)} (h:normOK E.fx σ ts ks fr hp=true)
  (hs:SWx E c K (normF σ fr ts) (normH σ hp ks)):SWx E c K fr hp:=⟨SW_norm hE σ ts ks h hs.run⟩
theorem get_nil {hp:List (Nat×Blk)}:∀j c,(j,c)∈([]:List (Nat×Blk))→find hp j=some c:=fun _ _ h=>by cases h
theorem get_cons {hp l:List (Nat×Blk)} {k:Nat} {b:Blk} (h:find hp k=some b) (r:∀j c,(j,c)∈l→find hp j=some c):∀j c,(j,c)∈(k,b)::l→find hp j=some c:=by
 intro j c hm
 rcases List.mem_cons.1 hm with e|e
 ·cases e;exact h
 ·exact r j c e
theorem NamesOK.same {fk:List (Nat×Blk)}:NamesOK fk [] fun k=>k:=⟨fun _ _ _ _ _ _ h _=>h,(fun _ _ h=>by cases h),fun _ _ h=>by cases h⟩
mutual
theorem renS_id:∀c:SV,renS (fun k=>k) c=c
 |.ptr .. |.slc .. |.any|.val _|.nat _|.int _|.frac _|.atom _=>rfl
 |.agg cs=>by rw[renS,renL_id cs]
 |.tup vs=>by rw[renS,renL_id vs]
 |.clo f a b=>by rw[renS,renL_id a,renL_id b]
 |.yld k rc ts a=>by rw[renS,renL_id a]
theorem renL_id:∀l:List SV,renL (fun k=>k) l=l
 |[]=>rfl
 |c::l=>by rw[renL,renS_id c,renL_id l]
end
theorem renB_id (b:Blk):renB (fun k=>k) b=b:=by
 obtain⟨ty,wr,d⟩:=b
 cases d<;>simp only[renB,renD,renL_id]
theorem renH_id:∀l:List (Nat×Blk),renH (fun k=>k) l=l
 |[]=>rfl
 |(k,b)::r=>by rw[renH,renB_id,renH_id r]
theorem callI {P:Program} {T:List (TypeId×TI)} {Z:List Nat} (hT:TabOK P T) (hm:P.follows .mixedOrders=true) {f:FuncId} {fn':Func} {code:Code} (hf:P.funcs[f]? =some fn') (hb:fn'.body=some code)
  (hn:(fn'.name== "runtime.NumGoroutine")=false) {args:List SV} {fk:List (Nat×Blk)} {c:SV} {upd:List (Nat×Blk)} (hs:ShapeOK args fk c [] upd) (hnt:Nat.ble args.length fn'.ntmps=true)
  (h:∀W0 w0 ρ0,Env.OK ⟨P,T,W0,w0,fn'.ntmps,ρ0,keysOf fk,Z,none⟩→cwp ⟨P,T,W0,w0,fn'.ntmps,ρ0,keysOf fk,Z,none⟩ code (Ret T fn'.results.toList (Fin c [] upd)) (enum 0 args) fk):
  CallOK P f args fk c [] upd:=by
 have:=callK hT hm hf hb hn hs hnt (fun k=>k) NamesOK.same h
 rwa [renL_id,renH_id,renS_id,renH_id upd]at this
section
variable {P:Program} {o:Oper} {fr:List (Nat×SV)} {hp:List (Nat×Blk)}
theorem ptr1_has {ρ:Rho} {v:Value} {k i:Nat} (h:Has ρ (.ptr k 1 i 0) v):Has ρ (.ptr k 1 0 i) v:=by
 obtain⟨z,⟨b,t',h1,h2⟩,h3⟩:=h
 refine⟨z,⟨b,t',h1, ?_⟩,h3⟩
 rw[h2];simp
theorem g_load1 {K:SV→List (Nat×Blk)→List (Nat×Blk)→List (Nat×Blk)→Prop} {t ty:TypeId} {x:Operand} {ti:TI} {k i:Nat} {wr:Bool} {cs l:List SV} {c:SV} (ho:o.op= .load t x) (hx:EvOK fr x (.ptr k 1 i 0))
  (hf:find hp k=some ⟨ty,wr,.one cs⟩) (ht:TOK P t ti) (hs:sub 64 cs i ti.size=some l) (hsz:ti.size≠0) (hsh:shapeAs ti l=some c) (hK:K c [(k,⟨ty,wr,.one cs⟩)] [] []):
  ∃c fk new upd,OpOK P o fr fk c new upd∧(∀j b,(j,b)∈fk→find hp j=some b)∧(∀j b,(j,b)∈new→find hp j=none)∧(∀j b,(j,b)∈upd→∃b0,(j,b0)∈fk∧b0.wr=true∧b0.data.live=true∧b.wr=true)∧K c fk new upd:=
 ⟨c,_,[],[],op_load (ob:=none) (i:=0) (s:=1) ho (fun ρ a h=>ptr1_has (hx ρ a h)) ht (List.mem_singleton.2 rfl) rfl trivial hs hsz hsh,one_fk hf,nil_new,nil_upd,hK⟩
theorem g_store1 {K:SV→List (Nat×Blk)→List (Nat×Blk)→List (Nat×Blk)→Prop} {t ty:TypeId} {x y:Operand} {ti:TI} {k i:Nat} {cs cs' nw:List SV} {sv:SV} (ho:o.op= .store t x y) (hx:EvOK fr x (.ptr k 1 i 0))
  (hy:EvOK fr y sv) (hf:find hp k=some ⟨ty,true,.one cs⟩) (ht:TOK P t ti) (hc:comps sv=some nw) (hw:SV.widthL nw=ti.size) (hle:i+ti.size≤SV.widthL cs) (hp':put 64 cs i ti.size nw=some cs')
  (hK:K .any [(k,⟨ty,true,.one cs⟩)] [] [(k,⟨ty,true,.one cs'⟩)]):
  ∃c fk new upd,OpOK P o fr fk c new upd∧(∀j b,(j,b)∈fk→find hp j=some b)∧(∀j b,(j,b)∈new→find hp j=none)∧(∀j b,(j,b)∈upd→∃b0,(j,b0)∈fk∧b0.wr=true∧b0.data.live=true∧b.wr=true)∧K c fk new upd:=
 ⟨.any,_,[],_,op_store (ob:=none) (i:=0) (s:=1) ho (fun ρ a h=>ptr1_has (hx ρ a h)) hy ht (List.mem_singleton.2 rfl) rfl trivial hc hw hle hp' rfl,one_fk hf,nil_new,one_upd (List.mem_singleton.2 rfl) rfl rfl rfl,hK⟩
end
end Go.Sx
namespace Go.Proofs.YtfjhnollamkdcaaGreatDoor
open Go.Sx
set_option linter.unusedSimpArgs false
set_option linter.unusedVariables false
set_option maxRecDepth 100000
set_option maxHeartbeats 40000000
abbrev wkC (r m p:Nat) (d:Rat):List SV:=[.slc 1002 1 0 r,iv m,.slc 1003 1 0 p,.frac d]
abbrev wkB (b:Bool) (r m p:Nat) (d:Rat):Blk:=⟨176,b,.one (wkC r m p d)⟩
abbrev rkB (b:Bool) (l:List SV):Blk:=⟨28,b,.one l⟩
abbrev rk (i c:Nat):SV:=.slc (1010+i) 5 0 c
abbrev pvB (b:Bool) (l:List Int):Blk:=⟨3,b,.ints .i64 l⟩
abbrev rwB (b:Bool) (l:List Rat):Blk:=⟨49,b,.fracs l⟩
abbrev cellsE (r c:Nat):List SV:=(List.range r).map fun i=>rk i c
def rowsE (b:Nat→Bool) (M:Nat→List Rat):Nat→Nat→List (Nat×Blk)
 |0,_=>[]
 |n+1,i=>(1010+i,rwB (b i) (M i))::rowsE b M n (i+1)
abbrev hpE (uW uR uP:Bool) (w:Nat→Bool) (r m c p:Nat) (d:Rat) (pv:List Int) (M:Nat→List Rat):List (Nat×Blk):=
 (1001,wkB uW r m p d)::(1002,rkB uR (cellsE r c))::(1003,pvB uP pv)::rowsE w M r 0
theorem e_swap {r i k:Nat} (m c p:Nat) (d:Rat) (pv:List Int) (M:Nat→List Rat) (hr:r≤6) (hi:i<r) (hk:k<i):
  CallOK Tryz.prog 163 [.ptr 1001 0 0 0,iv i,iv k] (hpE true true false (fun _=>false) r m c p d pv M) (.tup []) []
   [(1001,wkB true r m p (-d)),(1002,rkB true (((cellsE r c).set i (rk k c)).set k (rk i c)))]:=by
 have k1:=c_fNeg d
 obtain rfl|rfl|rfl|rfl|rfl:r=2∨r=3∨r=4∨r=5∨r=6:=by omega
 all_goals obtain rfl|rfl|rfl|rfl|rfl:i=1∨i=2∨i=3∨i=4∨i=5:=by omega
 all_goals first|omega|skip
 all_goals obtain rfl|rfl|rfl|rfl|rfl:k=0∨k=1∨k=2∨k=3∨k=4:=by omega
 all_goals first|omega|skip
 all_goals
  refine callI (Z:=[]) tabOK mixedOK Tryz.func163 rfl (by kernel_rfl) (ShapeOK.of rfl rfl rfl rfl rfl rfl rfl rfl rfl rfl rfl) rfl ?_
  intro W0 w0 ρ0 hE
  conv=>whnf
  (repeat((first|refine step_w1 rfl rfl ?_|refine step_i (by kernel_rfl) ?_|refine step_oA (by first|omega|decide|(simp only[tl0,dlen,List.length_replicate,List.length_set,List.length_map,List.length_zipWith,List.length_take,List.length_append,List.length_cons,List.length_nil];omega)) ?_|refine g_c (by assumption) ?_|refine g_load1 rfl (ev_ok rfl) rfl (tgt rfl) rfl (Nat.succ_ne_zero _) rfl ?_|refine g_store1 rfl (ev_ok rfl) (ev_ok rfl) rfl (tgt rfl) rfl rfl (Nat.le_of_ble_eq_true rfl) rfl ?_);conv=>whnf))
  exact⟨Recast.refl _,get_nil,get_cons rfl (get_cons rfl get_nil)⟩
theorem e_swap0 (i:Int):CallOK Tryz.prog 163 [.ptr 1001 0 0 0,iv i,iv i] [(1001,⟨0,false,.dead⟩)] (.tup []) [] []:=by
 refine callI (Z:=[]) tabOK mixedOK Tryz.func163 rfl (by kernel_rfl) (ShapeOK.of rfl rfl rfl rfl rfl rfl rfl rfl rfl rfl rfl) rfl ?_
 intro W0 w0 ρ0 hE
 conv=>whnf
 (repeat(first|(refine step_w2 rfl rfl ?_;conv=>whnf)|(rw[bne_self_eq_false];conv=>whnf)))
 exact⟨Recast.refl _,get_nil,get_nil⟩
end Go.Proofs.YtfjhnollamkdcaaGreatDoor
namespace Go.Sx
set_option linter.unusedSimpArgs false
set_option linter.unusedVariables false
def pickH (hp:List (Nat×Blk)):List Nat→List (Nat×Blk)
 |[]=>[]
 |k::r=>match find hp k with
  |some b=>(k,b)::pickH hp r
  |none=>pickH hp r
theorem normH_id (hp:List (Nat×Blk)):∀ks,normH (fun k=>k) hp ks=pickH hp ks
 |[]=>rfl
 |k::r=>by
  rw[normH,pickH,normH_id hp r]
  cases find hp k with
  |none=>rfl
  |some b=>simp only[renB_id]
theorem SW_loopE {E:Env} (hE:E.OK) {c:Code} {K:Post'} {fr:List (Nat×SV)} {hp:List (Nat×Blk)} (ts:List Nat) (I:Nat→List (Nat×SV)→List (Nat×Blk)→Prop) (m:Nat)
  (h0:normOK E.fx (fun k=>k) ts E.fx fr hp=true) (hI:I m (normF (fun k=>k) fr ts) (pickH hp E.fx))
  (h:∀m fr hp,I m fr hp→cwp E c (fun e fr' hp'=>match e with
   |.normal=>∃m',m'<m∧normOK E.fx (fun k=>k) ts E.fx fr' hp'=true∧I m' (normF (fun k=>k) fr' ts) (pickH hp' E.fx)
   |e=>K e fr' hp') fr hp):SWx E (.loop c) K fr hp:=by
 refine⟨?_⟩
 refine SW_norm hE (fun k=>k) ts E.fx h0 (SW_loop (fun m fr hp=>∃fr0 hp0,(∀a w,RR E (fn fr hp) a w→RR E (fn fr0 hp0) a w)∧I m fr0 hp0) m ⟨_,_,fun _ _ h=>h,by rw[normH_id];exact hI⟩ ?_)
 rintro m fr hp ⟨fr0,hp0,hw,hI⟩ a w hR
 refine Code.wpIn_mono ?_ (cwp_sound hE c _ fr0 hp0 (h m fr0 hp0 hI) a w (hw a w hR))
 rintro e a' w' ⟨fr',hp',h1,h2⟩
 cases e with
 |normal=>
  obtain⟨m',hlt,hok,hI'⟩:=h1
  rw[←normH_id]at hI'
  exact⟨fr',hp',⟨m',hlt,_,_,fun a w hR=>norm_RR hE hok hR,hI'⟩,h2⟩
 |_=>exact⟨fr',hp',h1,h2⟩
theorem normOK_of {fx:List Nat} {σ:Nat→Nat} {ts ks:List Nat} {fr:List (Nat×SV)} {hp:List (Nat×Blk)} (h1:normOKf ks fr ts=true) (h2:normOKh ks hp ks=true) (h3:(injOK σ ks&&fixOK σ ks fx)=true):normOK fx σ ts ks fr hp=true:=by
 rw[normOK,h1,h2,h3];rfl
theorem normOKh_nil {ks:List Nat} {hp:List (Nat×Blk)}:normOKh ks hp []=true:=rfl
theorem normOKh_cons {ks r:List Nat} {hp:List (Nat×Blk)} {k:Nat} {b:Blk} (h:find hp k=some b) (h1:subN (refsD b.data) ks=true) (h2:normOKh ks hp r=true):normOKh ks hp (k::r)=true:=by
 simp only[normOKh,h,h1,h2,Bool.and_self]
theorem subN_app {l m r:List Nat}:subN (l++m) r=(subN l r&&subN m r):=by
 induction l with
 |nil=>rfl
 |cons x l ih=>simp only[List.cons_append,subN,ih,Bool.and_assoc]
theorem refsB_nil {r:List Nat}:subN (refsB []) r=true:=rfl
theorem refsB_cons {k:Nat} {b:Blk} {l:List (Nat×Blk)} {r:List Nat} (h:subN (refsD b.data) r=true) (h2:subN (refsB l) r=true):subN (refsB ((k,b)::l)) r=true:=by
 rw[refsB,subN_app,h,h2];rfl
theorem sub_mid {A B:List SV} {x:SV} (hx:x.width=1):∀(f:Nat),(∀a∈A,a.width=1)→A.length+1<f→sub f (A++x::B) A.length 1=some [x]:=by
 induction A with
 |nil=>
  intro f _ hf
  match f,hf with
  |f+2,_=>simp[sub,hx]
 |cons a A ih=>
  intro f ha hf
  match f,hf with
  |f+1,hf=>
   have:=ih f (fun b hb=>ha b (List.mem_cons_of_mem _ hb)) (by simp only[List.length_cons]at hf;omega)
   simp only[List.cons_append,List.length_cons,sub,ha a (List.mem_cons_self ..),Nat.add_sub_cancel]
   rw[show Nat.ble 1 (A.length+1)=true from Nat.ble_eq_true_of_le (by omega)]
   exact this
inductive WL:List SV→List SV→Prop
 |refl {l}:WL l l
 |eq {c l m}:WL l m→WL (c::l) (c::m)
 |any {c l m}:c.width=1→WL l m→WL (c::l) (.any::m)
theorem WL.has {ρ:Rho} {l m:List SV} (h:WL l m):∀z,HasZ ρ l z→HasZ ρ m z:=by
 induction h with
 |refl=>exact fun _ h=>h
 |eq _ ih=>
  intro z hz
  simp only[HasZ]at hz ⊢
  obtain⟨x,r,rfl,h1,h2⟩:=hz
  exact⟨x,r,rfl,h1,ih r h2⟩
 |any hw _ ih=>
  intro z hz
  simp only[HasZ]at hz ⊢
  obtain⟨x,r,rfl,h1,h2⟩:=hz
  refine⟨x,r,rfl, ?_,ih r h2⟩
  obtain⟨g1,g2⟩:=HasC.len _ x h1
  rw[hw]at g1
  match x,g1,g2 with
  |[v],_,g2=>simp only[HasC];exact⟨v,rfl,g2 v (List.mem_singleton.2 rfl)⟩
inductive WkBlk:Blk→Blk→Prop
 |dead {b ty}:WkBlk b ⟨ty,false,.dead⟩
 |same {ty wr wr' d}:(wr'=true→wr=true)→WkBlk ⟨ty,wr,d⟩ ⟨ty,wr',d⟩
 |one {ty wr wr' cs cs'}:(wr'=true→wr=true)→WL cs cs'→WkBlk ⟨ty,wr,.one cs⟩ ⟨ty,wr',.one cs'⟩
theorem ff_imp {p:Prop} (h:false=true):p:=by cases h
theorem WkBlk.ok {b b':Blk} (h:WkBlk b b') {ρ:Rho} {w:World} {k:Nat} (hb:BlkOK ρ w k b):BlkOK ρ w k b':=by
 cases h with
 |dead=>exact .inl rfl
 |same=>exact hb
 |one _ hl=>
  rcases hb with h|⟨b,t,vs,ex,h1,h2,⟨z,h3,h4⟩,h5⟩|⟨h1,h2⟩
  ·cases h
  ·exact .inr (.inl ⟨b,t,vs,ex,h1,h2,⟨z,hl.has z h3,h4⟩,h5⟩)
  ·exact .inr (.inr ⟨h1,h2⟩)
theorem WkBlk.live {b b':Blk} (h:WkBlk b b') (hl:b'.data.live=true):b.data.live=true∧(b'.wr=true→b.wr=true):=by
 cases h with
 |dead=>cases hl
 |same g=>exact⟨hl,g⟩
 |one g _=>exact⟨rfl,g⟩
def fkOf (hp:List (Nat×Blk)):List (Nat×Blk)→List (Nat×Blk)
 |[]=>[]
 |(k,_)::r=>match find hp k with
  |some b=>(k,b)::fkOf hp r
  |none=>fkOf hp r
theorem fkOf_mem {hp:List (Nat×Blk)}:∀{l:List (Nat×Blk)} (j:Nat) (b:Blk),(j,b)∈fkOf hp l→find hp j=some b
 |(k,_)::r,j,b,hm=>by
  rw[fkOf]at hm
  cases hf:find hp k with
  |none=>rw[hf]at hm;exact fkOf_mem j b hm
  |some c=>
   rw[hf]at hm
   rcases List.mem_cons.1 hm with e|e
   ·cases e;exact hf
   ·exact fkOf_mem j b e
inductive WkH (hp:List (Nat×Blk)):List (Nat×Blk)→Prop
 |nil:WkH hp []
 |cons {k b b' l}:find hp k=some b→WkBlk b b'→WkH hp l→WkH hp ((k,b')::l)
theorem WkH.mem {hp l:List (Nat×Blk)} (h:WkH hp l):∀k b',(k,b')∈l→∃b,(k,b)∈fkOf hp l∧WkBlk b b':=by
 induction h with
 |nil=>intro _ _ h;cases h
 |cons hf hw _ ih=>
  intro j b' hm
  rw[fkOf,hf]
  rcases List.mem_cons.1 hm with e|e
  ·cases e;exact⟨_,List.mem_cons_self ..,hw⟩
  ·obtain⟨c,h1,h2⟩:=ih j b' e
   exact⟨c,List.mem_cons_of_mem _ h1,h2⟩
theorem PreW.view {hp l new:List (Nat×Blk)} {ρ:Rho} {w:World} (h:WkH hp l) (hp':PreW (fkOf hp l) new ρ w):PreW l new ρ w:=by
 refine⟨fun k b hk=> ?_,fun k k' x x' b b' hk hk' e1 e2 e3 e4 e5 e6=> ?_,hp'.imm,fun k b x hk hw hl hx=> ?_,hp'.fresh⟩
 ·obtain⟨c,h1,h2⟩:=h.mem k b hk
  exact h2.ok (hp'.hfk k c h1)
 ·obtain⟨c,h1,h2⟩:=h.mem k b hk
  obtain⟨c',h1',h2'⟩:=h.mem k' b' hk'
  have:=hp'.sep k k' x x' c c' h1 h1' e1 e2 e3 e4 (h2.live e5).1 (h2'.live e6).1
  cases hb:b.wr with
  |false=>rfl
  |true=>rw[(h2.live e5).2 hb]at this;cases this
 ·obtain⟨c,h1,h2⟩:=h.mem k b hk
  exact hp'.immw k c x h1 ((h2.live hl).2 hw) (h2.live hl).1 hx
section
variable {P:Program} {f:FuncId} {args:List SV} {c:SV} {hp:List (Nat×Blk)}
theorem g_cv {k:SV→List (Nat×Blk)→List (Nat×Blk)→List (Nat×Blk)→Prop} {l upd:List (Nat×Blk)} (h:CallOK P f args l c [] upd) (hw:WkH hp l) (hu:UpdOK (fkOf hp l) upd) (hk:k c (fkOf hp l) [] upd):
  ∃fk c new upd,CallOK P f args fk c new upd∧FkOK hp fk∧NewOK hp new∧UpdOK fk upd∧k c fk new upd:=
 ⟨fkOf hp l,c,[],upd,CallOK.weak h fun _ _=>PreW.view hw,fkOf_mem,nil_new,hu,hk⟩
end
theorem updB_spec {fk upd:List (Nat×Blk)} (h:updKB fk upd=true) (hw:(upd.all fun x=>x.2.wr)=true):UpdOK fk upd:=fun j b hm=>by
 obtain⟨b0,h1,h2,h3⟩:=updKB_spec h j b hm
 exact⟨b0,h1,h2,h3,List.all_eq_true.1 hw _ hm⟩
def inj1 (σ:Nat→Nat) (k:Nat):List Nat→Bool
 |[]=>true
 |j::r=>(Nat.beq j k|| !(Nat.beq (σ k) (σ j)))&&inj1 σ k r
theorem inj1_spec {σ:Nat→Nat} {k:Nat}:∀{l:List Nat},inj1 σ k l=true→∀j∈l,k≠j→σ k≠σ j
 |i::r,h,j,hj,hne=>by
  simp only[inj1,Bool.and_eq_true,Bool.or_eq_true,Bool.not_eq_true']at h
  rcases List.mem_cons.1 hj with rfl|hj
  ·rcases h.1 with g|g
   ·exact absurd (Nat.eq_of_beq_eq_true g).symm hne
   ·intro e;rw[e]at g;simp at g
  ·exact inj1_spec h.2 j hj hne
def namesB (σ:Nat→Nat) (ks:List Nat):List (Nat×Blk)→Bool
 |[]=>true
 |(k,b)::r=>(!b.wr||inj1 σ k ks)&&namesB σ ks r
theorem namesB_spec {σ:Nat→Nat} {ks:List Nat}:∀{l:List (Nat×Blk)},namesB σ ks l=true→∀q b,(q,b)∈l→b.wr=true→∀j∈ks,q≠j→σ q≠σ j
 |(k,b)::r,h,q,c,hm,hw,j,hj,hne=>by
  simp only[namesB,Bool.and_eq_true,Bool.or_eq_true,Bool.not_eq_true']at h
  rcases List.mem_cons.1 hm with e|e
  ·cases e
   rcases h.1 with g|g
   ·rw[hw]at g;cases g
   ·exact inj1_spec g j hj hne
  ·exact namesB_spec h.2 q c e hw j hj hne
theorem NamesOK.of {fk:List (Nat×Blk)} {σ:Nat→Nat} (h:namesB σ (keysOf fk) fk=true):NamesOK fk [] σ:=
 ⟨fun q q' b b' hq hq' hne hw=>namesB_spec h q b hq hw q' (keysOf_mem.2 ⟨b',hq'⟩) hne,(fun _ _ h=>by cases h),fun _ _ h=>by cases h⟩
end Go.Sx
namespace Go.Proofs.YtfjhnollamkdcaaGreatDoor
open Go.Sx
set_option linter.unusedSimpArgs false
set_option linter.unusedVariables false
set_option maxRecDepth 100000
set_option maxHeartbeats 40000000
theorem set_at {l:List Rat} {j:Nat} {x:Rat} (h:j<l.length):(l.set j x).getD j 0=x:=by simp[List.getD_eq_getElem?_getD,h]
theorem set_off {l:List Rat} {j k:Nat} {x:Rat} (h:k≠j):(l.set j x).getD k 0=l.getD k 0:=by simp[List.getD_eq_getElem?_getD,List.getElem?_set_ne (Ne.symm h)]
theorem range_ext {o:List Rat} {n:Nat} {F:Nat→Rat} (hl:o.length=n) (h:∀k,k<n→o.getD k 0=F k):o=(List.range n).map F:=by
 refine List.ext_getElem (by simp[hl]) fun k h1 h2=> ?_
 have:=h k (by omega)
 rw[List.getD_eq_getElem?_getD,List.getElem?_eq_getElem h1]at this
 simpa using this
abbrev wvB (r m:Nat) (d:Rat):Blk:=⟨176,false,.one [.slc 1002 1 0 r,iv m,.any,.frac d]⟩
abbrev qB (q:Rat):Blk:=⟨49,false,.one [.frac q]⟩
abbrev mid (A B:List SV) (n:Nat):List SV:=A++ .slc 1010 5 0 n::B
theorem e_each1 {r i:Nat} (A B:List SV) (m c:Nat) (d q:Rat) (x:List Rat) (F:Nat→Rat) (g:FuncId) (hi:A.length=i) (hA:∀a∈A,a.width=1) (hr:r≤40) (hir:i<r) (hc:c≤4096) (hx:x.length=c)
  (hR:subN (refsL (mid A B c)) [1001,1002,1006,1010]=true)
  (hf:∀k,k<c→CallOK Tryz.prog g ([]++([iv (k:Nat),.frac (x.getD k 0)]++[.ptr 1006 0 0 0])) [(1006,qB q)] (.frac (F k)) [] []) (σ:Nat→Nat) (hσ:NamesOK [(1001,wvB r m d),(1002,rkB false (mid A B c)),(1006,qB q),(1010,rwB true x)] [] σ):
  CallOK Tryz.prog 198 (renL σ [.ptr 1001 0 0 0,iv i,.clo g [] [.ptr 1006 0 0 0]]) (renH σ [(1001,wvB r m d),(1002,rkB false (mid A B c)),(1006,qB q),(1010,rwB true x)]) (renS σ (.tup [])) (renH σ []) (renH σ [(1010,rwB true ((List.range c).map F))]):=by
 refine callK (Z:=[]) tabOK mixedOK Tryz.func198 rfl (by kernel_rfl) (ShapeOK.of rfl (by exact refsB_cons rfl (refsB_cons hR (refsB_cons rfl (refsB_cons rfl refsB_nil)))) rfl rfl rfl rfl rfl rfl rfl rfl rfl) rfl σ hσ ?_
 intro W0 w0 ρ0 hE
 have hs:sub 64 (mid A B c) A.length 1=some [.slc 1010 5 0 c]:=sub_mid rfl 64 hA (by omega)
 obtain⟨AA,hAA⟩:∃X,X=A:=⟨A,rfl⟩
 rcases A with _|⟨a,A⟩
 all_goals
  subst hi
  conv=>whnf
  (repeat((first|refine step_oA (by first|omega|decide|(simp only[tl0,dlen,List.length_replicate,List.length_set,List.length_map,List.length_zipWith,List.length_take,List.length_append,List.length_cons,List.length_nil];omega)) ?_|refine g_load1 rfl (ev_ok rfl) rfl (tgt rfl) hs (Nat.succ_ne_zero _) rfl ?_|rw[Int.toNat_natCast]|rw[Nat.zero_add]);conv=>whnf))
  refine SW_loopE hE [0,1,2,14,15,16] (fun m' fr hp=>∃(j:Nat) (o:List Rat),m'=c - j∧j≤c∧o.length=c∧(∀k,k<j→o.getD k 0=F k)∧(∀k,j≤k→o.getD k 0=x.getD k 0)∧
   fr=[(0,.ptr 1001 0 0 0),(1,iv AA.length),(2,.clo g [] [.ptr 1006 0 0 0]),(14,.slc 1010 5 0 c),(15,iv c),(16,iv (j:Nat))]∧hp=[(1001,wvB r m d),(1002,rkB false (mid AA B c)),(1006,qB q),(1010,rwB true o)]) c ?_ ?_ ?_
  ·exact normOK_of (by kernel_rfl) (by exact normOKh_cons rfl rfl (normOKh_cons rfl hR (normOKh_cons rfl rfl (normOKh_cons rfl rfl normOKh_nil)))) (by kernel_rfl)
  ·exact⟨0,x,rfl,Nat.zero_le _,hx,fun k h=>by omega,fun k _=>rfl,by subst hAA;rfl,by subst hAA;rfl⟩
  rintro m _ _ ⟨j,o,rfl,hj,hl,ho,hu,rfl,rfl⟩
  subst hAA
  conv=>whnf
  by_cases hlt:j<c
  ·have t1:=dlt hlt
   have t2:=winc (i:=j) (by omega)
   have hk:=hf j hlt
   rw[←hu j (Nat.le_refl _)]at hk
   (repeat((first|refine step_i (by kernel_rfl) ?_|refine step_oL (by first|omega|decide|(simp only[tl0,dlen,List.length_replicate,List.length_set,List.length_map,List.length_zipWith,List.length_take,List.length_append,List.length_cons,List.length_nil];omega)) ?_|refine step_oA (by first|omega|decide|(simp only[tl0,dlen,List.length_replicate,List.length_set,List.length_map,List.length_zipWith,List.length_take,List.length_append,List.length_cons,List.length_nil];omega)) ?_|refine g_c1 (by assumption) rfl ?_|refine tst_tt t1 ?_|refine g_load1 rfl (ev_ok rfl) rfl (tgt rfl) hs (Nat.succ_ne_zero _) rfl ?_|rw[t1]|rw[t2]|rw[Int.toNat_natCast]|rw[Nat.zero_add]);conv=>whnf))
   refine⟨c - (j+1),by omega,normOK_of (by kernel_rfl) (by exact normOKh_cons rfl rfl (normOKh_cons rfl hR (normOKh_cons rfl rfl (normOKh_cons rfl rfl normOKh_nil)))) (by kernel_rfl),j+1,o.set j (F j),rfl,hlt,by rw[List.length_set];exact hl, ?_, ?_,rfl,rfl⟩
   ·intro k h
    by_cases e:k=j
    ·rw[e,set_at (by omega)]
    ·rw[set_off e];exact ho k (by omega)
   ·intro k h
    rw[set_off (by omega)];exact hu k (by omega)
  ·have t1:=dge hlt
   obtain rfl:j=c:=by omega
   have hx:=range_ext hl ho
   (repeat(first|(refine tst_ff t1 ?_;conv=>whnf)))
   exact⟨Recast.refl _,get_nil,get_cons (by rw[←hx];rfl) get_nil⟩
end Go.Proofs.YtfjhnollamkdcaaGreatDoor
namespace Go.Proofs.YtfjhnollamkdcaaGreatDoor
open Go.Sx
set_option linter.unusedSimpArgs false
set_option linter.unusedVariables false
set_option maxRecDepth 100000
set_option maxHeartbeats 40000000
theorem len_szH {n:Nat} (h:sz n≤4398046511104):(wInts n).length<274877906944:=by
 have:=wlen_sz (n:=n) (M:=137438953472) (by omega)
 omega
theorem natHuge:NatOK 4398046511104 where
 big:=by decide
 cmp a b ha hb:=c_Cmp a b (by have:=len_szH ha;omega) (by have:=len_szH hb;omega)
 add a b h:=n_Add a b (by have:=len_szH (n:=a) (Nat.le_trans (sz_mono (by omega)) h);omega) (by have:=len_szH (n:=b) (Nat.le_trans (sz_mono (by omega)) h);omega)
 sub a b ha h:=n_Sub a b (by have:=len_szH ha;omega) h
 subF a b hb h:=c_SubF a b (by have:=len_szH hb;have:=len_le_of (Nat.lt_trans h (lt_of_len b));omega) (by have:=len_szH hb;omega) h
 mul a b h:=n_Mul a b (len_szH (by omega)) (len_szH (by omega))
 div a b ha hb h0:=c_Div a b (len_szH ha) (len_szH hb) h0
 divZ a:=c_DivZ a
 gcd a b ha hb:=c_Gcd a b (len_szH ha) (len_szH hb)
theorem x_Add (a b:Rat) (h:fs a+fs b≤4398046511104):CallOK Tryz.prog 37 [.frac a,.frac b] [] (.frac (a+b)) [] []:=c_fAdd natHuge a b (by unfold fs at h;omega)
theorem x_Mul (a b:Rat) (h:fs a+fs b≤4398046511104):CallOK Tryz.prog 32 [.frac a,.frac b] [] (.frac (a*b)) [] []:=c_fMul natHuge a b (by unfold fs at h;omega)
theorem x_Div (a b:Rat) (hb:b≠0) (h:fs a+fs b≤4398046511104):CallOK Tryz.prog 36 [.frac a,.frac b] [] (.tup [.frac (a/b),.val (.int .i64 0)]) [] []:=c_fDiv natHuge a b hb (by unfold fs at h;omega)
theorem x_Sub (a b:Rat) (h:fs a+fs b≤4398046511104):CallOK Tryz.prog 34 [.frac a,.frac b] [] (.frac (a - b)) [] []:=by
 have k1:=c_fNeg b
 have k2:=x_Add a (-b) (by rw[fs_neg];exact h)
 rw[←Rat.sub_eq_add_neg]at k2
 refine callV (Z:=[]) tabOK mixedOK Tryz.func34 rfl (by kernel_rfl) rfl rfl (by kernel_rfl) rfl ?_
 intro W0 w0 ρ0 hE
 conv=>whnf
 (repeat(first|(refine step_i (by kernel_rfl) ?_;conv=>whnf)|(refine g_c (by assumption) ?_;conv=>whnf)));(first|exact Recast.refl _|exact Frz.recast (Recast.refl _) rfl|(refine Frz.one rfl rfl ?_;skip)|(refine Frz.tup ?_;skip))
theorem e_clear1 (k:Int) (x q:Rat) (hq:q≠0) (h:fs x+fs q≤4398046511104):CallOK Tryz.prog 199 ([]++([iv k,.frac x]++[.ptr 1006 0 0 0])) [(1006,qB q)] (.frac (x/q)) [] []:=by
 have k1:=x_Div x q hq h
 refine callI (Z:=[]) tabOK mixedOK Tryz.func199 rfl (by kernel_rfl) (ShapeOK.of rfl rfl rfl rfl rfl rfl rfl rfl rfl rfl rfl) rfl ?_
 intro W0 w0 ρ0 hE
 conv=>whnf
 (repeat(first|(refine g_c (by assumption) ?_;conv=>whnf)))
 exact⟨Recast.refl _,get_nil,get_nil⟩
abbrev wbB:Blk:=⟨163,false,.one [.ptr 1001 0 0 0]⟩
abbrev mid2 (C D:List SV) (n:Nat):List SV:=C++ .slc 1011 5 0 n::D
theorem e_clear2 {r top k:Nat} (C D:List SV) (m c A:Nat) (d x q:Rat) (T o:List Rat) (hi:C.length=top) (hC:∀a∈C,a.width=1) (hr:r≤40) (ht:top<r) (hk:k<c) (hT:T.length=c)
  (hR:subN (refsL (mid2 C D c)) [1006,1005,1001,1002,1011,1010]=true) (hx:fs x≤A) (hq:fs q≤A) (hn:fs (T.getD k 0)≤2*A) (hA:4*A≤4398046511104):
  CallOK Tryz.prog 200 ([]++([iv (k:Nat),.frac x]++[.ptr 1006 0 0 0,.ptr 1005 0 0 0,ptrA [iv top]])) [(1006,qB q),(1005,wbB),(1001,wvB r m d),(1002,rkB false (mid2 C D c)),(1011,rwB false T),(1010,rwB false o)] (.frac (x - q*T.getD k 0)) [] []:=by
 have k1:=x_Mul q (T.getD k 0) (by omega)
 have k2:=x_Sub x (q*T.getD k 0) (by have:=fs_mul q (T.getD k 0);omega)
 refine callI (Z:=[]) tabOK mixedOK Tryz.func200 rfl (by kernel_rfl) (ShapeOK.of rfl (by exact refsB_cons rfl (refsB_cons rfl (refsB_cons rfl (refsB_cons hR (refsB_cons rfl (refsB_cons rfl refsB_nil)))))) rfl rfl rfl rfl rfl rfl rfl rfl rfl) rfl ?_
 intro W0 w0 ρ0 hE
 have hs:sub 64 (mid2 C D c) C.length 1=some [.slc 1011 5 0 c]:=sub_mid rfl 64 hC (by omega)
 rcases C with _|⟨a,C⟩
 all_goals
  subst hi
  conv=>whnf
  (repeat((first|refine step_i (by kernel_rfl) ?_|refine step_oL (by first|omega|decide|(simp only[tl0,dlen,List.length_replicate,List.length_set,List.length_map,List.length_zipWith,List.length_take,List.length_append,List.length_cons,List.length_nil];omega)) ?_|refine step_oA (by first|omega|decide|(simp only[tl0,dlen,List.length_replicate,List.length_set,List.length_map,List.length_zipWith,List.length_take,List.length_append,List.length_cons,List.length_nil];omega)) ?_|refine g_c (by assumption) ?_|refine g_o (op_loadA rfl (ev_ok rfl) (tgt rfl) rfl (Nat.succ_ne_zero _) rfl) ?_|refine g_load1 rfl (ev_ok rfl) rfl (tgt rfl) hs (Nat.succ_ne_zero _) rfl ?_|rw[Int.toNat_natCast]|rw[Nat.zero_add]);conv=>whnf))
  exact⟨Recast.refl _,get_nil,get_nil⟩
end Go.Proofs.YtfjhnollamkdcaaGreatDoor
namespace Go.Proofs.YtfjhnollamkdcaaGreatDoor
open Go.Sx
set_option linter.unusedSimpArgs false
set_option linter.unusedVariables false
set_option maxRecDepth 100000
set_option maxHeartbeats 4000000
variable {M:Nat}
theorem c_fFrom (ok:NatOK M) (n:Int) (d:Nat) (h1:sz n.natAbs≤M) (h2:sz d≤M) (hd:d≠0):CallOK Tryz.prog 90 [.int n,.nat d] [] (.tup [.frac (mkRat n d),.val (.int .i64 0)]) [] []:=by
 have k1:=c_lowest ok n d h1 h2 hd
 refine callV (Z:=[]) tabOK mixedOK Tryz.func90 rfl (by kernel_rfl) rfl rfl (by kernel_rfl) rfl ?_
 intro W0 w0 ρ0 hE
 conv=>whnf
 skip
 refine⟨_,op_eqAgg tabOK goodOK rfl (ev_ok rfl) (ev_ok rfl) rfl rfl rfl rfl (eqTy_nat d 0) guard_nat, ?_⟩
 rw[decide_eq_false hd]
 conv=>whnf
 (repeat(first|(refine step_w2 rfl rfl ?_;conv=>whnf)|(refine g_c (by assumption) ?_;conv=>whnf)));exact Recast.refl _
abbrev zV:Bool×List Int→SV:=ag2 bel (ivec .u32)
abbrev gV:(Bool×List Int)×List Int→SV:=ag2 zV (ivec .u32)
structure Words (M:Nat) (xs:List Int):Prop where
 w32:W32 xs
 len:xs.length<1099511627776
 fit:32*xs.length+33≤M
end Go.Proofs.YtfjhnollamkdcaaGreatDoor
namespace Go.Proofs.YtfjhnollamkdcaaGreatDoor
open Go.Sx
set_option linter.unusedSimpArgs false
set_option linter.unusedVariables false
set_option maxRecDepth 100000
set_option maxHeartbeats 40000000
theorem iand_i64 {x y:Nat} (hx:x<4611686018427387904) (hy:y<4611686018427387904):iand .i64 x y=((x&&& y:Nat):Int):=by
 have:x&&& y<4611686018427387904:=Nat.lt_of_le_of_lt Nat.and_le_left hx
 show IntKind.i64.wrap (((BitVec.ofInt 64 x&&& BitVec.ofInt 64 y).toNat:Nat):Int)=_
 rw[BitVec.toNat_and,BitVec.ofInt_natCast,BitVec.ofInt_natCast,BitVec.toNat_ofNat,BitVec.toNat_ofNat,Nat.mod_eq_of_lt (a:=x) (by omega),Nat.mod_eq_of_lt (a:=y) (by omega)]
 exact wrap_i64 (by omega) (by omega)
theorem c_Bits12 {N:Nat} (hN:N=1∨N=2):CallOK Tryz.prog 146 [.nat N] [] (iv (N:Nat)) [] []:=by
 rcases hN with rfl|rfl
 ·have k:=c_words_s 1 1001 (by decide)
  rw[show(wInts 1).length=1 from by decide,show wArr 1=[1,0]from by decide]at k
  have kl:CallOK Tryz.prog 190 [.val (.int .u32 1)] [] (.val (.int .i64 1)) [] []:=c_Len32 1 (by decide)
  refine callV (Z:=[1]) tabOK mixedOK Tryz.func146 rfl (by kernel_rfl) rfl rfl (by kernel_rfl) rfl ?_
  intro W0 w0 ρ0 hE
  conv=>whnf
  (repeat((first|refine step_w2 rfl rfl ?_|refine step_oL (by first|omega|decide|(simp only[tl0,dlen,List.length_replicate,List.length_set,List.length_map,List.length_zipWith,List.length_take,List.length_append,List.length_cons,List.length_nil];omega)) ?_|refine step_oA (by first|omega|decide|(simp only[tl0,dlen,List.length_replicate,List.length_set,List.length_map,List.length_zipWith,List.length_take,List.length_append,List.length_cons,List.length_nil];omega)) ?_|refine g_c (by assumption) ?_|refine g_cn (by assumption) rfl ?_|refine g_o (op_loadA rfl (ev_ok rfl) (tgt rfl) rfl (Nat.succ_ne_zero _) rfl) ?_);conv=>whnf));(first|exact Recast.refl _|exact Frz.recast (Recast.refl _) rfl|(refine Frz.one rfl rfl ?_;skip)|(refine Frz.tup ?_;skip))
 ·have k:=c_words_s 2 1001 (by decide)
  rw[show(wInts 2).length=1 from by decide,show wArr 2=[2,0]from by decide]at k
  have kl:CallOK Tryz.prog 190 [.val (.int .u32 2)] [] (.val (.int .i64 2)) [] []:=c_Len32 2 (by decide)
  refine callV (Z:=[1]) tabOK mixedOK Tryz.func146 rfl (by kernel_rfl) rfl rfl (by kernel_rfl) rfl ?_
  intro W0 w0 ρ0 hE
  conv=>whnf
  (repeat((first|refine step_w2 rfl rfl ?_|refine step_oL (by first|omega|decide|(simp only[tl0,dlen,List.length_replicate,List.length_set,List.length_map,List.length_zipWith,List.length_take,List.length_append,List.length_cons,List.length_nil];omega)) ?_|refine step_oA (by first|omega|decide|(simp only[tl0,dlen,List.length_replicate,List.length_set,List.length_map,List.length_zipWith,List.length_take,List.length_append,List.length_cons,List.length_nil];omega)) ?_|refine g_c (by assumption) ?_|refine g_cn (by assumption) rfl ?_|refine g_o (op_loadA rfl (ev_ok rfl) (tgt rfl) rfl (Nat.succ_ne_zero _) rfl) ?_);conv=>whnf));(first|exact Recast.refl _|exact Frz.recast (Recast.refl _) rfl|(refine Frz.one rfl rfl ?_;skip)|(refine Frz.tup ?_;skip))
theorem sz_pow12 {N:Nat} (hN:N=1∨N=2) (e:Nat):sz (N^e)≤e+1:=by
 rcases hN with rfl|rfl
 ·rw[Nat.one_pow];exact Nat.le_trans (Nat.le_of_eq sz_one) (by omega)
 ·exact sz_le.2 (Nat.pow_lt_pow_right (by decide) (by omega))
abbrev nB (n:Nat):Blk:=⟨43,true,.one [.nat n]⟩
theorem c_nPow {N:Nat} (hN:N=1∨N=2) (K:Nat) (hK:K≤120):CallOK Tryz.prog 87 [.nat N,iv (K:Nat)] [] (.tup [.nat (N^K),iv 0]) [] []:=by
 have kb:=c_Bits12 hN
 have t1:decide ((K:Int)<0)=false:=decide_eq_false (by omega)
 have t2:decide ((K:Int)>4096)=false:=decide_eq_false (by omega)
 have w1:IntKind.i64.wrap ((K:Int)*(N:Int))=((K*N:Nat):Int):=by
  rw[←Int.natCast_mul]
  have:K*N≤120*2:=Nat.mul_le_mul hK (by omega)
  exact wrap_i64 (by omega) (by omega)
 have t3:decide (((K*N:Nat):Int)>262144)=false:=decide_eq_false (by
  have:K*N≤120*2:=Nat.mul_le_mul hK (by omega)
  omega)
 have k0:CallOK Tryz.prog 140 [.val (.int .u64 1)] [] (.nat 1) [] []:=c_nOf 1 (by decide)
 have hz:=sz_pow12 hN
 have h1:N^1=N:=Nat.pow_one N
 refine callV (Z:=[]) tabOK mixedOK Tryz.func87 rfl (by kernel_rfl) rfl rfl (by kernel_rfl) rfl ?_
 intro W0 w0 ρ0 hE
 conv=>whnf
 (repeat((first|refine step_w1 rfl rfl ?_|refine step_w2 rfl rfl ?_|refine g_c (by assumption) ?_|refine g_o (op_pickF rfl (ev_ok rfl) (ev_ok rfl)) ?_|refine tst_ff t3 ?_|rw[t1]|rw[t2]|rw[w1]|rw[t3]);conv=>whnf))
 refine SW_loopN hE (fun k=>k) [1,2,4,5,6] [2,4,6] (fun m fr hp=>∃eo en:Nat,eo+en*m=K∧(m≠0→en≤K)∧eo≤K∧m≤K∧fr=[(1,iv (m:Nat)),(2,.ptr 2 0 0 0),(4,.ptr 4 0 0 0),(5,iv 0),(6,.ptr 6 0 0 0)]∧hp=[(2,nB (N^en)),(4,nB 0),(6,nB (N^eo))]) K ?_ ?_ ?_
 ·kernel_rfl
 ·exact⟨0,1,by omega,fun h=>by omega,by omega,by omega,rfl,by rw[h1];rfl⟩
 rintro m _ _ ⟨eo,en,hs,hen,heo,hm,rfl,rfl⟩
 by_cases hm0:m=0
 ·subst hm0
  have t4:decide (((0:Nat):Int)>0)=false:=by decide
  have:eo=K:=by omega
  subst this
  conv=>whnf
  (repeat(first|(refine step_w2 rfl rfl ?_;conv=>whnf)));(first|exact Recast.refl _|exact Frz.recast (Recast.refl _) rfl|(refine Frz.one rfl rfl ?_;skip)|(refine Frz.tup ?_;skip))
 ·have t4:decide ((m:Int)>0)=true:=decide_eq_true (by omega)
  have e1:iand .i64 (m:Int) 1=((m % 2:Nat):Int):=by
   have:=iand_i64 (x:=m) (y:=1) (by omega) (by decide)
   rw[Nat.and_one_is_mod]at this
   exact this
  have e2:ishr .i64 (m:Int) 1=((m/2:Nat):Int):=ishr_nat .i64 (x:=m) (s:=1) (by decide)
  have henK:=hen hm0
  have z1:=hz eo
  have z2:=hz en
  have k1:=natHuge.mul (N^eo) (N^en) (by omega)
  have k2:=natHuge.mul (N^en) (N^en) (by omega)
  rw[←Nat.pow_add]at k1 k2
  have hmd:m=m % 2+2*(m/2):=by omega
  have hmul:en*m=en*(m % 2)+(en+en)*(m/2):=by
   conv=>lhs;rw[hmd,Nat.mul_add,←Nat.mul_assoc,Nat.mul_two]
  by_cases hodd:m % 2=1
  ·have t5:(((m % 2:Nat):Int)==1)=true:=by rw[hodd];rfl
   rw[hodd,Nat.mul_one]at hmul
   by_cases h2:m>1
   ·have t6:decide ((m:Int)>1)=true:=decide_eq_true (by omega)
    have hle:en+en≤K:=by
     have:(en+en)*1≤(en+en)*(m/2):=Nat.mul_le_mul_left _ (by omega)
     omega
    conv=>whnf
    (repeat((first|refine step_oM (by first|omega|decide|(simp only[tl0,dlen,List.length_replicate,List.length_set,List.length_map,List.length_zipWith,List.length_take,List.length_append,List.length_cons,List.length_nil];omega)) ?_|refine g_c (by assumption) ?_|refine tst_tt t4 ?_|refine tst_tt t5 ?_|refine tst_tt t6 ?_|rw[t4]|rw[e1]|rw[t5]|rw[t6]|rw[e2]);conv=>whnf))
    exact⟨m/2,fun k=>k,[1,2,4,5,6],[2,4,6],by omega,by kernel_rfl,eo+en,en+en,by omega,fun _=>hle,by omega,by omega,rfl,rfl⟩
   ·have t6:decide ((m:Int)>1)=false:=decide_eq_false (by omega)
    have hm1:m/2=0:=by omega
    rw[hm1,Nat.mul_zero]at hmul
    conv=>whnf
    (repeat((first|refine step_oM (by first|omega|decide|(simp only[tl0,dlen,List.length_replicate,List.length_set,List.length_map,List.length_zipWith,List.length_take,List.length_append,List.length_cons,List.length_nil];omega)) ?_|refine g_c (by assumption) ?_|refine tst_tt t4 ?_|refine tst_tt t5 ?_|refine tst_ff t6 ?_|rw[t4]|rw[e1]|rw[t5]|rw[t6]|rw[e2]);conv=>whnf))
    exact⟨m/2,fun k=>k,[1,2,4,5,6],[2,4,6],by omega,by kernel_rfl,eo+en,en,by rw[hm1];omega,fun h=>absurd hm1 h,by omega,by omega,rfl,rfl⟩
  ·have t5:(((m % 2:Nat):Int)==1)=false:=by rw[show m % 2=0 by omega];rfl
   rw[show m % 2=0 by omega,Nat.mul_zero]at hmul
   have t6:decide ((m:Int)>1)=true:=decide_eq_true (by omega)
   have hle:en+en≤K:=by
    have:(en+en)*1≤(en+en)*(m/2):=Nat.mul_le_mul_left _ (by omega)
    omega
   conv=>whnf
   (repeat((first|refine step_oM (by first|omega|decide|(simp only[tl0,dlen,List.length_replicate,List.length_set,List.length_map,List.length_zipWith,List.length_take,List.length_append,List.length_cons,List.length_nil];omega)) ?_|refine g_c (by assumption) ?_|refine tst_tt t4 ?_|refine tst_ff t5 ?_|refine tst_tt t6 ?_|rw[t4]|rw[e1]|rw[t5]|rw[t6]|rw[e2]);conv=>whnf))
   exact⟨m/2,fun k=>k,[1,2,4,5,6],[2,4,6],by omega,by kernel_rfl,eo,en+en,by omega,fun _=>hle,by omega,by omega,rfl,rfl⟩
theorem x_Pow2 (K:Nat) (hK:K≤120):CallOK Tryz.prog 30 [.frac 2,iv (K:Nat)] [] (.tup [.frac (2^K),iv 0]) [] []:=by
 have k1:CallOK Tryz.prog 88 [.int 2] [] (.nat 2) [] []:=c_Abs 2
 have k2:=c_nPow (N:=2) (.inr rfl) K hK
 have k3:CallOK Tryz.prog 89 [.frac 2] [] (.nat 1) [] []:=c_den natHuge 2 (by decide+kernel)
 have k4:=c_nPow (N:=1) (.inl rfl) K hK
 rw[Nat.one_pow]at k4
 have k5:CallOK Tryz.prog 46 [.frac 2] [] (iv 1) [] []:=c_fSign 2
 have hz:=sz_pow12 (N:=2) (.inr rfl) K
 have k6:CallOK Tryz.prog 91 [.val (.bool false),.nat (2^K)] [] (.int ((2^K:Nat):Int)) [] []:=c_From false (2^K)
 have k7:=c_fFrom natHuge ((2^K:Nat):Int) 1 (by rw[Int.natAbs_natCast];omega) (by decide) (by decide)
 rw[show mkRat ((2^K:Nat):Int) 1=(2:Rat)^K from by rw[Rat.mkRat_one,Int.natCast_pow,Rat.intCast_pow];rfl]at k7
 have t1:decide ((K:Int)< -4096)=false:=decide_eq_false (by omega)
 have t2:decide ((K:Int)>4096)=false:=decide_eq_false (by omega)
 have t3:decide ((K:Int)<0)=false:=decide_eq_false (by omega)
 generalize (2:Nat)^K=P at*
 generalize (2:Rat)^K=Q at*
 refine callV (Z:=[2]) tabOK mixedOK Tryz.func30 rfl (by kernel_rfl) rfl rfl (by kernel_rfl) rfl ?_
 intro W0 w0 ρ0 hE
 conv=>whnf
 (repeat((first|refine step_w1 rfl rfl ?_|refine step_w2 rfl rfl ?_|refine step_i (by kernel_rfl) ?_|refine g_c (by assumption) ?_|refine g_o (op_pickF rfl (ev_ok rfl) (ev_ok rfl)) ?_|rw[bne_self_eq_false]|refine tst_ff t2 ?_|refine g_o (op_loadA rfl (ev_ok rfl) (tgt rfl) rfl (Nat.succ_ne_zero _) rfl) ?_|refine g_o (op_fieldA rfl (ev_ok rfl) (tgt rfl) rfl rfl (Nat.succ_ne_zero _) rfl) ?_);conv=>whnf));(first|exact Recast.refl _|exact Frz.recast (Recast.refl _) rfl|(refine Frz.one rfl rfl ?_;skip)|(refine Frz.tup ?_;skip))
end Go.Proofs.YtfjhnollamkdcaaGreatDoor
namespace Go.Sx
set_option linter.unusedSimpArgs false
set_option linter.unusedVariables false
section
variable {P:Program} {f:FuncId} {args:List SV} {c:SV} {hp:List (Nat×Blk)}
end
end Go.Sx
namespace Go.Proofs.YtfjhnollamkdcaaGreatDoor
open Go.Sx
set_option linter.unusedSimpArgs false
set_option linter.unusedVariables false
set_option maxRecDepth 100000
set_option maxHeartbeats 40000000
abbrev cap2 (top:Nat):List SV:=[.ptr 1006 0 0 0,.ptr 1005 0 0 0,ptrA [iv top]]
abbrev fk2 (r m c:Nat) (A B:List SV) (d q:Rat) (T x:List Rat) (b:Bool):List (Nat×Blk):=[(1006,qB q),(1005,wbB),(1001,wvB r m d),(1002,rkB false (mid A B c)),(1011,rwB false T),(1010,rwB b x)]
theorem e_each2 {r i top:Nat} (A B:List SV) (m c:Nat) (d q:Rat) (x T:List Rat) (F:Nat→Rat) (g:FuncId) (hi:A.length=i) (hA:∀a∈A,a.width=1) (hr:r≤40) (hir:i<r) (hc:c≤4096) (hx:x.length=c)
  (hR:subN (refsL (mid A B c)) [1006,1005,1001,1002,1011,1010]=true)
  (hf:∀k o,k<c→CallOK Tryz.prog g ([]++([iv (k:Nat),.frac (x.getD k 0)]++cap2 top)) (fk2 r m c A B d q T o false) (.frac (F k)) [] []) (σ:Nat→Nat) (hσ:NamesOK (fk2 r m c A B d q T x true) [] σ):
  CallOK Tryz.prog 198 (renL σ [.ptr 1001 0 0 0,iv i,.clo g [] (cap2 top)]) (renH σ (fk2 r m c A B d q T x true)) (renS σ (.tup [])) (renH σ []) (renH σ [(1010,rwB true ((List.range c).map F))]):=by
 refine callK (Z:=[]) tabOK mixedOK Tryz.func198 rfl (by kernel_rfl) (ShapeOK.of rfl (by exact refsB_cons rfl (refsB_cons rfl (refsB_cons rfl (refsB_cons hR (refsB_cons rfl (refsB_cons rfl refsB_nil)))))) rfl rfl rfl rfl rfl rfl rfl rfl rfl) rfl σ hσ ?_
 intro W0 w0 ρ0 hE
 have hs:sub 64 (mid A B c) A.length 1=some [.slc 1010 5 0 c]:=sub_mid rfl 64 hA (by omega)
 obtain⟨AA,hAA⟩:∃X,X=A:=⟨A,rfl⟩
 rcases A with _|⟨a,A⟩
 all_goals
  subst hi
  conv=>whnf
  (repeat((first|refine step_oA (by first|omega|decide|(simp only[tl0,dlen,List.length_replicate,List.length_set,List.length_map,List.length_zipWith,List.length_take,List.length_append,List.length_cons,List.length_nil];omega)) ?_|refine g_load1 rfl (ev_ok rfl) rfl (tgt rfl) hs (Nat.succ_ne_zero _) rfl ?_|rw[Int.toNat_natCast]|rw[Nat.zero_add]);conv=>whnf))
  refine SW_loopE hE [0,1,2,14,15,16] (fun m' fr hp=>∃(j:Nat) (o:List Rat),m'=c - j∧j≤c∧o.length=c∧(∀k,k<j→o.getD k 0=F k)∧(∀k,j≤k→o.getD k 0=x.getD k 0)∧
   fr=[(0,.ptr 1001 0 0 0),(1,iv AA.length),(2,.clo g [] (cap2 top)),(14,.slc 1010 5 0 c),(15,iv c),(16,iv (j:Nat))]∧hp=fk2 r m c AA B d q T o true) c ?_ ?_ ?_
  ·exact normOK_of (by kernel_rfl) (by exact normOKh_cons rfl rfl (normOKh_cons rfl rfl (normOKh_cons rfl rfl (normOKh_cons rfl hR (normOKh_cons rfl rfl (normOKh_cons rfl rfl normOKh_nil)))))) (by kernel_rfl)
  ·exact⟨0,x,rfl,Nat.zero_le _,hx,fun k h=>by omega,fun k _=>rfl,by subst hAA;rfl,by subst hAA;rfl⟩
  rintro m _ _ ⟨j,o,rfl,hj,hl,ho,hu,rfl,rfl⟩
  subst hAA
  conv=>whnf
  by_cases hlt:j<c
  ·have t1:=dlt hlt
   have t2:=winc (i:=j) (by omega)
   have hk:=fun b=>hf j b hlt
   rw[←hu j (Nat.le_refl _)]at hk
   (repeat((first|refine step_i (by kernel_rfl) ?_|refine step_oL (by first|omega|decide|(simp only[tl0,dlen,List.length_replicate,List.length_set,List.length_map,List.length_zipWith,List.length_take,List.length_append,List.length_cons,List.length_nil];omega)) ?_|refine step_oA (by first|omega|decide|(simp only[tl0,dlen,List.length_replicate,List.length_set,List.length_map,List.length_zipWith,List.length_take,List.length_append,List.length_cons,List.length_nil];omega)) ?_|refine tst_tt t1 ?_|refine g_load1 rfl (ev_ok rfl) rfl (tgt rfl) hs (Nat.succ_ne_zero _) rfl ?_|refine g_cv (hk o) (WkH.cons rfl (.same fun h=>h) (WkH.cons rfl (.same fun h=>h) (WkH.cons rfl (.same fun h=>h) (WkH.cons rfl (.same fun h=>h) (WkH.cons rfl (.same fun h=>h) (WkH.cons rfl (.same ff_imp) .nil)))))) nil_upd ?_|rw[t1]|rw[t2]|rw[Int.toNat_natCast]|rw[Nat.zero_add]);conv=>whnf))
   refine⟨c - (j+1),by omega,normOK_of (by kernel_rfl) (by exact normOKh_cons rfl rfl (normOKh_cons rfl rfl (normOKh_cons rfl rfl (normOKh_cons rfl hR (normOKh_cons rfl rfl (normOKh_cons rfl rfl normOKh_nil)))))) (by kernel_rfl),j+1,o.set j (F j),rfl,hlt,by rw[List.length_set];exact hl, ?_, ?_,rfl,rfl⟩
   ·intro k h
    by_cases e:k=j
    ·rw[e,set_at (by omega)]
    ·rw[set_off e];exact ho k (by omega)
   ·intro k h
    rw[set_off (by omega)];exact hu k (by omega)
  ·have t1:=dge hlt
   obtain rfl:j=c:=by omega
   have hx:=range_ext hl ho
   (repeat(first|(refine tst_ff t1 ?_;conv=>whnf)))
   exact⟨Recast.refl _,get_nil,get_cons (by rw[←hx];rfl) get_nil⟩
end Go.Proofs.YtfjhnollamkdcaaGreatDoor
