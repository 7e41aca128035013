/- The texts Id, Ra, Rb, Rc, Rd, Aa, Re, Rf, Ta, Tb, Tc, Td, Te, Tf, Tg, Rg, Th. -/
import Derived.Shelf.LaysM
import Derived.Shelf.Strconv.Itoa1
import Derived.Shelf.Strconv.Itoa2
import Derived.Lib.Walk
import Derived.Lib.ItoaMem
import Derived.Lib.AppendIntMem
import Derived.WalkKit
import Derived.BigCall
import Derived.BigGuard
import Derived.Test.YtjofnbpcanhfhabGreatDoorQLVecsKnown12
namespace Go.Proofs.YtjofnbpcanhfhabGreatDoor
open Go.Sx
set_option linter.unusedSimpArgs false
set_option linter.unusedVariables false
set_option maxRecDepth 100000
set_option maxHeartbeats 8000000
theorem c_Keeps (c:Int×Int) (la lb:List (Int×Int)) (hc:qOK c) (hoa:∀q∈la,qOK q) (hob:∀q∈lb,qOK q):
  CallOK Tryz.prog 10 [qA c,mvec 2 qA la,mvec 2 qA lb] [] (.val (.bool true)) [] []:=by
 have kw:=l_works
 refine callV (Z:=[3,51,58,60,66]) tabOK mixedOK Tryz.func10 rfl (by kernel_rfl) rfl rfl (by kernel_rfl) rfl ?_
 intro W0 w0 ρ0 hE
 conv=>whnf
 by_cases h1:la.length>12
 ·have t1:Hid (decide ((la.length:Int)>12)=true):=show decide ((la.length:Int)>12)=true from decide_eq_true (by omega)
  (repeat((first|refine step_w1 rfl rfl ?_|refine step_w2 rfl rfl ?_|refine g_c (by assumption) ?_|refine g_o (op_pickT rfl (ev_ok rfl) (ev_ok rfl)) ?_|refine g_o (op_lenM rfl rfl rfl (ev_ok rfl) (tgt rfl) rfl) ?_|rw[t1.out]);conv=>whnf));(first|exact Recast.refl _|exact Frz.recast (Recast.refl _) rfl|(refine Frz.one rfl rfl ?_;skip)|(refine Frz.tup ?_;skip))
 have t1:Hid (decide ((la.length:Int)>12)=false):=show decide ((la.length:Int)>12)=false from decide_eq_false (by omega)
 by_cases h2:lb.length>12
 ·have t2:Hid (decide ((lb.length:Int)>12)=true):=show decide ((lb.length:Int)>12)=true from decide_eq_true (by omega)
  (repeat((first|refine step_w1 rfl rfl ?_|refine g_c (by assumption) ?_|refine g_o (op_pickF rfl (ev_ok rfl) (ev_ok rfl)) ?_|refine g_o (op_lenM rfl rfl rfl (ev_ok rfl) (tgt rfl) rfl) ?_|rw[t1.out]|rw[t2.out]);conv=>whnf));(first|exact Recast.refl _|exact Frz.recast (Recast.refl _) rfl|(refine Frz.one rfl rfl ?_;skip)|(refine Frz.tup ?_;skip))
 have t2:Hid (decide ((lb.length:Int)>12)=false):=show decide ((lb.length:Int)>12)=false from decide_eq_false (by omega)
 have kc:=l_cut la lb (by omega) (by omega)
 generalize hn:min la.length lb.length=n at kc
 have n12:n≤12:=by omega
 have nla:n≤la.length:=by omega
 have nlb:n≤lb.length:=by omega
 have n2:n≤2048:=by omega
 clear hn
 have hx:=len_take (l:=la) nla
 have hy:=len_take (l:=lb) nlb
 have k1:=c_Vt hoa n2
 have k2:=c_Vt hob n2
 have sx:=Sm_take hoa n
 have sy:=Sm_take hob n
 have k3:=c_QOf c hc
 have fp:=fs_qV hc
 generalize qV c=p at*
 generalize (la.take n).map qV=x at*
 generalize (lb.take n).map qV=y at*
 generalize la.take n=a' at*
 generalize lb.take n=b' at*
 have hyx:y.length=x.length:=hy.trans hx.symm
 subst hx
 have o1:=v_AddM x y hyx.symm (by omega) (Fit_Sm sx sy hyx.symm (by decide)) 3001
 have o2:=v_SumM x (by omega) sx 3002
 have o3:=v_MixM p x (by omega) fp sx 3003
 have e1:(if (x.length:Int)<(2:Int)then(x.length:Int)else(2:Int))=((min 2 x.length:Nat):Int):=by split<;>omega
 have o4:=v_PartM x (([0,0]:List Int).take (min 2 x.length)) (by omega) (by simp;omega) (fun i hi=>by
  have:i<2∧i<x.length:=by simp at hi;omega
  have e:(([0,0]:List Int).take (min 2 x.length)).getD i 0=0:=by
   rw[List.getD_eq_getElem?_getD,List.getElem?_take]
   split
   ·rcases Nat.lt_or_ge i 1 with h|h
    ·obtain rfl:i=0:=by omega
     rfl
    ·obtain rfl:i=1:=by omega
     rfl
   ·rfl
  rw[e];omega) 3004
 have o5:=v_Same x x (by omega) (by omega)
 have o6:=v_Same y y (by omega) (by omega)
 rw[decide_eq_true rfl]at o5 o6
 have o7:=v_SameM x (by omega) 3002
 have o8:=c_fInt 77 (by decide) (by decide)
 have o9:=c_fInt 78 (by decide) (by decide)
 have o10:=c_fInt 79 (by decide) (by decide)
 have o11:=c_fInt 80 (by decide) (by decide)
 have l1:(vadd x y).length=x.length:=zip_len rfl hyx
 have l2:(vaxpy p x (List.replicate x.length 0)).length=x.length:=zip_len rfl (by simp)
 have l3:(vpart x (([0,0]:List Int).take (min 2 x.length))).length=(([0,0]:List Int).take (min 2 x.length)).length:=by simp[vpart]
 have l4:(([0,0]:List Int).take (min 2 x.length)).length≤2:=by simp;omega
 (repeat((first|refine step_w1 rfl rfl ?_|refine step_w2 rfl rfl ?_|refine g_c (by assumption) ?_|refine g_o (op_pickF rfl (ev_ok rfl) (ev_ok rfl)) ?_|refine g_o (op_lenM rfl rfl rfl (ev_ok rfl) (tgt rfl) rfl) ?_|rw[t1.out]|rw[t2.out]);conv=>whnf))
 refine SW_loopN hE (fun k=>k) [1,2,3,7,8,9] [] (fun m fr hp=>∃k:Nat,m=2 - k∧k≤2∧fr=[(1,mvec 2 qA a'),(2,mvec 2 qA b'),(3,ptrA [iel .i64 c.1,iel .u32 c.2]),(7,fvec x),(8,fvec y),(9,.val (.int .i64 (k:Nat)))]∧hp=[]) 2 ?_ ?_ ?_
 ·kernel_rfl
 ·exact⟨0,rfl,Nat.zero_le _,rfl,rfl⟩
 rintro m _ _ ⟨k,rfl,hk,rfl,rfl⟩
 conv=>whnf
 by_cases hlt:k<2
 ·have t3:decide ((k:Int)<2)=true:=decide_eq_true (by omega)
  have t4:=winc (i:=k) (by omega)
  have hc1:CallOK Tryz.prog 21 [.agg [iel .i64 c.1,iel .u32 c.2]] [] (.frac p) [] []:=k3
  (repeat((first|refine step_w1 rfl rfl ?_|refine step_w2 rfl rfl ?_|refine g_c (by assumption) ?_|refine g_cn (by assumption) rfl ?_|refine g_c1u (by assumption) rfl rfl ?_|refine g_o (op_pickF rfl (ev_ok rfl) (ev_ok rfl)) ?_|rw[bne_self_eq_false]|refine g_o (op_lenM rfl rfl rfl (ev_ok rfl) (tgt rfl) rfl) ?_|refine g_o (op_loadA rfl (ev_ok rfl) (tgt rfl) rfl (Nat.succ_ne_zero _) rfl) ?_|refine g_o (op_sliceM (f:=iel .i64) (xs:=[0,0]) rfl (ev_ok rfl) (bound_spec rfl) (bound_spec rfl) (.inl rfl) (tgt rfl) rfl (tgt rfl) rfl (by simp;omega)) ?_|rw[t3]|rw[e1]|rw[Int.toNat_natCast]);conv=>whnf))
  generalize hpp:vpart x (([0,0]:List Int).take (min 2 x.length))=pp at*
  generalize hp2:(([0,0]:List Int).take (min 2 x.length)).length=p2 at*
  refine SW_loopN hE (fun k=>k) [1,2,3,7,8,9,10,12,14,16,18] [3001,3002,3003,3004] (fun m fr hp=>∃(i:Nat) (s1 s2 s3:List Rat),m=x.length - i∧i≤x.length∧s1.length=x.length∧s2.length=x.length∧s3.length=x.length∧
   fr=[(1,mvec 2 qA a'),(2,mvec 2 qA b'),(3,ptrA [iel .i64 c.1,iel .u32 c.2]),(7,fvec x),(8,fvec y),(9,.val (.int .i64 (k:Nat))),(10,.slc 3001 5 0 x.length),(12,.slc 3002 5 0 x.length),(14,.slc 3003 5 0 x.length),(16,.slc 3004 5 0 p2),(18,.val (.int .i64 (i:Nat)))]∧
   hp=[(3001,fblk s1),(3002,fblk s2),(3003,fblk s3),(3004,fblk pp)]) x.length ?_ ?_ ?_
  ·kernel_rfl
  ·exact⟨0,_,_,_,rfl,Nat.zero_le _,l1,rfl,l2,rfl,rfl⟩
  rintro m _ _ ⟨i,s1,s2,s3,rfl,hi,g1,g2,g3,rfl,rfl⟩
  conv=>whnf
  by_cases hlt2:i<x.length
  ·have t5:=dlt hlt2
   have t6:=winc (i:=i) (by omega)
   (repeat((first|refine step_w1 rfl rfl ?_|refine And.intro (by first|decide|omega|(simp only[tl0,dlen,List.length_replicate,List.length_set,List.length_map,List.length_zipWith,List.length_take,List.length_append,List.length_cons,List.length_nil];omega)) ?_|refine g_c (by assumption) ?_|refine g_o (op_lenM rfl rfl rfl (ev_ok rfl) (tgt rfl) rfl) ?_|rw[t5]|rw[t6]|rw[Int.toNat_natCast]|rw[Nat.zero_add]);conv=>whnf))
   exact⟨x.length - (i+1),fun k=>k,[1,2,3,7,8,9,10,12,14,16,18],[3001,3002,3003,3004],by omega,by kernel_rfl,i+1,_,_,_,rfl,hlt2,(by rw[List.length_set];exact g1),(by rw[List.length_set];exact g2),(by rw[List.length_set];exact g3),rfl,rfl⟩
  ·have t5:=dge hlt2
   (repeat(first|(refine step_w2 rfl rfl ?_;conv=>whnf)|(refine g_o (op_lenM rfl rfl rfl (ev_ok rfl) (tgt rfl) rfl) ?_;conv=>whnf)|(rw[t5];conv=>whnf)))
   refine SW_loopN hE (fun k=>k) [1,2,3,7,8,9,16,19] [3004] (fun m fr hp=>∃(i:Nat) (s1:List Rat),m=p2 - i∧i≤p2∧s1.length=p2∧
    fr=[(1,mvec 2 qA a'),(2,mvec 2 qA b'),(3,ptrA [iel .i64 c.1,iel .u32 c.2]),(7,fvec x),(8,fvec y),(9,.val (.int .i64 (k:Nat))),(16,.slc 3004 5 0 p2),(19,.val (.int .i64 (i:Nat)))]∧
    hp=[(3004,fblk s1)]) p2 ?_ ?_ ?_
   ·kernel_rfl
   ·exact⟨0,_,rfl,Nat.zero_le _,l3,rfl,rfl⟩
   rintro m _ _ ⟨i,s1,rfl,hi,g1,rfl,rfl⟩
   conv=>whnf
   by_cases hlt3:i<p2
   ·have t7:=dlt hlt3
    have t8:=winc (i:=i) (by omega)
    (repeat((first|refine step_w1 rfl rfl ?_|refine And.intro (by first|decide|omega|(simp only[tl0,dlen,List.length_replicate,List.length_set,List.length_map,List.length_zipWith,List.length_take,List.length_append,List.length_cons,List.length_nil];omega)) ?_|refine g_c (by assumption) ?_|rw[t7]|rw[t8]|rw[Int.toNat_natCast]|rw[Nat.zero_add]);conv=>whnf))
    exact⟨p2 - (i+1),fun k=>k,[1,2,3,7,8,9,16,19],[3004],by omega,by kernel_rfl,i+1,_,rfl,hlt3,(by rw[List.length_set];exact g1),rfl,rfl⟩
   ·have t7:=dge hlt3
    (repeat(first|(refine step_w2 rfl rfl ?_;conv=>whnf)|(rw[t7];conv=>whnf)|(rw[t4];conv=>whnf)))
    exact⟨2 - (k+1),fun k=>k,[1,2,3,7,8,9],[],by omega,by kernel_rfl,k+1,rfl,hlt,rfl,rfl⟩
 ·have t3:decide ((k:Int)<2)=false:=decide_eq_false (by omega)
  (repeat((first|refine step_w1 rfl rfl ?_|refine step_w2 rfl rfl ?_|refine g_c (by assumption) ?_|refine g_o (op_pickT rfl (ev_ok rfl) (ev_ok rfl)) ?_|rw[t3]);conv=>whnf));(first|exact Recast.refl _|exact Frz.recast (Recast.refl _) rfl|(refine Frz.one rfl rfl ?_;skip)|(refine Frz.tup ?_;skip))
theorem law_VecsKeeps (a0:Int×Int) (a1 a2:List (Int×Int)) (w0:((Lit.int .i64 a0.1).wf=true)∧((Lit.int .u32 a0.2).wf=true)) (w1:QWf a1) (w2:QWf a2):
  CallOK Tryz.prog 10 [qA a0,mvec 2 qA a1,mvec 2 qA a2] [] (.val (.bool true)) [] []:=
 c_Keeps a0 a1 a2 (qOK_one w0) (qOK_of w1) (qOK_of w2)
end Go.Proofs.YtjofnbpcanhfhabGreatDoor
namespace Go.Proofs.YtjofnbpcanhfhabGreatDoor
open Go.Sx
set_option linter.unusedSimpArgs false
set_option linter.unusedVariables false
set_option maxRecDepth 100000
set_option maxHeartbeats 4000000
def tdF:Nat→Nat→List Nat
 |0,_=>[]
 |f+1,n=>if n=0 then[]else n % 10000::tdF f (n/10000)
def tdW (n:Nat):List Nat:=tdF n n
theorem tdF_lt:∀(f n w:Nat),w∈tdF f n→w<10000
 |0,_,w,h=>by cases h
 |f+1,n,w,h=>by
  rw[tdF]at h
  split at h
  ·cases h
  ·rcases List.mem_cons.1 h with rfl|h
   ·omega
   ·exact tdF_lt f _ w h
theorem tdW_lt {n w:Nat} (h:w∈tdW n):w<10000:=tdF_lt n n w h
def valT (xs:List Int):Nat→Int
 |0=>0
 |k+1=>valT xs k+xs.getD k 0*10000^k
def W4 (xs:List Int):Prop:=∀i,0≤xs.getD i 0∧xs.getD i 0<10000
theorem W4.set {xs:List Int} (h:W4 xs) {i:Nat} {v:Int} (h0:0≤v) (h1:v<10000):W4 (xs.set i v):=by
 intro j
 rw[getD_set]
 split
 ·exact⟨h0,h1⟩
 ·exact h j
theorem W4_of {xs:List Int} (h:∀x∈xs,0≤x∧x<10000):W4 xs:=by
 intro i
 rw[List.getD_eq_getElem?_getD]
 cases hx:xs[i]? with
 |none=>simp
 |some v=>simpa using h v (List.mem_of_getElem? hx)
theorem W4.mem {xs:List Int} (h:W4 xs):∀x∈xs,0≤x∧x<10000:=by
 intro x hx
 obtain⟨i,hi⟩:=List.getElem?_of_mem hx
 have:=h i
 rw[List.getD_eq_getElem?_getD,hi]at this
 exact this
theorem valT_congr {xs ys:List Int}:∀{k:Nat},(∀i,i<k→xs.getD i 0=ys.getD i 0)→valT xs k=valT ys k
 |0,_=>rfl
 |k+1,h=>by rw[valT,valT,valT_congr (fun i hi=>h i (by omega)),h k (by omega)]
theorem valT_set_ge {xs:List Int} {i k:Nat} {v:Int} (h:k≤i):valT (xs.set i v) k=valT xs k:=
 valT_congr fun j hj=>by rw[getD_set,if_neg (by omega)]
theorem valT_nonneg {xs:List Int} (h:W4 xs):∀k,0≤valT xs k
 |0=>Int.le_refl _
 |k+1=>by
  have:=valT_nonneg h k
  have h1:0≤xs.getD k 0*10000^k:=Int.mul_nonneg (h k).1 (Int.pow_nonneg (by decide))
  rw[valT];omega
theorem powT_pos (k:Nat):(0:Int)<10000^k:=Int.pow_pos (by decide)
theorem valT_lt {xs:List Int} (h:W4 xs):∀k,valT xs k<10000^k
 |0=>by simp[valT]
 |k+1=>by
  have h1:=valT_lt h k
  have h2:xs.getD k 0*10000^k≤9999*10000^k:=Int.mul_le_mul_of_nonneg_right (by have:=(h k).2;omega) (Int.le_of_lt (powT_pos k))
  rw[valT,Int.pow_succ];omega
theorem valT_zeros {xs:List Int} {k:Nat}:∀{n:Nat},(∀i,k≤i→i<n→xs.getD i 0=0)→k≤n→valT xs n=valT xs k
 |0,_,hk=>by obtain rfl:k=0:=by omega
             rfl
 |n+1,h,hk=>by
  by_cases he:k=n+1
  ·subst he;rfl
  ·rw[valT,h n (by omega) (by omega),valT_zeros (n:=n) (fun i h1 h2=>h i h1 (by omega)) (by omega),Int.zero_mul,Int.add_zero]
theorem valT_ge {xs:List Int} (h:W4 xs) {k:Nat} (ht:xs.getD k 0≠0):10000^k≤valT xs (k+1):=by
 have h1:=valT_nonneg h k
 have h2:1*10000^k≤xs.getD k 0*10000^k:=Int.mul_le_mul_of_nonneg_right (by have:=(h k).1;omega) (Int.le_of_lt (powT_pos k))
 rw[valT];omega
theorem tdF_eq:∀(f g n:Nat),n≤f→n≤g→tdF f n=tdF g n
 |0,0,_,_,_=>rfl
 |0,g+1,n,h,_=>by obtain rfl:n=0:=by omega
                  simp[tdF]
 |f+1,0,n,_,h=>by obtain rfl:n=0:=by omega
                  simp[tdF]
 |f+1,g+1,n,h,h'=>by
  unfold tdF
  split
  ·rfl
  ·rw[tdF_eq f g (n/10000) (by omega) (by omega)]
theorem tdW_succ {n:Nat} (h:n≠0):tdW n=n % 10000::tdW (n/10000):=by
 unfold tdW
 obtain⟨m,rfl⟩:∃m,n=m+1:=⟨n - 1,by omega⟩
 rw[tdF,if_neg h,tdF_eq m ((m+1)/10000) _ (by omega) (Nat.le_refl _)]
def td (n:Nat):List Int:=(tdW n).map Int.ofNat
theorem td_zero:td 0=[]:=rfl
theorem td_succ {n:Nat} (h:n≠0):td n=((n % 10000:Nat):Int)::td (n/10000):=by
 rw[td,tdW_succ h];rfl
theorem valT_cons (x:Int) (xs:List Int):∀k,valT (x::xs) (k+1)=x+10000*valT xs k
 |0=>by simp[valT]
 |k+1=>by
  rw[valT,valT_cons x xs k,valT,List.getD_cons_succ,Int.pow_succ]
  grind
theorem td_val (n:Nat):valT (td n) (td n).length=n:=by
 induction n using Nat.strongRecOn with
 |_ n ih=>
  by_cases h:n=0
  ·subst h;rfl
  ·rw[td_succ h,List.length_cons,valT_cons,ih _ (by omega)];omega
theorem td_w32 (n:Nat):W4 (td n):=by
 refine W4_of fun x hx=> ?_
 obtain⟨w,hw,rfl⟩:=List.mem_map.1 hx
 have:=tdW_lt hw
 exact⟨Int.natCast_nonneg _,by show(w:Int)<_;omega⟩
theorem td_top {n:Nat} (h:n≠0):(td n).length≠0∧(td n).getD ((td n).length - 1) 0≠0:=by
 induction n using Nat.strongRecOn with
 |_ n ih=>
  rw[td_succ h]
  refine⟨by simp, ?_⟩
  by_cases h1:n/10000=0
  ·rw[h1,td_zero]
   simp only[List.length_singleton,Nat.sub_self,List.getD_cons_zero]
   omega
  ·obtain⟨h2,h3⟩:=ih _ (by omega) h1
   obtain⟨l,hl⟩:∃l,(td (n/10000)).length=l+1:=⟨(td (n/10000)).length - 1,by omega⟩
   simp only[List.length_cons,hl,Nat.add_sub_cancel,List.getD_cons_succ]
   rw[hl]at h3
   simpa using h3
theorem td_of:∀(k:Nat) (xs:List Int),W4 xs→k≤xs.length→(k=0∨xs.getD (k - 1) 0≠0)→td (valT xs k).toNat=xs.take k
 |0,xs,_,_,_=>by simp[valT,td_zero]
 |k+1,[],_,h,_=>by simp at h
 |k+1,x::xs,hw,h,ht=>by
  have hx:=hw 0
  simp only[List.getD_cons_zero]at hx
  have hws:W4 xs:=fun i=>by have:=hw (i+1);simpa using this
  have hv:=valT_nonneg hws k
  have hrec:=td_of k xs hws (by simpa using h) (by
   cases k with
   |zero=>exact .inl rfl
   |succ k=>right;have:=ht.resolve_left (by omega);simpa using this)
  have hn:(valT (x::xs) (k+1)).toNat≠0:=by
   have ht':=ht.resolve_left (by omega)
   have:=valT_ge hw (k:=k) (by simpa using ht')
   have:=powT_pos k
   omega
  rw[td_succ hn,valT_cons,List.take_succ_cons]
  have e1:(x+10000*valT xs k).toNat % 10000=x.toNat:=by omega
  have e2:(x+10000*valT xs k).toNat/10000=(valT xs k).toNat:=by omega
  rw[e1,e2,hrec]
  congr 1
  omega
theorem natPowT (k:Nat):(((10000^k:Nat)):Int)=(10000:Int)^k:=by rw[Int.natCast_pow];rfl
theorem tlen_le {n k:Nat} (h:n<10000^k):(td n).length≤k:=by
 by_cases hn:n=0
 ·subst hn;simp[td_zero]
 ·obtain⟨h1,h2⟩:=td_top hn
  obtain⟨l,hl⟩:∃l,(td n).length=l+1:=⟨(td n).length - 1,by omega⟩
  rw[hl]at h2
  have h3:=valT_ge (td_w32 n) (k:=l) (by simpa using h2)
  rw[←hl,td_val]at h3
  refine Nat.le_of_not_lt fun hlt=> ?_
  have h4:(10000:Int)^k≤10000^l:=by
   have:(10000:Nat)^k≤10000^l:=Nat.pow_le_pow_right (by decide) (by omega)
   rw[←natPowT,←natPowT];exact Int.ofNat_le.2 this
  have h5:(n:Int)<10000^k:=by rw[←natPowT];exact Int.ofNat_lt.2 h
  omega
theorem tlt_len (n:Nat):n<10000^(td n).length:=by
 have:=valT_lt (td_w32 n) (td n).length
 rw[td_val,←natPowT]at this
 exact Int.ofNat_lt.1 this
theorem valT_mod {xs:List Int} (hx:W4 xs) {n:Nat}:∀{k:Nat},k≤n→valT xs n % 10000^k=valT xs k:=by
 intro k hk
 induction n with
 |zero=>
  obtain rfl:k=0:=by omega
  simp[valT]
 |succ n ih=>
  by_cases he:k=n+1
  ·subst he
   exact Int.emod_eq_of_lt (valT_nonneg hx _) (valT_lt hx _)
  ·rw[valT,show n=k+(n - k)from by omega,Int.pow_add,←show n=k+(n - k)from by omega,Int.mul_left_comm,Int.add_mul_emod_self_left]
   exact ih (by omega)
theorem valT_div {xs:List Int} (hx:W4 xs) {i n:Nat} (h:i<n):valT xs n/10000^i % 10000=xs.getD i 0:=by
 have h1:=valT_mod hx (n:=n) (k:=i+1) (by omega)
 have hp:=powT_pos i
 have e:valT xs n=valT xs (i+1)+10000^(i+1)*(valT xs n/10000^(i+1)):=by
  rw[←h1];exact(Int.emod_add_mul_ediv _ _).symm
 have h0:=valT_nonneg hx i
 have hl:=valT_lt hx i
 have e2:valT xs n=valT xs i+10000^i*(xs.getD i 0+10000*(valT xs n/10000^(i+1))):=by
  conv=>lhs;rw[e]
  rw[valT,Int.pow_succ]
  grind
 rw[e2,Int.add_mul_ediv_left _ _ (by omega),Int.ediv_eq_zero_of_lt h0 hl,Int.zero_add,Int.add_mul_emod_self_left]
 exact Int.emod_eq_of_lt (hx i).1 (hx i).2
theorem valT_set {xs:List Int} {i:Nat} {v:Int}:∀{n:Nat},i<n→i<xs.length→valT (xs.set i v) n=valT xs n+(v - xs.getD i 0)*10000^i
 |0,h,_=>by omega
 |n+1,h,hl=>by
  by_cases he:i=n
  ·subst he
   rw[valT,valT,valT_set_ge (Nat.le_refl _),getD_set,if_pos ⟨rfl,hl⟩];grind
  ·rw[valT,valT,valT_set (n:=n) (by omega) hl,getD_set,if_neg (by omega)];grind
abbrev nN (n:Nat):SV:=ivec .i64 (td n)
theorem td_is {x:List Int} (hw:W4 x) (h:x.length=0∨x.getD (x.length - 1) 0≠0):td (valT x x.length).toNat=x:=by
 rw[td_of x.length x hw (Nat.le_refl _) h,List.take_length]
theorem td_valN (n k:Nat) (h:(td n).length≤k):valT (td n) k=n:=by
 rw[valT_zeros (k:=(td n).length) (fun i h1 _=>getD_ge h1) h,td_val]
theorem valT_take {x:List Int} {k j:Nat} (h:j≤k):valT (x.take k) j=valT x j:=valT_congr fun i hi=>by rw[getD_take,if_pos (by omega)]
theorem W4_take {x:List Int} (h:W4 x) (k:Nat):W4 (x.take k):=by
 intro i;rw[getD_take];split
 ·exact h i
 ·omega
theorem valT_last {x:List Int} (h0:0<x.length) (hz:x.getD (x.length - 1) 0=0):valT (x.take (x.length - 1)) (x.take (x.length - 1)).length=valT x x.length:=by
 have hl:(x.take (x.length - 1)).length=x.length - 1:=by simp
 rw[hl,valT_take (Nat.le_refl _)]
 exact(valT_zeros (k:=x.length - 1) (n:=x.length) (fun i h1 h2=>by
  have:i=x.length - 1:=by omega
  rw[this];exact hz) (by omega)).symm
theorem W4_snoc {x:List Int} (h:W4 x) {d:Int} (h0:0≤d) (h1:d<10000):W4 (x++[d]):=W4_of fun y hy=>by
 rcases List.mem_append.1 hy with hy|hy
 ·exact h.mem y hy
 ·rw[List.mem_singleton.1 hy];exact⟨h0,h1⟩
theorem valT_snoc (x:List Int) (d:Int):valT (x++[d]) (x.length+1)=valT x x.length+d*10000^x.length:=by
 rw[valT,getD_append,if_neg (by omega),Nat.sub_self,valT_congr (ys:=x) (k:=x.length) (fun i hi=>by rw[getD_append,if_pos hi])]
 rfl
theorem td_lt_pow {n k:Nat} (h:(td n).length≤k):n<10000^k:=Nat.lt_of_lt_of_le (tlt_len n) (Nat.pow_le_pow_right (by decide) h)
theorem td_ge_pow {n:Nat} (h:n≠0):10000^((td n).length - 1)≤n:=by
 obtain⟨h1,h2⟩:=td_top h
 have h3:=valT_ge (td_w32 n) h2
 rw[show(td n).length - 1+1=(td n).length by omega,td_val,←natPowT]at h3
 omega
theorem td_len_mono {a b:Nat} (h:a≤b):(td a).length≤(td b).length:=tlen_le (Nat.lt_of_le_of_lt h (tlt_len b))
theorem td_len_lt {a b:Nat} (h:(td a).length<(td b).length):a<b:=by
 rcases Nat.lt_or_ge a b with g|g
 ·exact g
 ·have:=td_len_mono g;omega
theorem td_len_zero {n:Nat}:(td n).length=0↔n=0:=by
 constructor
 ·intro h
  rcases Nat.eq_zero_or_pos n with g|g
  ·exact g
  ·exact absurd h (td_top (by omega)).1
 ·rintro rfl;rfl
theorem td_get (n i:Nat):(td n).getD i 0=((n/10000^i % 10000:Nat):Int):=by
 have h:=td_w32 n
 rcases Nat.lt_or_ge i (td n).length with hi|hi
 ·rw[←valT_div h hi,td_val,Int.natCast_emod,Int.natCast_ediv,natPowT];rfl
 ·rw[getD_ge hi,Nat.div_eq_of_lt (td_lt_pow hi)];rfl
end Go.Proofs.YtjofnbpcanhfhabGreatDoor
namespace Go.Proofs.YtjofnbpcanhfhabGreatDoor
open Go.Sx
set_option linter.unusedSimpArgs false
set_option linter.unusedVariables false
set_option maxRecDepth 100000
set_option maxHeartbeats 4000000
theorem SWx_frzI {E:Env} (t k:Nat) {c:Code} {K:Post'} {fr:List (Nat×SV)} {hp:List (Nat×Blk)} {ty:TypeId} {n:Nat} {kd:IntKind} {xs:List Int} (hW:∀b,¬E.W0 b) (ht:lk fr t=some (.slc k 1 0 n)) (hk:find hp k=some ⟨ty,true,.ints kd xs⟩)
  (hn:n=xs.length) (hs:SWx E c K ((t,ivec kd xs)::fr) (setB hp k ⟨ty,true,.dead⟩)):SWx E c K fr hp:=by
 refine SWx_freeze t k (xs:=xs.map (iel kd)) hW ht hk rfl rfl (keylessL_map (fun _=>rfl) xs) (by simp;omega) ?_
 rw[cutL_all (by simp;omega)]
 exact hs
theorem snoc_end {L:List Int} {i:Nat} {d:Int} (h:L.length=i):List.take i L++List.take 1 (List.drop 0 [d])=L++[d]:=by
 rw[List.take_of_length_le (by omega)];rfl
abbrev zblk (l:List Int):Blk:=⟨3,true,.ints .i64 l⟩
theorem r_trim (l:List Int) (hl:l.length<1099511627776) (h:W4 l):CallOK Tryz.prog 132 [ivec .i64 l] [] (nN (valT l l.length).toNat) [] []:=by
 refine callV (Z:=[]) tabOK mixedOK Tryz.func132 rfl (by kernel_rfl) rfl rfl (by kernel_rfl) rfl ?_
 intro W0 w0 ρ0 hE
 conv=>whnf
 skip
 refine SW_loopN hE (fun k=>k) [0] [] (fun m fr hp=>∃x:List Int,m=x.length∧x.length≤l.length∧W4 x∧valT x x.length=valT l l.length∧fr=[(0,ivec .i64 x)]∧hp=[]) l.length ?_ ?_ ?_
 ·kernel_rfl
 ·exact⟨l,rfl,Nat.le_refl _,h,rfl,rfl,rfl⟩
 rintro m _ _ ⟨x,rfl,hx,hw,hv,rfl,rfl⟩
 conv=>whnf
 by_cases h0:0<x.length
 ·have t1:decide ((x.length:Int)>0)=true:=decide_eq_true (by omega)
  have e1:IntKind.i64.wrap ((x.length:Int) - 1)=((x.length - 1:Nat):Int):=by rw[wrap_i64 (by omega) (by omega)];omega
  by_cases hz:x.getD (x.length - 1) 0=0
  ·have t2:(x.getD (x.length - 1) 0==0)=true:=beq_iff_eq.2 hz
   (repeat((first|refine step_w1 rfl rfl ?_|refine g_o (op_pickT rfl (ev_ok rfl) (ev_ok rfl)) ?_|refine g_o (op_lenM rfl rfl rfl (ev_ok rfl) (tgt rfl) rfl) ?_|refine g_o (op_loadA rfl (ev_ok rfl) (tgt rfl) rfl (Nat.succ_ne_zero _) rfl) ?_|refine g_o (op_indexM (α:=Int) (d:=0) rfl (ev_ok rfl) (ev_ok rfl) (tgt rfl) rfl (tgt rfl) rfl (by omega)) ?_|refine g_o (op_sliceM rfl (ev_ok rfl) (bound_spec rfl) (bound_spec rfl) (.inl rfl) (tgt rfl) rfl (tgt rfl) rfl (by omega)) ?_|rw[t1]|rw[e1]|rw[t2]|rw[Int.toNat_natCast]);conv=>whnf))
   have hl':(x.take (x.length - 1)).length=x.length - 1:=by simp
   exact⟨x.length - 1,fun k=>k,[0],[],by omega,by kernel_rfl,x.take (x.length - 1),hl'.symm,by omega,W4_take hw _,(valT_last h0 hz).trans hv,rfl,rfl⟩
  ·have t2:(x.getD (x.length - 1) 0==0)=false:=beq_false_of_ne hz
   have e:nN (valT l l.length).toNat=ivec .i64 x:=by rw[nN,←hv,td_is hw (.inr hz)]
   rw[e]
   (repeat((first|refine step_w1 rfl rfl ?_|refine step_w2 rfl rfl ?_|refine g_o (op_pickT rfl (ev_ok rfl) (ev_ok rfl)) ?_|refine g_o (op_lenM rfl rfl rfl (ev_ok rfl) (tgt rfl) rfl) ?_|refine g_o (op_loadA rfl (ev_ok rfl) (tgt rfl) rfl (Nat.succ_ne_zero _) rfl) ?_|refine g_o (op_indexM (α:=Int) (d:=0) rfl (ev_ok rfl) (ev_ok rfl) (tgt rfl) rfl (tgt rfl) rfl (by omega)) ?_|rw[t1]|rw[e1]|rw[t2]|rw[Int.toNat_natCast]);conv=>whnf));(first|exact Recast.refl _|exact Frz.recast (Recast.refl _) rfl|(refine Frz.one rfl rfl ?_;skip)|(refine Frz.tup ?_;skip))
 ·have t1:decide ((x.length:Int)>0)=false:=decide_eq_false (by omega)
  have e:nN (valT l l.length).toNat=ivec .i64 x:=by rw[nN,←hv,td_is hw (.inl (by omega))]
  rw[e]
  (repeat((first|refine step_w2 rfl rfl ?_|refine g_o (op_pickF rfl (ev_ok rfl) (ev_ok rfl)) ?_|refine g_o (op_lenM rfl rfl rfl (ev_ok rfl) (tgt rfl) rfl) ?_|rw[t1]);conv=>whnf));(first|exact Recast.refl _|exact Frz.recast (Recast.refl _) rfl|(refine Frz.one rfl rfl ?_;skip)|(refine Frz.tup ?_;skip))
theorem r_Of (n:Nat) (hn:n<18446744073709551616):CallOK Tryz.prog 141 [.val (.int .u64 (n:Nat))] [] (nN n) [] []:=by
 refine callF (Z:=[]) tabOK mixedOK Tryz.func141 rfl (by kernel_rfl) (by first|rfl|(simp[keylessL,keyless,keylessL_map, *];done)) (by first|rfl|(simp[keylessL,keyless,keylessL_map, *];done)) (by kernel_rfl) rfl ?_
 intro w0 ρ0 hE
 conv=>whnf
 skip
 refine SWx_adopt (t:=3) (k:=2001) (s:=1) (blk:=zblk []) rfl rfl rfl ?_
 refine SW_loopS hE (fun k=>k) [0,3] [2001] (fun m fr hp=>∃(v:Nat) (L:List Int),m=v∧v≤n∧td n=L++td v∧L.length≤n∧L.length+v≤n∧fr=[(0,.val (.int .u64 (v:Nat))),(3,.slc 2001 1 0 L.length)]∧hp=[(2001,zblk L)]) n ?_ ?_ ?_
 ·kernel_rfl
 ·exact⟨n,[],rfl,Nat.le_refl _,rfl,Nat.zero_le _,by simp,rfl,rfl⟩
 rintro m _ _ ⟨v,L,rfl,hv,hL,hl,hl2,rfl,rfl⟩
 by_cases h0:0<m
 ·have hlen:L.length<1099511627776:=by
   have:=congrArg List.length hL
   rw[List.length_append]at this
   have h5:(td n).length≤5:=tlen_le (by omega)
   omega
  have t1:decide ((m:Int)>0)=true:=decide_eq_true (by omega)
  have e0:(m:Int).tmod 10000=((m % 10000:Nat):Int):=by rw[Int.tmod_eq_emod_of_nonneg (by omega)];omega
  have e1:IntKind.i64.wrap ((m:Int).tmod 10000)=((m % 10000:Nat):Int):=by rw[e0,wrap_i64 (by omega) (by omega)]
  have e2:(m:Int).tdiv 10000=((m/10000:Nat):Int):=by rw[Int.tdiv_eq_ediv_of_nonneg (by omega)];omega
  have e3:IntKind.u64.wrap ((m:Int).tdiv 10000)=((m/10000:Nat):Int):=by rw[e2,wrap_u64 (by omega) (by omega)]
  refine SWx.of hE ?_
  conv=>whnf
  (repeat((first|refine step_w1 rfl rfl ?_|refine And.intro (by first|decide|omega|(simp only[tl0,dlen,List.length_replicate,List.length_set,List.length_map,List.length_zipWith,List.length_take,List.length_append,List.length_cons,List.length_nil];omega)) ?_|rw[t1]|rw[e1]|rw[e3]);conv=>whnf))
  refine⟨m/10000,renBy [(11,2001)],[0,3],[11],Nat.div_lt_self h0 (by decide),by kernel_rfl,m/10000,L++[((m % 10000:Nat):Int)],rfl,by omega, ?_, ?_, ?_, ?_, ?_⟩
  ·rw[hL,td_succ (by omega),List.append_assoc];rfl
  ·rw[List.length_append];simp;omega
  ·rw[List.length_append];simp;omega
  ·rw[List.length_append];rfl
  ·rw[←snoc_end rfl];rfl
 ·have t1:decide ((m:Int)>0)=false:=decide_eq_false (by omega)
  have hm:m=0:=by omega
  subst hm
  rw[td_zero,List.append_nil]at hL
  refine SWx_frzI 3 2001 (fun _ h=>h) rfl rfl rfl ?_
  refine SWx.of hE ?_
  conv=>whnf
  have e:nN n=ivec .i64 L:=by rw[nN,hL]
  rw[e]
  (repeat(first|(refine step_w2 rfl rfl ?_;conv=>whnf)));(first|exact Recast.refl _|exact Frz.recast (Recast.refl _) rfl|(refine Frz.one rfl rfl ?_;skip)|(refine Frz.tup ?_;skip))
theorem r_at (n i:Nat) (hn:(td n).length<1099511627776):CallOK Tryz.prog 131 [nN n,.val (.int .i64 (i:Nat))] [] (.val (.int .i64 ((td n).getD i 0))) [] []:=by
 refine callV (Z:=[]) tabOK mixedOK Tryz.func131 rfl (by kernel_rfl) rfl rfl (by kernel_rfl) rfl ?_
 intro W0 w0 ρ0 hE
 conv=>whnf
 by_cases h:i<(td n).length
 ·have t1:decide ((i:Int)<((td n).length:Int))=true:=decide_eq_true (by omega)
  (repeat((first|refine step_w1 rfl rfl ?_|refine g_o (op_lenM rfl rfl rfl (ev_ok rfl) (tgt rfl) rfl) ?_|refine g_o (op_loadA rfl (ev_ok rfl) (tgt rfl) rfl (Nat.succ_ne_zero _) rfl) ?_|refine g_o (op_indexN (α:=Int) (d:=0) rfl (ev_ok rfl) (ev_ok rfl) (tgt rfl) rfl (tgt rfl) rfl (by omega)) ?_|rw[t1]);conv=>whnf));(first|exact Recast.refl _|exact Frz.recast (Recast.refl _) rfl|(refine Frz.one rfl rfl ?_;skip)|(refine Frz.tup ?_;skip))
 ·have t1:decide ((i:Int)<((td n).length:Int))=false:=decide_eq_false (by omega)
  rw[getD_ge (by omega)]
  (repeat(first|(refine step_w2 rfl rfl ?_;conv=>whnf)|(refine g_o (op_lenM rfl rfl rfl (ev_ok rfl) (tgt rfl) rfl) ?_;conv=>whnf)|(rw[t1];conv=>whnf)));(first|exact Recast.refl _|exact Frz.recast (Recast.refl _) rfl|(refine Frz.one rfl rfl ?_;skip)|(refine Frz.tup ?_;skip))
end Go.Proofs.YtjofnbpcanhfhabGreatDoor
namespace Go.Proofs.YtjofnbpcanhfhabGreatDoor
open Go.Sx
set_option linter.unusedSimpArgs false
set_option linter.unusedVariables false
set_option maxRecDepth 100000
set_option maxHeartbeats 4000000
theorem valT_diff {xs ys:List Int} {j:Nat}:∀{n:Nat},j≤n→(∀i,j≤i→i<n→xs.getD i 0=ys.getD i 0)→valT xs n - valT ys n=valT xs j - valT ys j
 |0,h,_=>by obtain rfl:j=0:=by omega
            rfl
 |n+1,h,he=>by
  by_cases hj:j=n+1
  ·rw[hj]
  ·have:=valT_diff (n:=n) (by omega) (fun i h1 h2=>he i h1 (by omega))
   rw[valT,valT,he n (by omega) (by omega)];omega
theorem valT_lt_of {xs ys:List Int} (hx:W4 xs) (hy:W4 ys) {j:Nat} (h:xs.getD j 0<ys.getD j 0):valT xs (j+1)<valT ys (j+1):=by
 have h1:=valT_lt hx j
 have h2:=valT_nonneg hy j
 have h3:(xs.getD j 0+1)*10000^j≤ys.getD j 0*10000^j:=Int.mul_le_mul_of_nonneg_right (by omega) (Int.le_of_lt (powT_pos j))
 rw[Int.add_mul,Int.one_mul]at h3
 rw[valT,valT];omega
theorem r_Cmp (a b:Nat) (ha:(td a).length<1099511627776) (hb:(td b).length<1099511627776):CallOK Tryz.prog 130 [nN a,nN b] [] (.val (.int .i64 ((a:Int) - b).sign)) [] []:=by
 refine callV (Z:=[]) tabOK mixedOK Tryz.func130 rfl (by kernel_rfl) rfl rfl (by kernel_rfl) rfl ?_
 intro W0 w0 ρ0 hE
 conv=>whnf
 by_cases h1:(td a).length<(td b).length
 ·have t1:decide (((td a).length:Int)<((td b).length:Int))=true:=decide_eq_true (by omega)
  have:=td_len_lt h1
  rw[Int.sign_eq_neg_one_of_neg (show(a:Int) - b<0 by omega)]
  (repeat(first|(refine step_w1 rfl rfl ?_;conv=>whnf)|(refine g_o (op_lenM rfl rfl rfl (ev_ok rfl) (tgt rfl) rfl) ?_;conv=>whnf)|(rw[t1];conv=>whnf)));(first|exact Recast.refl _|exact Frz.recast (Recast.refl _) rfl|(refine Frz.one rfl rfl ?_;skip)|(refine Frz.tup ?_;skip))
 have t1:decide (((td a).length:Int)<((td b).length:Int))=false:=decide_eq_false (by omega)
 by_cases h2:(td b).length<(td a).length
 ·have t2:decide (((td a).length:Int)>((td b).length:Int))=true:=decide_eq_true (by omega)
  have:=td_len_lt h2
  rw[Int.sign_eq_one_of_pos (show 0<(a:Int) - b by omega)]
  (repeat((first|refine step_w1 rfl rfl ?_|refine step_w2 rfl rfl ?_|refine g_o (op_lenM rfl rfl rfl (ev_ok rfl) (tgt rfl) rfl) ?_|rw[t1]|rw[t2]);conv=>whnf));(first|exact Recast.refl _|exact Frz.recast (Recast.refl _) rfl|(refine Frz.one rfl rfl ?_;skip)|(refine Frz.tup ?_;skip))
 have t2:decide (((td a).length:Int)>((td b).length:Int))=false:=decide_eq_false (by omega)
 have e0:IntKind.i64.wrap (((td a).length:Int) - 1)=((td a).length:Int) - 1:=wrap_i64 (by omega) (by omega)
 have va:=td_valN a (td a).length (Nat.le_refl _)
 have vb:=td_valN b (td a).length (by omega)
 have wa:=td_w32 a
 have wb:=td_w32 b
 (repeat((first|refine step_w2 rfl rfl ?_|refine g_o (op_lenM rfl rfl rfl (ev_ok rfl) (tgt rfl) rfl) ?_|rw[t1]|rw[t2]|rw[e0]);conv=>whnf))
 refine SW_loopN hE (fun k=>k) [0,1,5] [] (fun m fr hp=>m≤(td a).length∧(∀i,m≤i→i<(td a).length→(td a).getD i 0=(td b).getD i 0)∧fr=[(0,nN a),(1,nN b),(5,.val (.int .i64 ((m:Int) - 1)))]∧hp=[]) (td a).length ?_ ?_ ?_
 ·kernel_rfl
 ·exact⟨Nat.le_refl _,(fun i h1 h2=>by omega),rfl,rfl⟩
 rintro j _ _ ⟨hj,heq,rfl,rfl⟩
 have hd:=valT_diff hj heq
 rw[va,vb]at hd
 conv=>whnf
 by_cases h0:j=0
 ·subst h0
  have t3:decide (((0:Nat):Int) - 1≥0)=false:=rfl
  have e:((a:Int) - b).sign=0:=by rw[hd];rfl
  rw[e]
  (repeat(first|(refine step_w2 rfl rfl ?_;conv=>whnf)));(first|exact Recast.refl _|exact Frz.recast (Recast.refl _) rfl|(refine Frz.one rfl rfl ?_;skip)|(refine Frz.tup ?_;skip))
 ·obtain⟨i,rfl⟩:∃i,j=i+1:=⟨j - 1,by omega⟩
  have ei:(((i+1:Nat):Int) - 1)=(i:Int):=by omega
  rw[ei]
  have hib:i<(td b).length:=by omega
  have t3:decide ((i:Int)≥0)=true:=decide_eq_true (by omega)
  have e2:IntKind.i64.wrap ((i:Int) - 1)=(i:Int) - 1:=wrap_i64 (by omega) (by omega)
  by_cases hlt:(td a).getD i 0<(td b).getD i 0
  ·have t4:decide ((td a).getD i 0<(td b).getD i 0)=true:=decide_eq_true hlt
   have:=valT_lt_of wa wb hlt
   rw[Int.sign_eq_neg_one_of_neg (show(a:Int) - b<0 by omega)]
   (repeat((first|refine step_w1 rfl rfl ?_|refine step_i (by kernel_rfl) ?_|refine g_o (op_loadA rfl (ev_ok rfl) (tgt rfl) rfl (Nat.succ_ne_zero _) rfl) ?_|refine g_o (op_indexN (α:=Int) (d:=0) rfl (ev_ok rfl) (ev_ok rfl) (tgt rfl) rfl (tgt rfl) rfl (by omega)) ?_|rw[t3]|rw[t4]);conv=>whnf));(first|exact Recast.refl _|exact Frz.recast (Recast.refl _) rfl|(refine Frz.one rfl rfl ?_;skip)|(refine Frz.tup ?_;skip))
  ·have t4:decide ((td a).getD i 0<(td b).getD i 0)=false:=decide_eq_false hlt
   by_cases hgt:(td b).getD i 0<(td a).getD i 0
   ·have t5:decide ((td a).getD i 0>(td b).getD i 0)=true:=decide_eq_true hgt
    have:=valT_lt_of wb wa hgt
    rw[Int.sign_eq_one_of_pos (show 0<(a:Int) - b by omega)]
    (repeat((first|refine step_w1 rfl rfl ?_|refine step_w2 rfl rfl ?_|refine step_i (by kernel_rfl) ?_|refine g_o (op_loadA rfl (ev_ok rfl) (tgt rfl) rfl (Nat.succ_ne_zero _) rfl) ?_|refine g_o (op_indexN (α:=Int) (d:=0) rfl (ev_ok rfl) (ev_ok rfl) (tgt rfl) rfl (tgt rfl) rfl (by omega)) ?_|rw[t3]|rw[t4]|rw[t5]);conv=>whnf));(first|exact Recast.refl _|exact Frz.recast (Recast.refl _) rfl|(refine Frz.one rfl rfl ?_;skip)|(refine Frz.tup ?_;skip))
   ·have t5:decide ((td a).getD i 0>(td b).getD i 0)=false:=decide_eq_false hgt
    (repeat((first|refine step_w1 rfl rfl ?_|refine step_w2 rfl rfl ?_|refine step_i (by kernel_rfl) ?_|refine g_o (op_loadA rfl (ev_ok rfl) (tgt rfl) rfl (Nat.succ_ne_zero _) rfl) ?_|refine g_o (op_indexN (α:=Int) (d:=0) rfl (ev_ok rfl) (ev_ok rfl) (tgt rfl) rfl (tgt rfl) rfl (by omega)) ?_|rw[t3]|rw[t4]|rw[t5]|rw[e2]);conv=>whnf))
    exact⟨i,fun k=>k,[0,1,5],[],by omega,by kernel_rfl,by omega,(fun q h1 h2=>by
     by_cases hq:q=i
     ·rw[hq];omega
     ·exact heq q (by omega) h2),rfl,rfl⟩
theorem add_carry {P vL va vb c x y D C:Int} (h:vL+c*P=va+vb) (hD:x+y+c=D+10000*C):vL+D*P+C*(P*10000)=va+x*P+(vb+y*P):=by
 have h2:(x+y+c)*P=(D+10000*C)*P:=by rw[hD]
 grind
theorem r_Add (a b:Nat) (ha:(td a).length<1073741824) (hb:(td b).length<1073741824):CallOK Tryz.prog 107 [nN a,nN b] [] (nN (a+b)) [] []:=by
 have wa:=td_w32 a
 have wb:=td_w32 b
 refine callF (Z:=[]) tabOK mixedOK Tryz.func107 rfl (by kernel_rfl) (by first|rfl|(simp[keylessL,keyless,keylessL_map, *];done)) (by first|rfl|(simp[keylessL,keyless,keylessL_map, *];done)) (by kernel_rfl) rfl ?_
 intro w0 ρ0 hE
 conv=>whnf
 skip
 generalize hM:max (td a).length (td b).length=M
 refine SWx_adopt (t:=5) (k:=2001) (s:=1) (blk:=zblk []) rfl rfl rfl ?_
 refine SW_loopS hE (fun k=>k) [0,1,5,6,7] [2001] (fun m fr hp=>∃(i:Nat) (L:List Int) (c:Int),m=M+2 - i∧i≤M+1∧L.length=i∧W4 L∧0≤c∧c≤1∧(M<i→c=0)∧valT L i+c*10000^i=valT (td a) i+valT (td b) i∧
  fr=[(0,nN a),(1,nN b),(5,.slc 2001 1 0 i),(6,.val (.int .i64 c)),(7,.val (.int .i64 (i:Nat)))]∧hp=[(2001,zblk L)]) (M+2) ?_ ?_ ?_
 ·kernel_rfl
 ·exact⟨0,[],0,rfl,by omega,rfl,(fun i=>by simp),by omega,by omega,(fun _=>rfl),rfl,rfl,rfl⟩
 rintro m _ _ ⟨i,L,c,rfl,hi,hl,hw,hc0,hc1,hcM,hv,rfl,rfl⟩
 by_cases hgo:i<(td a).length∨i<(td b).length∨0<c
 ·have hiM:i≤M:=by
   rcases hgo with h|h|h
   ·omega
   ·omega
   ·rcases Nat.lt_or_ge M i with g|g
    ·have:=hcM g;omega
    ·exact g
  have k1:=r_at a i (by omega)
  have k2:=r_at b i (by omega)
  have hx:=wa i
  have hy:=wb i
  have hxz:(td a).length≤i→(td a).getD i 0=0:=fun h=>getD_ge h
  have hyz:(td b).length≤i→(td b).getD i 0=0:=fun h=>getD_ge h
  generalize hxe:(td a).getD i 0=x at*
  generalize hye:(td b).getD i 0=y at*
  have e1:IntKind.i64.wrap (x+y)=x+y:=wrap_i64 (by omega) (by omega)
  have e2:IntKind.i64.wrap (x+y+c)=x+y+c:=wrap_i64 (by omega) (by omega)
  have e3:(x+y+c).tmod 10000=(x+y+c) % 10000:=Int.tmod_eq_emod_of_nonneg (by omega)
  have e4:IntKind.i64.wrap ((x+y+c).tdiv 10000)=(x+y+c)/10000:=by rw[Int.tdiv_eq_ediv_of_nonneg (by omega)];exact wrap_i64 (by omega) (by omega)
  have e5:(x+y+c).tdiv 10000=(x+y+c)/10000:=Int.tdiv_eq_ediv_of_nonneg (by omega)
  have e6:=winc (i:=i) (by omega)
  have hc2:M<i+1→(x+y+c)/10000=0:=fun h=>by
   have:=hxz (by omega);have:=hyz (by omega);omega
  have hiA:i<1099511627776:=by omega
  clear hxz hyz
  have hstep:valT (L++[(x+y+c) % 10000]) (i+1)+(x+y+c)/10000*10000^(i+1)=valT (td a) (i+1)+valT (td b) (i+1):=by
   have h1:=valT_snoc L ((x+y+c) % 10000)
   rw[hl]at h1
   rw[h1,valT,valT,Int.pow_succ,hxe,hye]
   exact add_carry hv (by omega)
  have hw2:W4 (L++[(x+y+c) % 10000]):=W4_snoc hw (by omega) (by omega)
  have hl2:(L++[(x+y+c) % 10000]).length=i+1:=by rw[List.length_append,hl];rfl
  have hhp:=snoc_end (d:=(x+y+c) % 10000) hl
  refine SWx.of hE ?_
  conv=>whnf
  by_cases g1:i<(td a).length
  ·have t1:decide ((i:Int)<((td a).length:Int))=true:=decide_eq_true (by omega)
   (repeat((first|refine step_w1 rfl rfl ?_|refine step_w2 rfl rfl ?_|refine step_oA (by first|omega|decide|(simp only[tl0,dlen,List.length_replicate,List.length_set,List.length_map,List.length_zipWith,List.length_take,List.length_append,List.length_cons,List.length_nil];omega)) ?_|refine step_oN (by first|omega|decide|(simp only[tl0,dlen,List.length_replicate,List.length_set,List.length_map,List.length_zipWith,List.length_take,List.length_append,List.length_cons,List.length_nil];omega)) ?_|refine g_c (by assumption) ?_|refine g_o (op_pickT rfl (ev_ok rfl) (ev_ok rfl)) ?_|refine g_o (op_lenM rfl rfl rfl (ev_ok rfl) (tgt rfl) rfl) ?_|rw[t1]|rw[e1]|rw[e2]|rw[e3]|rw[e4]|rw[e6]);conv=>whnf))
   exact⟨M+2 - (i+1),renBy [(38,2001)],[0,1,5,6,7],[38],by omega,by kernel_rfl,i+1,_,_,rfl,by omega,hl2,hw2,by omega,by omega,hc2,hstep,rfl,by rw[←hhp];rfl⟩
  ·have t1:decide ((i:Int)<((td a).length:Int))=false:=decide_eq_false (by omega)
   by_cases g2:i<(td b).length
   ·have t2:decide ((i:Int)<((td b).length:Int))=true:=decide_eq_true (by omega)
    (repeat((first|refine step_w1 rfl rfl ?_|refine step_w2 rfl rfl ?_|refine step_oA (by first|omega|decide|(simp only[tl0,dlen,List.length_replicate,List.length_set,List.length_map,List.length_zipWith,List.length_take,List.length_append,List.length_cons,List.length_nil];omega)) ?_|refine step_oN (by first|omega|decide|(simp only[tl0,dlen,List.length_replicate,List.length_set,List.length_map,List.length_zipWith,List.length_take,List.length_append,List.length_cons,List.length_nil];omega)) ?_|refine g_c (by assumption) ?_|refine g_o (op_pickT rfl (ev_ok rfl) (ev_ok rfl)) ?_|refine g_o (op_pickF rfl (ev_ok rfl) (ev_ok rfl)) ?_|refine g_o (op_lenM rfl rfl rfl (ev_ok rfl) (tgt rfl) rfl) ?_|rw[t1]|rw[t2]|rw[e1]|rw[e2]|rw[e3]|rw[e4]|rw[e6]);conv=>whnf))
    exact⟨M+2 - (i+1),renBy [(38,2001)],[0,1,5,6,7],[38],by omega,by kernel_rfl,i+1,_,_,rfl,by omega,hl2,hw2,by omega,by omega,hc2,hstep,rfl,by rw[←hhp];rfl⟩
   ·have t2:decide ((i:Int)<((td b).length:Int))=false:=decide_eq_false (by omega)
    have t3:decide (c>0)=true:=decide_eq_true (by omega)
    (repeat((first|refine step_w1 rfl rfl ?_|refine step_oA (by first|omega|decide|(simp only[tl0,dlen,List.length_replicate,List.length_set,List.length_map,List.length_zipWith,List.length_take,List.length_append,List.length_cons,List.length_nil];omega)) ?_|refine step_oN (by first|omega|decide|(simp only[tl0,dlen,List.length_replicate,List.length_set,List.length_map,List.length_zipWith,List.length_take,List.length_append,List.length_cons,List.length_nil];omega)) ?_|refine g_c (by assumption) ?_|refine g_o (op_pickF rfl (ev_ok rfl) (ev_ok rfl)) ?_|refine g_o (op_lenM rfl rfl rfl (ev_ok rfl) (tgt rfl) rfl) ?_|rw[t1]|rw[t2]|rw[t3]|rw[e1]|rw[e2]|rw[e3]|rw[e4]|rw[e6]);conv=>whnf))
    exact⟨M+2 - (i+1),renBy [(38,2001)],[0,1,5,6,7],[38],by omega,by kernel_rfl,i+1,_,_,rfl,by omega,hl2,hw2,by omega,by omega,hc2,hstep,rfl,by rw[←hhp];rfl⟩
 ·have t1:decide ((i:Int)<((td a).length:Int))=false:=decide_eq_false (by omega)
  have t2:decide ((i:Int)<((td b).length:Int))=false:=decide_eq_false (by omega)
  have t3:decide (c>0)=false:=decide_eq_false (by omega)
  have hc:c=0:=by omega
  subst hc
  rw[td_valN a i (by omega),td_valN b i (by omega)]at hv
  have k1:=r_trim L (by omega) hw
  rw[show(valT L L.length).toNat=a+b by rw[hl];omega]at k1
  refine SWx_frzI 5 2001 (fun _ h=>h) rfl rfl hl.symm ?_
  refine SWx.of hE ?_
  conv=>whnf
  (repeat((first|refine step_w1 rfl rfl ?_|refine step_w2 rfl rfl ?_|refine g_c (by assumption) ?_|refine g_o (op_pickF rfl (ev_ok rfl) (ev_ok rfl)) ?_|refine g_o (op_lenM rfl rfl rfl (ev_ok rfl) (tgt rfl) rfl) ?_|rw[t1]|rw[t2]);conv=>whnf));(first|exact Recast.refl _|exact Frz.recast (Recast.refl _) rfl|(refine Frz.one rfl rfl ?_;skip)|(refine Frz.tup ?_;skip))
theorem sub_lend {P vL va vb c x y D C:Int} (h:vL - c*P=va - vb) (hD:x - y - c=D - 10000*C):vL+D*P - C*(P*10000)=va+x*P - (vb+y*P):=by
 have h2:(x - y - c)*P=(D - 10000*C)*P:=by rw[hD]
 grind
theorem r_Sub (a b:Nat) (hab:b≤a) (ha:(td a).length<1073741824):CallOK Tryz.prog 129 [nN a,nN b] [] (nN (a - b)) [] []:=by
 have wa:=td_w32 a
 have wb:=td_w32 b
 have hlb:=td_len_mono hab
 refine callF (Z:=[]) tabOK mixedOK Tryz.func129 rfl (by kernel_rfl) (by first|rfl|(simp[keylessL,keyless,keylessL_map, *];done)) (by first|rfl|(simp[keylessL,keyless,keylessL_map, *];done)) (by kernel_rfl) rfl ?_
 intro w0 ρ0 hE
 conv=>whnf
 skip
 refine SWx_adopt (t:=5) (k:=2001) (s:=1) (blk:=zblk []) rfl rfl rfl ?_
 refine SW_loopS hE (fun k=>k) [0,1,5,6,7] [2001] (fun m fr hp=>∃(i:Nat) (L:List Int) (c:Int),m=(td a).length - i∧i≤(td a).length∧L.length=i∧W4 L∧0≤c∧c≤1∧valT L i - c*10000^i=valT (td a) i - valT (td b) i∧
  fr=[(0,nN a),(1,nN b),(5,.slc 2001 1 0 i),(6,.val (.int .i64 c)),(7,.val (.int .i64 (i:Nat)))]∧hp=[(2001,zblk L)]) (td a).length ?_ ?_ ?_
 ·kernel_rfl
 ·exact⟨0,[],0,rfl,by omega,rfl,(fun i=>by simp),by omega,by omega,rfl,rfl,rfl⟩
 rintro m _ _ ⟨i,L,c,rfl,hi,hl,hw,hc0,hc1,hv,rfl,rfl⟩
 by_cases hlt:i<(td a).length
 ·have t1:decide ((i:Int)<((td a).length:Int))=true:=decide_eq_true (by omega)
  have k2:=r_at b i (by omega)
  have hx:=wa i
  have hy:=wb i
  generalize hxe:(td a).getD i 0=x at*
  generalize hye:(td b).getD i 0=y at*
  have e1:IntKind.i64.wrap (x - y)=x - y:=wrap_i64 (by omega) (by omega)
  have e2:IntKind.i64.wrap (x - y - c)=x - y - c:=wrap_i64 (by omega) (by omega)
  have e6:=winc (i:=i) (by omega)
  have hst:∀D C,x - y - c=D - 10000*C→valT (L++[D]) (i+1) - C*10000^(i+1)=valT (td a) (i+1) - valT (td b) (i+1):=fun D C hD=>by
   have h1:=valT_snoc L D
   rw[hl]at h1
   rw[h1,valT,valT,Int.pow_succ,hxe,hye]
   exact sub_lend hv hD
  have hl2:∀D:Int,(L++[D]).length=i+1:=fun D=>by rw[List.length_append,hl];rfl
  have hhp:=fun D=>snoc_end (d:=D) hl
  refine SWx.of hE ?_
  conv=>whnf
  by_cases hn:x - y - c<0
  ·have t2:decide (x - y - c<0)=true:=decide_eq_true hn
   have e3:IntKind.i64.wrap (x - y - c+10000)=x - y - c+10000:=wrap_i64 (by omega) (by omega)
   (repeat((first|refine step_w1 rfl rfl ?_|refine step_i (by kernel_rfl) ?_|refine step_oA (by first|omega|decide|(simp only[tl0,dlen,List.length_replicate,List.length_set,List.length_map,List.length_zipWith,List.length_take,List.length_append,List.length_cons,List.length_nil];omega)) ?_|refine g_c (by assumption) ?_|refine g_o (op_lenM rfl rfl rfl (ev_ok rfl) (tgt rfl) rfl) ?_|refine g_o (op_loadA rfl (ev_ok rfl) (tgt rfl) rfl (Nat.succ_ne_zero _) rfl) ?_|refine g_o (op_indexN (α:=Int) (d:=0) rfl (ev_ok rfl) (ev_ok rfl) (tgt rfl) rfl (tgt rfl) rfl (by omega)) ?_|rw[t1]|rw[hxe]|rw[e1]|rw[e2]|rw[t2]|rw[e3]|rw[e6]);conv=>whnf))
   exact⟨(td a).length - (i+1),renBy [(32,2001)],[0,1,5,6,7],[32],by omega,by kernel_rfl,i+1,_,1,rfl,by omega,hl2 _,W4_snoc hw (show 0≤x - y - c+10000 by omega) (by omega),by omega,by omega,hst _ _ (by omega),rfl,by rw[←hhp];rfl⟩
  ·have t2:decide (x - y - c<0)=false:=decide_eq_false hn
   (repeat((first|refine step_w1 rfl rfl ?_|refine step_w2 rfl rfl ?_|refine step_i (by kernel_rfl) ?_|refine step_oA (by first|omega|decide|(simp only[tl0,dlen,List.length_replicate,List.length_set,List.length_map,List.length_zipWith,List.length_take,List.length_append,List.length_cons,List.length_nil];omega)) ?_|refine g_c (by assumption) ?_|refine g_o (op_lenM rfl rfl rfl (ev_ok rfl) (tgt rfl) rfl) ?_|refine g_o (op_loadA rfl (ev_ok rfl) (tgt rfl) rfl (Nat.succ_ne_zero _) rfl) ?_|refine g_o (op_indexN (α:=Int) (d:=0) rfl (ev_ok rfl) (ev_ok rfl) (tgt rfl) rfl (tgt rfl) rfl (by omega)) ?_|rw[t1]|rw[hxe]|rw[e1]|rw[e2]|rw[t2]|rw[e6]);conv=>whnf))
   exact⟨(td a).length - (i+1),renBy [(32,2001)],[0,1,5,6,7],[32],by omega,by kernel_rfl,i+1,_,0,rfl,by omega,hl2 _,W4_snoc hw (show 0≤x - y - c by omega) (by omega),by omega,by omega,hst _ _ (by omega),rfl,by rw[←hhp];rfl⟩
 ·have t1:decide ((i:Int)<((td a).length:Int))=false:=decide_eq_false (by omega)
  rw[td_valN a i (by omega),td_valN b i (by omega)]at hv
  have h1:=valT_lt hw i
  have hc:c=0:=by
   rcases(show c=0∨c=1 by omega)with h|h
   ·exact h
   ·subst h;omega
  subst hc
  have k1:=r_trim L (by omega) hw
  rw[show(valT L L.length).toNat=a - b by rw[hl];omega]at k1
  refine SWx_frzI 5 2001 (fun _ h=>h) rfl rfl hl.symm ?_
  refine SWx.of hE ?_
  conv=>whnf
  (repeat((first|refine step_w2 rfl rfl ?_|refine g_c (by assumption) ?_|refine g_o (op_lenM rfl rfl rfl (ev_ok rfl) (tgt rfl) rfl) ?_|rw[t1]);conv=>whnf));(first|exact Recast.refl _|exact Frz.recast (Recast.refl _) rfl|(refine Frz.one rfl rfl ?_;skip)|(refine Frz.tup ?_;skip))
end Go.Proofs.YtjofnbpcanhfhabGreatDoor
namespace Go.Proofs.YtjofnbpcanhfhabGreatDoor
open Go.Sx
set_option linter.unusedSimpArgs false
set_option linter.unusedVariables false
set_option maxRecDepth 100000
set_option maxHeartbeats 4000000
theorem mul_carry {V P c x y o D C R:Int} (hV:V+c*P=R) (hD:o+x*y+c=D+10000*C):V+(D - o)*P+C*(P*10000)=R+x*y*P:=by
 have h2:(o+x*y+c)*P=(D+10000*C)*P:=by rw[hD]
 grind
theorem pow_lt_of {i k l:Nat} (h:(10000:Int)^i<10000^k):i<k:=by
 rcases Nat.lt_or_ge i k with g|g
 ·exact g
 ·have:(10000:Nat)^k≤10000^i:=Nat.pow_le_pow_right (by decide) g
  have h2:((10000^k:Nat):Int)≤((10000^i:Nat):Int):=Int.ofNat_le.2 this
  rw[natPowT,natPowT]at h2
  omega
theorem r_Mul (a b:Nat) (ha:(td a).length<536870912) (hb:(td b).length<536870912):CallOK Tryz.prog 96 [nN a,nN b] [] (nN (a*b)) [] []:=by
 have wa:=td_w32 a
 have wb:=td_w32 b
 have ela:IntKind.i64.wrap (((td a).length:Int)+((td b).length:Int))=(((td a).length+(td b).length:Nat):Int):=by rw[wrap_i64 (by omega) (by omega)];omega
 refine callF (Z:=[]) tabOK mixedOK Tryz.func96 rfl (by kernel_rfl) (by first|rfl|(simp[keylessL,keyless,keylessL_map, *];done)) (by first|rfl|(simp[keylessL,keyless,keylessL_map, *];done)) (by kernel_rfl) rfl ?_
 intro w0 ρ0 hE
 conv=>whnf
 (repeat((first|refine step_oA (by first|omega|decide|(simp only[tl0,dlen,List.length_replicate,List.length_set,List.length_map,List.length_zipWith,List.length_take,List.length_append,List.length_cons,List.length_nil];omega)) ?_|refine g_o (op_lenM rfl rfl rfl (ev_ok rfl) (tgt rfl) rfl) ?_|rw[ela]|rw[Int.toNat_natCast]);conv=>whnf))
 generalize hla:(td a).length=la at*
 generalize hlb:(td b).length=lb at*
 refine SW_loopS hE (fun k=>k) [0,1,5,6] [15] (fun m fr hp=>∃(i:Nat) (out:List Int),m=la - i∧i≤la∧out.length=la+lb∧W4 out∧valT out (la+lb)=valT (td a) i*b∧
  fr=[(0,nN a),(1,nN b),(5,.slc 15 1 0 (la+lb)),(6,.val (.int .i64 (i:Nat)))]∧hp=[(15,zblk out)]) la ?_ ?_ ?_
 ·kernel_rfl
 ·refine⟨0,List.replicate (la+lb) 0,rfl,Nat.zero_le _,List.length_replicate,W4_of (fun x hx=>by rw[(List.mem_replicate.1 hx).2];omega), ?_,rfl,rfl⟩
  rw[valT_zeros (k:=0) (fun i _ _=>getD_replicate) (Nat.zero_le _)];simp[valT]
 rintro m _ _ ⟨i,out,rfl,hi,hol,how,hov,rfl,rfl⟩
 by_cases hlt:i<la
 ·have t1:decide ((i:Int)<(la:Int))=true:=decide_eq_true (by omega)
  have e9:=winc (i:=i) (by omega)
  have hx:=wa i
  have hbnd:valT (td a) (i+1)*b<10000^(i+1+lb):=by
   have h1:=valT_lt wa (i+1)
   have h2:(b:Int)<10000^lb:=by rw[←natPowT];exact Int.ofNat_lt.2 (td_lt_pow (by omega))
   have h3:=valT_nonneg wa (i+1)
   have h4:valT (td a) (i+1)*b≤valT (td a) (i+1)*10000^lb:=Int.mul_le_mul_of_nonneg_left (by omega) h3
   have h5:valT (td a) (i+1)*10000^lb<10000^(i+1)*10000^lb:=Int.mul_lt_mul_of_pos_right h1 (powT_pos lb)
   rw[Int.pow_add];omega
  have hva1:valT (td a) (i+1)=valT (td a) i+(td a).getD i 0*10000^i:=rfl
  have hila:i<(td a).length:=by omega
  generalize hxe:(td a).getD i 0=x at*
  refine SWx.of hE ?_
  conv=>whnf
  (repeat((first|refine step_w1 rfl rfl ?_|refine g_o (op_lenM rfl rfl rfl (ev_ok rfl) (tgt rfl) rfl) ?_|rw[hla]|rw[t1]);conv=>whnf))
  refine SW_loopN hE (fun k=>k) [0,1,5,6,7,8] [15] (fun m fr hp=>∃(k:Nat) (out:List Int) (c:Int),m=lb+2 - k∧k≤lb+1∧out.length=la+lb∧W4 out∧0≤c∧c≤9999∧valT out (la+lb)+c*10000^(i+k)=valT (td a) i*b+x*valT (td b) k*10000^i∧
   fr=[(0,nN a),(1,nN b),(5,.slc 15 1 0 (la+lb)),(6,.val (.int .i64 (i:Nat))),(7,.val (.int .i64 c)),(8,.val (.int .i64 (k:Nat)))]∧hp=[(15,zblk out)]) (lb+2) ?_ ?_ ?_
  ·kernel_rfl
  ·exact⟨0,out,0,rfl,by omega,hol,how,by omega,by omega,by rw[hov];simp[valT],rfl,rfl⟩
  clear hov how hol out
  rintro m _ _ ⟨k,out,c,rfl,hk,hol,how,hc0,hc1,hov,rfl,rfl⟩
  have hend:lb≤k→valT out (la+lb)+c*10000^(i+k)=valT (td a) (i+1)*b:=fun h=>by
   rw[hov,td_valN b k (by omega),hva1];grind
  have hck:0<c→k≤lb:=fun h=>by
   rcases Nat.lt_or_ge lb k with g|g
   ·have h1:=hend (by omega)
    have h2:=valT_nonneg how (la+lb)
    have h3:1*(10000:Int)^(i+k)≤c*10000^(i+k):=Int.mul_le_mul_of_nonneg_right (by omega) (Int.le_of_lt (powT_pos _))
    have h4:(10000:Int)^(i+k)<10000^(i+1+lb):=by omega
    have:=pow_lt_of (l:=0) h4
    omega
   ·exact g
  by_cases hgo:k<lb∨0<c
  ·have hkb:k≤lb:=by
    rcases hgo with h|h
    ·omega
    ·exact hck h
   have hik:i+k<out.length:=by omega
   have k2:=r_at b k (by omega)
   have hy:=wb k
   have ho:=how (i+k)
   generalize hye:(td b).getD k 0=y at*
   generalize hoe:out.getD (i+k) 0=o at*
   have hxy:0≤x*y:=Int.mul_nonneg hx.1 hy.1
   have hxy2:x*y≤9999*9999:=by
    have h1:x*y≤9999*y:=Int.mul_le_mul_of_nonneg_right (by omega) hy.1
    omega
   have e1:IntKind.i64.wrap ((i:Int)+(k:Int))=((i+k:Nat):Int):=by rw[wrap_i64 (by omega) (by omega)];omega
   have e2:IntKind.i64.wrap (x*y)=x*y:=wrap_i64 (by omega) (by omega)
   have e3:IntKind.i64.wrap (o+x*y)=o+x*y:=wrap_i64 (by omega) (by omega)
   have e4:IntKind.i64.wrap (o+x*y+c)=o+x*y+c:=wrap_i64 (by omega) (by omega)
   have e5:(o+x*y+c).tmod 10000=(o+x*y+c) % 10000:=Int.tmod_eq_emod_of_nonneg (by omega)
   have e6:IntKind.i64.wrap ((o+x*y+c).tdiv 10000)=(o+x*y+c)/10000:=by rw[Int.tdiv_eq_ediv_of_nonneg (by omega)];exact wrap_i64 (by omega) (by omega)
   have e7:(o+x*y+c).tdiv 10000=(o+x*y+c)/10000:=Int.tdiv_eq_ediv_of_nonneg (by omega)
   have e8:=winc (i:=k) (by omega)
   have hD:o+x*y+c=(o+x*y+c) % 10000+10000*((o+x*y+c)/10000):=(Int.emod_add_mul_ediv _ _).symm
   have hC0:0≤(o+x*y+c)/10000:=by omega
   have hC1:(o+x*y+c)/10000≤9999:=by omega
   have hD0:0≤(o+x*y+c) % 10000:=by omega
   have hD1:(o+x*y+c) % 10000<10000:=by omega
   have hnew:valT (out.set (i+k) ((o+x*y+c) % 10000)) (la+lb)+(o+x*y+c)/10000*10000^(i+(k+1))=valT (td a) i*b+x*valT (td b) (k+1)*10000^i:=by
    rw[valT_set (by omega) hik,hoe,show i+(k+1)=i+k+1 from rfl,Int.pow_succ,valT,hye]
    have:=mul_carry hov hD
    have e:x*(valT (td b) k+y*10000^k)*10000^i=x*valT (td b) k*10000^i+x*y*10000^(i+k):=by rw[Int.pow_add];grind
    rw[e];omega
   have hl2:(out.set (i+k) ((o+x*y+c) % 10000)).length=la+lb:=by rw[List.length_set];exact hol
   have hw2:=how.set (i:=i+k) hD0 hD1
   clear hend hck hov hxy hxy2 hD
   conv=>whnf
   by_cases g1:k<lb
   ·have t2:decide ((k:Int)<(lb:Int))=true:=decide_eq_true (by omega)
    (repeat((first|refine step_w1 rfl rfl ?_|refine step_w2 rfl rfl ?_|refine step_i (by kernel_rfl) ?_|refine step_oL (by first|omega|decide|(simp only[tl0,dlen,List.length_replicate,List.length_set,List.length_map,List.length_zipWith,List.length_take,List.length_append,List.length_cons,List.length_nil];omega)) ?_|refine step_oA (by first|omega|decide|(simp only[tl0,dlen,List.length_replicate,List.length_set,List.length_map,List.length_zipWith,List.length_take,List.length_append,List.length_cons,List.length_nil];omega)) ?_|refine step_oN (by first|omega|decide|(simp only[tl0,dlen,List.length_replicate,List.length_set,List.length_map,List.length_zipWith,List.length_take,List.length_append,List.length_cons,List.length_nil];omega)) ?_|refine g_c (by assumption) ?_|refine g_o (op_pickT rfl (ev_ok rfl) (ev_ok rfl)) ?_|refine g_o (op_lenM rfl rfl rfl (ev_ok rfl) (tgt rfl) rfl) ?_|refine g_o (op_loadA rfl (ev_ok rfl) (tgt rfl) rfl (Nat.succ_ne_zero _) rfl) ?_|refine g_o (op_indexN (α:=Int) (d:=0) rfl (ev_ok rfl) (ev_ok rfl) (tgt rfl) rfl (tgt rfl) rfl (by omega)) ?_|rw[hlb]|rw[t2]|rw[hxe]|rw[e1]|rw[hoe]|rw[e2]|rw[e3]|rw[e4]|rw[e5]|rw[e6]|rw[e8]|rw[Int.toNat_natCast]|rw[Nat.zero_add]);conv=>whnf))
    exact⟨lb+2 - (k+1),fun k=>k,[0,1,5,6,7,8],[15],by omega,by kernel_rfl,k+1,_,_,rfl,by omega,hl2,hw2,hC0,hC1,hnew,rfl,rfl⟩
   ·have t2:decide ((k:Int)<(lb:Int))=false:=decide_eq_false (by omega)
    have t3:decide (c>0)=true:=decide_eq_true (by omega)
    (repeat((first|refine step_w1 rfl rfl ?_|refine step_i (by kernel_rfl) ?_|refine step_oL (by first|omega|decide|(simp only[tl0,dlen,List.length_replicate,List.length_set,List.length_map,List.length_zipWith,List.length_take,List.length_append,List.length_cons,List.length_nil];omega)) ?_|refine step_oA (by first|omega|decide|(simp only[tl0,dlen,List.length_replicate,List.length_set,List.length_map,List.length_zipWith,List.length_take,List.length_append,List.length_cons,List.length_nil];omega)) ?_|refine step_oN (by first|omega|decide|(simp only[tl0,dlen,List.length_replicate,List.length_set,List.length_map,List.length_zipWith,List.length_take,List.length_append,List.length_cons,List.length_nil];omega)) ?_|refine g_c (by assumption) ?_|refine g_o (op_pickF rfl (ev_ok rfl) (ev_ok rfl)) ?_|refine g_o (op_lenM rfl rfl rfl (ev_ok rfl) (tgt rfl) rfl) ?_|refine g_o (op_loadA rfl (ev_ok rfl) (tgt rfl) rfl (Nat.succ_ne_zero _) rfl) ?_|refine g_o (op_indexN (α:=Int) (d:=0) rfl (ev_ok rfl) (ev_ok rfl) (tgt rfl) rfl (tgt rfl) rfl (by omega)) ?_|rw[hlb]|rw[t2]|rw[t3]|rw[hxe]|rw[e1]|rw[hoe]|rw[e2]|rw[e3]|rw[e4]|rw[e5]|rw[e6]|rw[e8]|rw[Int.toNat_natCast]|rw[Nat.zero_add]);conv=>whnf))
    exact⟨lb+2 - (k+1),fun k=>k,[0,1,5,6,7,8],[15],by omega,by kernel_rfl,k+1,_,_,rfl,by omega,hl2,hw2,hC0,hC1,hnew,rfl,rfl⟩
  ·have t2:decide ((k:Int)<(lb:Int))=false:=decide_eq_false (by omega)
   have t3:decide (c>0)=false:=decide_eq_false (by omega)
   have hc:c=0:=by omega
   have hv:=hend (by omega)
   rw[hc,Int.zero_mul,Int.add_zero]at hv
   conv=>whnf
   (repeat((first|refine step_w1 rfl rfl ?_|refine step_w2 rfl rfl ?_|refine g_o (op_pickF rfl (ev_ok rfl) (ev_ok rfl)) ?_|refine g_o (op_lenM rfl rfl rfl (ev_ok rfl) (tgt rfl) rfl) ?_|rw[hlb]|rw[t2]|rw[t3]|rw[e9]);conv=>whnf))
   exact⟨la - (i+1),fun k=>k,[0,1,5,6],[15],by omega,by kernel_rfl,i+1,out,rfl,by omega,hol,how,hv,rfl,rfl⟩
 ·have t1:decide ((i:Int)<(la:Int))=false:=decide_eq_false (by omega)
  have hI:i=la:=by omega
  subst hI
  rw[td_valN a i (by omega)]at hov
  have k1:=r_trim out (by omega) how
  rw[show(valT out out.length).toNat=a*b by rw[hol,hov,←Int.natCast_mul];exact Int.toNat_natCast _]at k1
  refine SWx_frzI 5 15 (fun _ h=>h) rfl rfl hol.symm ?_
  refine SWx.of hE ?_
  conv=>whnf
  (repeat((first|refine step_w2 rfl rfl ?_|refine g_c (by assumption) ?_|refine g_o (op_lenM rfl rfl rfl (ev_ok rfl) (tgt rfl) rfl) ?_|rw[hla]|rw[t1]);conv=>whnf));(first|exact Recast.refl _|exact Frz.recast (Recast.refl _) rfl|(refine Frz.one rfl rfl ?_;skip)|(refine Frz.tup ?_;skip))
end Go.Proofs.YtjofnbpcanhfhabGreatDoor
namespace Go.Proofs.YtjofnbpcanhfhabGreatDoor
open Go.Sx
set_option linter.unusedSimpArgs false
set_option linter.unusedVariables false
set_option maxRecDepth 100000
set_option maxHeartbeats 4000000
theorem run_firstV {P:Program} {ρ:Rho} {w:World} {s n:Nat} {vs:List SV} {d:Sx.Data} {v:Value} (hv:Has ρ (vecA s vs) v) (himm:∀b o,ρ.imm b=some o→w.heap[b]? =some o)
  (hr:∀z,HasZ (bareR ρ.imm ρ.glob) vs z→(∀x∈vs,x.width=s)→Go.Sx.Rows ρ s d z) (hn:n=vs.length):
  ∃z,Go.Sx.Rows ρ s d z∧(∀w',(∀b,b<w.heap.size→w'.heap[b]? =w.heap[b]?)→(Builtin.firstCells s n v).run P w'= .ok (((z.drop 0).take n).flatten).toArray w')∧Builtin.lenOf v=Pure.pure n:=by
 subst hn
 rcases has_vec hv with⟨rfl,a,rfl⟩|⟨b,cap,z,pre,ex,ty,fz,h1,h2,h3,h4,h5,h6⟩
 ·refine⟨[],hr [] (by simp only[HasZ]) (fun x hx=>by cases hx),fun w' _=> ?_,rfl⟩
  cases a with
  |none=>simp[Builtin.firstCells]
  |some a=>simp[Builtin.firstCells,loadCells,loadCellsFrom]
 ·have hzr:=hr z h2 h3
  obtain⟨zl,zw⟩:=hzr.len
  have hzl:z.length=vs.length:=HasZ_length h2
  subst h6
  refine⟨z,hzr,fun w' hw'=> ?_,rfl⟩
  have hh0:=himm _ _ h1
  have hblt:b<w.heap.size:=by
   rcases Nat.lt_or_ge b w.heap.size with h'|h'
   ·exact h'
   ·simp[Array.getElem?_eq_none h']at hh0
  have hh:w'.heap[b]? =some (.cells (pre++(z.flatten++ex)).toArray ty fz):=by rw[hw' b hblt];exact hh0
  have e0:(z.drop 0).take vs.length=z:=by rw[List.drop_zero,List.take_of_length_le (by omega)]
  rw[e0]
  have hlen:z.flatten.length=vs.length*s:=by rw[flatten_len (s:=s) _ zw,hzl]
  refine run_firstCells_some (P:=P) w' s vs.length _ vs.length cap _ hlen ?_
  intro j u hj
  have hadd:(⟨b,pre.length,none⟩:Addr).add j=⟨b,pre.length+j,none⟩:=by unfold Addr.add;split<;>simp_all
  rw[hadd,cell_of_row w' b (pre.length+j) _ ty fz hh]
  have hlt:j<z.flatten.length:=(List.getElem?_eq_some_iff.1 hj).1
  simp only[List.getElem?_toArray]
  rw[List.getElem?_append_right (by omega),Nat.add_sub_cancel_left,List.getElem?_append_left hlt]
  exact hj
theorem HasZ_intsU {ρ:Rho} {kd:IntKind}:∀(xs:List Int) (z:List (List Value)),HasZ ρ (xs.map (iel kd)) z→z=xs.map fun x=>[.int kd x]
 |[],z,h=>by simpa only[List.map_nil,HasZ]using h
 |x::xs,z,h=>by
  simp only[List.map_cons,HasZ]at h
  obtain⟨y,r,rfl,h1,h2⟩:=h
  rw[HasZ_intsU xs r h2]
  simp only[iel,HasC]at h1
  rw[h1.1,List.map_cons]
theorem rows_ints {kd:IntKind} (xs:List Int):∀(ρ:Rho) z,HasZ (bareR ρ.imm ρ.glob) (xs.map (iel kd)) z→(∀x∈xs.map (iel kd),x.width=1)→Go.Sx.Rows ρ 1 (.ints kd xs) z:=
 fun ρ z h _=>⟨rfl,HasZ_intsU xs z h⟩
theorem op_appendV {P:Program} {o:Oper} {fr:List (Nat×SV)} {fk:List (Nat×Blk)} {t t2 e:TypeId} {x y:Operand} {xs:Array Operand} {ts:Array TypeId} {ti t0 te:TI} {k kn n m:Nat} {d d' d2:Sx.Data} {vs:List SV} (ho:o.op= .call ⟨.builtin .append,xs,ts⟩) (hxs:xs= #[x,y]) (hts:ts= #[t,t2])
  (hx:EvOK fr x (.slc k te.size 0 n)) (hy:EvOK fr y (vecA te.size vs)) (hr2:∀(ρ:Rho) z,HasZ (bareR ρ.imm ρ.glob) vs z→(∀x∈vs,x.width=te.size)→Go.Sx.Rows ρ te.size d2 z) (ht:TOK P t ti) (hk:ti.kind= .slc e) (ht2:TOK P t2 t0) (hk2:t0.kind= .slc e) (he:TOK P e te)
  (hf:(k,⟨e,true,d⟩)∈fk) (hl:d.live=true) (hw:dwidth d=some te.size)
  (hn:n≤dlen d) (hmv:m=vs.length) (hm:0+m≤dlen d2) (hd:dapp d n d2 0 m=some d') (hbytes:(n+m)*te.bytes≤140737488355328) (h63:n+m≤9223372036854775807):
  OpOK P o fr fk (.slc kn te.size 0 (n+m)) [(kn,⟨e,true,d'⟩)] [(k,⟨e,true,.dead⟩)]:=
 ok_value fun ρ a w hp=>by
  have hvx:=hx ρ a hp.hft
  have hvy:=hy ρ a hp.hft
  obtain⟨i,zv,i1,i2',i3,i4,i5,i6,i7,_⟩:=he.info
  have hu:=ht.kind;rw[hk]at hu
  have hu2:=ht2.kind;rw[hk2]at hu2
  obtain⟨z,hz,hzc⟩:=blk_rows (hp.hfk k _ hf) hl hw
  obtain⟨z2,hz2,hrun2,hlen2⟩:=run_firstV (P:=P) (d:=d2) hvy hp.imm (hr2 ρ) hmv
  obtain⟨zl,zw⟩:=hz.len
  obtain⟨zl2,zw2⟩:=hz2.len
  have hrows:=(dapp_rows hd hz hz2).1
  have hfresh:=hp.fresh kn _ (List.mem_cons_self ..)
  simp only at zl
  have hsegw:∀u∈(z2.drop 0).take m,u.length=te.size:=fun u hu=>zw2 u (List.mem_of_mem_drop (List.mem_of_mem_take hu))
  have hsegl:((z2.drop 0).take m).length=m:=by rw[List.length_take,List.length_drop];omega
  have hnews:(((z2.drop 0).take m).flatten).length=m*te.size:=by rw[flatten_len _ hsegw,hsegl]
  have hnone:∀u∈(((z2.drop 0).take m).flatten),u.oneCell'=true:=fun u hu=>by
   obtain⟨q,hq,hu⟩:=List.mem_flatten.1 hu
   exact hz2.one' q (List.mem_of_mem_drop (List.mem_of_mem_take hq)) u hu
  have hcall:∀v w',(Builtin.append_ ts o.type #[a.eval x,a.eval y]).run P w= .ok v w'→(execOp a.eval o).run P w= .ok (.value v) w':=by
   intro v w' h
   simp only[execOp,ho,resolve,invoke,builtin,hxs,Sem.run_bind,Sem.run_pure,Result.andThen_ok,List.map_toArray,List.map_cons,List.map_nil]
   rw[h]
   rfl
  have zone:∀v∈zv.cells.toList,v.oneCell'=true:=by
   have h1:=(HasZ.len (ρ:=ρ) te.zero _ (zero_has i6)).2
   rw[i5,List.flatMap_def];exact h1
  have h63':¬((n+m:Nat):Int)>IntKind.i64.max:=by
   have:IntKind.i64.max=9223372036854775807:=by decide
   omega
  have grow:∀(base:Option Addr) (cap:Nat),a.eval x= .slice base n cap→cap<n+m→(∀w',(∀b,b<w.heap.size→w'.heap[b]? =w.heap[b]?)→(Builtin.firstCells te.size n (.slice base n cap)).run P w'= .ok ((z.take n).flatten).toArray w')→
    ∃v w' ρ',(execOp a.eval o).run P w= .ok (.value v) w'∧Post ρ w (.slc kn te.size 0 (n+m)) [(kn,⟨e,true,d'⟩)] [(k,⟨e,true,.dead⟩)] v ρ' w':=by
   intro base cap hbx hcap hfirst
   have hfit:¬Builtin.nextslicecap (n+m) cap*i.bytes>2^48:=by
    have:=growslice_fits (bytes:=te.bytes) hcap hbytes
    rw[i3];simpa using this
   have hgc:n+m≤grownCap w (n+m) cap e:=by
    simp only[grownCap,Question.cut]
    omega
   have hpost:=post_row (hL:=hrows.notLoop) (ρ:=ρ) (w:=w.drew) (k:=kn) (s:=te.size) (n:=n+m) (cap:=grownCap w (n+m) cap e) (ty:=e) (d:=d') (vs:=(z.take n++(z2.drop 0).take m).flatten) (ex:=(Builtin.zeroCells zv.cells (grownCap w (n+m) cap e - (n+m))).toList) hfresh hrows.data hgc
    (by
     have h1:((z.take n++(z2.drop 0).take m).flatten).length=(n+m)*te.size:=by
      rw[flatten_len (s:=te.size) _ (fun u hu=>(List.mem_append.1 hu).elim (fun h=>zw u (List.mem_of_mem_take h)) (hsegw u)),List.length_append,hsegl,List.length_take]
      congr 1
      omega
     rw[List.length_append,h1,Array.length_toList]
     have h2:(Builtin.zeroCells zv.cells (grownCap w (n+m) cap e - (n+m))).size=(grownCap w (n+m) cap e - (n+m))*te.size:=by simp[Builtin.zeroCells,i7]
     rw[h2,←Nat.add_mul,show n+m+(grownCap w (n+m) cap e - (n+m))=grownCap w (n+m) cap e from by omega]
     exact Nat.le_refl _) (zeroCells_one zone _)
   refine⟨_,_,_,hcall _ _ ?_,{hpost with
    pres:=⟨hpost.pres.os,hpost.pres.tape,hpost.pres.output,hpost.pres.size,fun b hb hn=>hpost.pres.block b hb (fun hh=>by obtain⟨_,_,_,hh,_⟩:=hh;cases hh)⟩
    blk:=fun j b hj=>by
     rcases hj with hj|hj
     ·simp only[List.mem_singleton,Prod.mk.injEq]at hj
      obtain⟨rfl,rfl⟩:=hj
      exact .inl rfl
     ·exact hpost.blk j b (.inr hj)
    once:=fun j b b' h1 h2 h3 h4=>by
     simp only[List.mem_singleton,Prod.mk.injEq]at h1 h2
     rw[h2.2]at h4
     cases h4
    newb:=fun j b q hj hq=>.inl ((hpost.newb j b q hj hq).elim id (fun hh=>by obtain⟨_,_,_,hh,_⟩:=hh;cases hh))}⟩
   have hz0:(if false=true then(Pure.pure 0:Sem Nat)else Builtin.lenOf (a.eval y)).run P w= .ok m w:=by rw[hlen2];rfl
   have hcap':¬n+m≤cap:=by omega
   have hnb:(w.drew).heap=w.heap:=rfl
   have hr1:=hfirst w.drew (fun b _=>rfl)
   have hr2:=hrun2 w.drew (fun b _=>rfl)
   simp only[Builtin.append_,hts,hbx,List.getElem?_toArray,List.getElem?_cons_zero,List.getElem?_cons_succ,Sem.run_bind,run_underlying hu,run_underlying hu2,Result.andThen_ok,he.sizeOf,Sem.run_pure,Bool.false_eq_true,if_false,hlen2]
   have hti:∀w',(typeInfo e).run P w'= .ok i w':=fun w'=>by simp[typeInfo,i1]
   have hzv:∀w',(Go.zeroValue e).run P w'= .ok zv w':=fun w'=>by simp[Go.zeroValue,typeInfo,i1,i4]
   have hcond:¬(((n+m:Nat):Int)>IntKind.i64.max∧(False∨i.bytes=0)):=fun h=>h63' h.1
   have hforced:(Question.appendCap (n+m) cap e).forced=false:=rfl
   simp only[hcap',if_false,Sem.run_bind,hti,Result.andThen_ok,hcond,hfit,run_choose,hforced,Bool.false_eq_true,World.drew_eq,run_askRoom,hr1,Bool.not_false,if_true,hr2,hzv,newRow,run_newObj,Sem.run_pure,World.alloc_eq]
   have harr:((z.take n).flatten.toArray++((z2.drop 0).take m).flatten.toArray++Builtin.zeroCells zv.cells (grownCap w (n+m) cap e - (n+m)))=((z.take n++(z2.drop 0).take m).flatten++(Builtin.zeroCells zv.cells (grownCap w (n+m) cap e - (n+m))).toList).toArray:=by
    apply Array.ext'
    simp
   show Result.ok (Value.slice (some ⟨w.drew.heap.size,0,none⟩) (n+m) (grownCap w (n+m) cap e)) (w.drew.alloc (.cells ((z.take n).flatten.toArray++((z2.drop 0).take m).flatten.toArray++Builtin.zeroCells zv.cells (grownCap w (n+m) cap e - (n+m))) e))=_
   rw[harr]
  rcases has_slc hvx with⟨b,tt,cap,e1,e2,e3,e4⟩|⟨rfl,ad,e4⟩
  ·rcases hzc with⟨b',tt',ex,c1,c2,c3,c4⟩|⟨c1,_⟩
   ·rw[e1]at c1
    cases c1
    simp only at c2
    rcases Nat.lt_or_ge cap (n+m)with hlt|hge
    ·refine grow _ cap e4 hlt ?_
     obtain⟨z3,hz3,hrun3,_⟩:=run_first (P:=P) hvx (hp.hfk k _ hf) hl hw (by simpa using hn)
     intro w' hw'
     have h0:=run_firstCells_some (P:=P) w' te.size n ⟨b,0*te.size,none⟩ n cap ((z.take n).flatten) (by
      rw[flatten_len (s:=te.size) _ (fun u hu=>zw u (List.mem_of_mem_take hu)),List.length_take];congr 1;omega) (by
      intro j u hj
      have hblt:b<w.heap.size:=by
       rcases Nat.lt_or_ge b w.heap.size with h'|h'
       ·exact h'
       ·simp[Array.getElem?_eq_none h']at c2
      have hh:w'.heap[b]? =some (.cells (z.flatten++ex).toArray e (0,0)):=by rw[hw' b hblt];exact c2
      have hadd:(⟨b,0*te.size,none⟩:Addr).add j=⟨b,j,none⟩:=addr_add0 b te.size j
      rw[hadd,cell_of_row w' b j _ e (0,0) hh]
      rw[flatten_take (s:=te.size) _ _ zw]at hj
      have h6:z.flatten[j]? =some u:=by
       rw[List.getElem?_take]at hj
       split at hj
       ·exact hj
       ·cases hj
      have hlt2:j<z.flatten.length:=(List.getElem?_eq_some_iff.1 h6).1
      simp only[List.getElem?_toArray]
      rw[List.getElem?_append_left hlt2]
      exact h6)
     exact h0
    ·-- in place
     have hblt:b<w.heap.size:=by
      rcases Nat.lt_or_ge b w.heap.size with h'|h'
      ·exact h'
      ·simp[Array.getElem?_eq_none h']at c2
     have hr2:=hrun2 w (fun b _=>rfl)
     have hfitc:0*te.size+n*te.size+(((z2.drop 0).take m).flatten).length≤(z.flatten++ex).length:=by
      rw[hnews,c3,Nat.zero_mul,Nat.zero_add,←Nat.add_mul]
      exact Nat.le_trans (Nat.mul_le_mul_right _ hge) (by simpa using e3)
     have hsc:=run_storeCells_at (P:=P) b (n*te.size) e (((z2.drop 0).take m).flatten) 0 (z.flatten++ex).toArray w c2 (by simp only[List.size_toArray];simpa using hfitc) hnone
     have hadd:(⟨b,0*te.size,none⟩:Addr).add (n*te.size)=⟨b,n*te.size,none⟩:=addr_add0 b te.size _
     have hcells:((z.flatten++ex).take (n*te.size+0)++(((z2.drop 0).take m).flatten)++(z.flatten++ex).drop (n*te.size+0+(((z2.drop 0).take m).flatten).length))=
       (z.take n++(z2.drop 0).take m).flatten++(z.flatten++ex).drop (n*te.size+m*te.size):=by
      rw[Nat.add_zero,hnews,List.flatten_append,flatten_take (s:=te.size) _ _ zw,List.take_append_of_le_length (by rw[flatten_len (s:=te.size) _ zw];exact Nat.mul_le_mul_right _ (by omega))]
     rw[hcells]at hsc
     let ρ':Rho:=⟨fun j=>if j=kn then some (b,tt)else ρ.key j,ρ.imm,ρ.glob⟩
     have hle:ρ.Le ρ':=⟨fun j q hq=>by
      show(if j=kn then _ else _)=_
      by_cases hj:j=kn
      ·subst hj;rw[hfresh]at hq;cases hq
      ·rw[if_neg hj];exact hq,fun b o hb=>hb⟩
     refine⟨.slice (some ⟨b,0*te.size,none⟩) (n+m) cap,w.setRow b ((z.take n++(z2.drop 0).take m).flatten++(z.flatten++ex).drop (n*te.size+m*te.size)).toArray,ρ',hcall _ _ ?_, ?_⟩
     ·simp only[Builtin.append_,hts,e4,List.getElem?_toArray,List.getElem?_cons_zero,List.getElem?_cons_succ,Sem.run_bind,run_underlying hu,run_underlying hu2,Result.andThen_ok,he.sizeOf,Sem.run_pure,Bool.false_eq_true,if_false,hlen2,hge,if_true,Bool.not_false,hr2,hadd,hsc]
     ·refine⟨hle,slc_has (.inl ⟨b,tt,cap, ?_,hge,e3,rfl⟩), ?_,⟨rfl,rfl,rfl,by simp[World.setRow], ?_⟩, ?_, ?_, ?_, ?_,fun b o hb=>.inl hb⟩
      ·show(if kn=kn then _ else _)=_
       rw[if_pos rfl]
      ·intro j hj
       show(if j=kn then _ else _)=_
       rw[if_neg]
       rintro rfl
       exact hj _ (List.mem_cons_self ..)
      ·intro q hq hnq
       refine heap_setRow_other fun hqb=>hnq ⟨k,_,tt,List.mem_cons_self .., ?_⟩
       rw[hqb];exact e1
      ·intro j bj hj
       rcases hj with hj|hj
       ·simp only[List.mem_singleton,Prod.mk.injEq]at hj
        obtain⟨rfl,rfl⟩:=hj
        exact .inl rfl
       ·simp only[List.mem_singleton,Prod.mk.injEq]at hj
        obtain⟨rfl,rfl⟩:=hj
        refine .inr (.inl ⟨b,tt,_,(z.flatten++ex).drop (n*te.size+m*te.size), ?_,by rw[Data.obj_cells hrows.notLoop];exact heap_setRow_same c2,hrows.data.mono hle, ?_, ?_⟩)
        ·show(if j=j then _ else _)=_
         rw[if_pos rfl]
        ·have h1:((z.take n++(z2.drop 0).take m).flatten).length=(n+m)*te.size:=by
          rw[flatten_len (s:=te.size) _ (fun u hu=>(List.mem_append.1 hu).elim (fun h=>zw u (List.mem_of_mem_take h)) (hsegw u)),List.length_append,hsegl,List.length_take]
          congr 1
          omega
         rw[List.length_append,h1,List.length_drop,c3,Nat.add_mul]
         rw[hnews,c3]at hfitc
         omega
        ·intro u hu
         have:=List.mem_of_mem_drop hu
         rcases List.mem_append.1 this with h|h
         ·obtain⟨q,hq,hu'⟩:=List.mem_flatten.1 h
          exact hz.one' q hq u hu'
         ·exact c4 u h
      ·intro j c c' h1 h2 h3 h4
       simp only[List.mem_singleton,Prod.mk.injEq]at h1 h2
       rw[h2.2]at h4
       cases h4
      ·intro j bj q hj hq
       simp only[List.mem_singleton,Prod.mk.injEq]at hj
       obtain⟨rfl,rfl⟩:=hj
       have hq':(if j=j then some (b,tt)else ρ.key j)=some q:=hq
       rw[if_pos rfl]at hq'
       cases hq'
       exact .inr ⟨k,_,tt,List.mem_cons_self ..,rfl,e1⟩
      ·intro j bj j' bj' q q' hj hj' hne
       simp only[List.mem_singleton,Prod.mk.injEq]at hj hj'
       exact absurd (hj.1.trans hj'.1.symm) hne
   ·rw[e1]at c1;cases c1
  ·rcases Nat.eq_zero_or_pos m with rfl|hm0
   ·-- nothing onto nothing
    have hr2:=hrun2 w (fun b _=>rfl)
    refine⟨.slice ad 0 0,w,ρ,hcall _ _ ?_, ?_⟩
    ·have hst:∀q:Addr,(storeCells q ([]:List Value)).run P w= .ok () w:=fun q=>rfl
     have hseg0:((z2.drop 0).take 0).flatten=[]:=by simp
     rw[hseg0]at hr2
     cases ad<;>simp only[Builtin.append_,hts,e4,List.getElem?_toArray,List.getElem?_cons_zero,List.getElem?_cons_succ,Sem.run_bind,run_underlying hu,run_underlying hu2,Result.andThen_ok,he.sizeOf,Sem.run_pure,Bool.false_eq_true,if_false,hlen2,Nat.add_zero,Nat.le_refl,if_true,Bool.not_false,hr2,hst]
    ·have hemp:d'.empty∨True:=.inr trivial
     have hd0:d'.empty:=by
      unfold dapp at hd
      split at hd
      ·split at hd
       ·simp only[Option.some.injEq]at hd;subst hd;simp[Data.empty]
       ·simp at hd
      ·simp only[Option.some.injEq]at hd;subst hd;simp[Data.empty]
      ·split at hd
       ·simp only[Option.some.injEq]at hd;subst hd;simp[Data.empty]
       ·simp at hd
      ·simp at hd
     refine⟨.refl ρ,slc_has (.inr ⟨rfl,ad,rfl⟩),fun _ _=>rfl,.refl _ _, ?_, ?_, ?_, ?_,fun b o hb=>.inl hb⟩
     ·intro j bj hj
      rcases hj with hj|hj
      ·simp only[List.mem_singleton,Prod.mk.injEq]at hj
       obtain⟨rfl,rfl⟩:=hj
       exact .inl rfl
      ·simp only[List.mem_singleton,Prod.mk.injEq]at hj
       obtain⟨rfl,rfl⟩:=hj
       exact .inr (.inr ⟨hfresh,hd0⟩)
     ·intro j c c' h1 h2 h3 h4
      simp only[List.mem_singleton,Prod.mk.injEq]at h1 h2
      rw[h2.2]at h4
      cases h4
     ·intro j bj q hj hq
      simp only[List.mem_singleton,Prod.mk.injEq]at hj
      obtain⟨rfl,rfl⟩:=hj
      rw[hfresh]at hq;cases hq
     ·intro j bj j' bj' q q' hj hj' hne
      simp only[List.mem_singleton,Prod.mk.injEq]at hj hj'
      exact absurd (hj.1.trans hj'.1.symm) hne
   ·refine grow ad 0 e4 (by omega) ?_
    intro w' _
    cases ad with
    |none=>simp[Builtin.firstCells]
    |some q=>simp[Builtin.firstCells,loadCells,loadCellsFrom]
end Go.Proofs.YtjofnbpcanhfhabGreatDoor
namespace Go.Proofs.YtjofnbpcanhfhabGreatDoor
open Go.Sx
set_option linter.unusedSimpArgs false
set_option linter.unusedVariables false
set_option maxRecDepth 100000
set_option maxHeartbeats 4000000
theorem SWx_frzP {E:Env} (t k:Nat) {c:Code} {K:Post'} {fr:List (Nat×SV)} {hp:List (Nat×Blk)} {ty:TypeId} {n:Nat} {kd:IntKind} {xs ys:List Int} (hW:∀b,¬E.W0 b) (ht:lk fr t=some (.slc k 1 0 n)) (hk:find hp k=some ⟨ty,true,.ints kd xs⟩)
  (hn:n≤xs.length) (hy:xs.take n=ys) (hs:SWx E c K ((t,ivec kd ys)::fr) (setB hp k ⟨ty,true,.dead⟩)):SWx E c K fr hp:=by
 refine SWx_freeze t k (xs:=xs.map (iel kd)) hW ht hk rfl rfl (keylessL_map (fun _=>rfl) xs) (by simp;omega) ?_
 have e:cutL (xs.map (iel kd)) 0 (0+n)=ys.map (iel kd):=by
  rw[cutL,List.drop_zero,Nat.sub_zero,Nat.zero_add,←List.map_take,hy]
 rw[e]
 exact hs
theorem r_trimM (xs:List Int) (n:Nat) (hn:n≤xs.length) (hl:xs.length<1099511627776) (K:Nat) (wr:Bool):
  CallOK Tryz.prog 132 [.slc K 1 0 n] [(K,⟨3,wr,.ints .i64 xs⟩)] (.slc K 1 0 (cutN xs n)) [] []:=by
 refine CallOK.anyWr ?_
 refine callK (Z:=[]) tabOK mixedOK Tryz.func132 rfl (by kernel_rfl) (args:=[.slc 1001 1 0 n]) (fk:=[(1001,⟨3,false,.ints .i64 xs⟩)]) (c:=.slc 1001 1 0 (cutN xs n)) (new:=[]) (upd:=[]) (ShapeOK.of rfl rfl rfl rfl rfl rfl rfl rfl rfl rfl rfl) rfl (fun _=>K) (NamesOK.ro rfl) ?_
 intro W0 w0 ρ0 hE
 conv=>whnf
 skip
 refine SW_loopN hE (fun k=>k) [0] [1001] (fun m fr hp=>m≤n∧cutN xs m=cutN xs n∧fr=[(0,.slc 1001 1 0 m)]∧hp=[(1001,⟨3,false,.ints .i64 xs⟩)]) n ?_ ?_ ?_
 ·kernel_rfl
 ·exact⟨by omega,rfl,rfl,rfl⟩
 rintro m _ _ ⟨hm,hc,rfl,rfl⟩
 conv=>whnf
 by_cases h0:m=0
 ·subst h0
  have t1:decide (((0:Nat):Int)>0)=false:=rfl
  have e:cutN xs n=0:=hc.symm
  rw[e]
  (repeat(first|(refine step_w2 rfl rfl ?_;conv=>whnf)|(refine g_o (op_pickF rfl (ev_ok rfl) (ev_ok rfl)) ?_;conv=>whnf)))
  exact⟨Recast.refl _,(fun _ _ h=>by cases h),(fun _ _ h=>by cases h)⟩
 ·obtain⟨m,rfl⟩:∃k,m=k+1:=⟨m - 1,by omega⟩
  have t1:decide (((m+1:Nat):Int)>0)=true:=decide_eq_true (by omega)
  have e1:IntKind.i64.wrap (((m+1:Nat):Int) - 1)=(m:Int):=by rw[wrap_i64 (by omega) (by omega)];omega
  by_cases hx:xs.getD m 0=0
  ·have t2:(xs.getD m 0==0)=true:=beq_iff_eq.2 hx
   rw[cutN,if_pos hx]at hc
   (repeat((first|refine step_w1 rfl rfl ?_|refine step_oL (by first|omega|decide|(simp only[tl0,dlen,List.length_replicate,List.length_set,List.length_map,List.length_zipWith,List.length_take,List.length_append,List.length_cons,List.length_nil];omega)) ?_|refine step_oA (by first|omega|decide|(simp only[tl0,dlen,List.length_replicate,List.length_set,List.length_map,List.length_zipWith,List.length_take,List.length_append,List.length_cons,List.length_nil];omega)) ?_|refine g_o (op_pickT rfl (ev_ok rfl) (ev_ok rfl)) ?_|rw[t1]|rw[e1]|rw[show 0+(m:Int).toNat=m from by omega]|rw[t2]|rw[show((m:Int) - 0).toNat=m from by omega]|rw[Nat.zero_add]);conv=>whnf))
   exact⟨m,fun k=>k,[0],[1001],by omega,by kernel_rfl,by omega,hc,rfl,rfl⟩
  ·have t2:(xs.getD m 0==0)=false:=beq_false_of_ne hx
   rw[cutN,if_neg hx]at hc
   rw[←hc]
   (repeat((first|refine step_w1 rfl rfl ?_|refine step_w2 rfl rfl ?_|refine step_oL (by first|omega|decide|(simp only[tl0,dlen,List.length_replicate,List.length_set,List.length_map,List.length_zipWith,List.length_take,List.length_append,List.length_cons,List.length_nil];omega)) ?_|refine step_oA (by first|omega|decide|(simp only[tl0,dlen,List.length_replicate,List.length_set,List.length_map,List.length_zipWith,List.length_take,List.length_append,List.length_cons,List.length_nil];omega)) ?_|refine g_o (op_pickT rfl (ev_ok rfl) (ev_ok rfl)) ?_|rw[t1]|rw[e1]|rw[show 0+(m:Int).toNat=m from by omega]|rw[t2]);conv=>whnf))
   exact⟨Recast.refl _,(fun _ _ h=>by cases h),(fun _ _ h=>by cases h)⟩
theorem div_pow_step (R i:Nat):R/10000^i=10000*(R/10000^(i+1))+R/10000^i % 10000:=by
 have:=Nat.div_add_mod (R/10000^i) 10000
 rw[Nat.div_div_eq_div_mul,←Nat.pow_succ]at this
 exact this.symm
theorem r_leading (R F:Nat) (hR:(td R).length<1099511627776) (hF:F<1099511627776) (hb:R/10000^F<100000000000000000):CallOK Tryz.prog 148 [nN R,.val (.int .i64 (F:Nat))] [] (.val (.int .i64 ((R/10000^F:Nat):Int))) [] []:=by
 have e0:IntKind.i64.wrap (((td R).length:Int) - 1)=((td R).length:Int) - 1:=wrap_i64 (by omega) (by omega)
 refine callV (Z:=[]) tabOK mixedOK Tryz.func148 rfl (by kernel_rfl) rfl rfl (by kernel_rfl) rfl ?_
 intro W0 w0 ρ0 hE
 conv=>whnf
 (repeat(first|(refine g_o (op_lenM rfl rfl rfl (ev_ok rfl) (tgt rfl) rfl) ?_;conv=>whnf)|(rw[e0];conv=>whnf)))
 refine SW_loopN hE (fun k=>k) [0,1,5,6] [] (fun q fr hp=>∃j:Nat,q=j - F∧j≤(td R).length∧(F≤j∨j=(td R).length)∧fr=[(0,nN R),(1,.val (.int .i64 (F:Nat))),(5,.val (.int .i64 ((R/10000^j:Nat):Int))),(6,.val (.int .i64 ((j:Int) - 1)))]∧hp=[]) ((td R).length - F) ?_ ?_ ?_
 ·kernel_rfl
 ·exact⟨(td R).length,rfl,Nat.le_refl _,.inr rfl,by rw[Nat.div_eq_of_lt (tlt_len R)];rfl,rfl⟩
 rintro q _ _ ⟨j,rfl,hj,hjF,rfl,rfl⟩
 conv=>whnf
 by_cases hgo:F<j
 ·obtain⟨i,rfl⟩:∃i,j=i+1:=⟨j - 1,by omega⟩
  have ei:(((i+1:Nat):Int) - 1)=(i:Int):=by omega
  rw[ei]
  have hs:=div_pow_step R i
  have hle:R/10000^i≤R/10000^F:=Nat.div_le_div_left (Nat.pow_le_pow_right (by decide) (by omega)) (Nat.pow_pos (by decide))
  have hg:=td_get R i
  have t1:decide ((i:Int)≥(F:Int))=true:=decide_eq_true (by omega)
  generalize hA:R/10000^(i+1)=A at*
  generalize hB:R/10000^i=B at*
  have e1:IntKind.i64.wrap (10000*(A:Int))=10000*(A:Int):=wrap_i64 (by omega) (by omega)
  have e2:IntKind.i64.wrap (10000*(A:Int)+((B % 10000:Nat):Int))=(B:Int):=by rw[wrap_i64 (by omega) (by omega)];omega
  have e3:IntKind.i64.wrap ((i:Int) - 1)=(i:Int) - 1:=wrap_i64 (by omega) (by omega)
  have hiT:i<(td R).length:=by omega
  clear hs hle
  (repeat((first|refine step_w1 rfl rfl ?_|refine g_o (op_loadA rfl (ev_ok rfl) (tgt rfl) rfl (Nat.succ_ne_zero _) rfl) ?_|refine g_o (op_indexN (α:=Int) (d:=0) rfl (ev_ok rfl) (ev_ok rfl) (tgt rfl) rfl (tgt rfl) rfl (by omega)) ?_|rw[t1]|rw[hg]|rw[e1]|rw[e2]|rw[e3]);conv=>whnf))
  exact⟨i - F,fun k=>k,[0,1,5,6],[],by omega,by kernel_rfl,i,rfl,by omega,by omega,by rw[hB];rfl,rfl⟩
 ·have t1:decide ((j:Int) - 1≥(F:Int))=false:=decide_eq_false (by omega)
  have e:R/10000^F=R/10000^j:=by
   rcases hjF with h|h
   ·rw[show j=F by omega]
   ·rw[h,Nat.div_eq_of_lt (tlt_len R),Nat.div_eq_of_lt (td_lt_pow (by omega))]
  rw[e]
  (repeat(first|(refine step_w2 rfl rfl ?_;conv=>whnf)|(rw[t1];conv=>whnf)));(first|exact Recast.refl _|exact Frz.recast (Recast.refl _) rfl|(refine Frz.one rfl rfl ?_;skip)|(refine Frz.tup ?_;skip))
theorem r_leadingM (L:List Int) (R F:Nat) (hL:L.take (td R).length=td R) (hLl:(td R).length≤L.length) (hR:(td R).length<1099511627776) (hF:F<1099511627776) (hb:R/10000^F<100000000000000000) (K:Nat) (wr:Bool):
  CallOK Tryz.prog 148 [.slc K 1 0 (td R).length,.val (.int .i64 (F:Nat))] [(K,⟨3,wr,.ints .i64 L⟩)] (.val (.int .i64 ((R/10000^F:Nat):Int))) [] []:=by
 have e0:IntKind.i64.wrap (((td R).length:Int) - 1)=((td R).length:Int) - 1:=wrap_i64 (by omega) (by omega)
 have hLg:∀i,i<(td R).length→L.getD i 0=((R/10000^i % 10000:Nat):Int):=fun i hi=>by rw[←td_get,←hL,getD_take,if_pos hi]
 refine CallOK.anyWr ?_
 refine callK (Z:=[]) tabOK mixedOK Tryz.func148 rfl (by kernel_rfl) (args:=[.slc 1001 1 0 (td R).length,.val (.int .i64 (F:Nat))]) (fk:=[(1001,⟨3,false,.ints .i64 L⟩)]) (c:=.val (.int .i64 ((R/10000^F:Nat):Int))) (new:=[]) (upd:=[]) (ShapeOK.of rfl rfl rfl rfl rfl rfl rfl rfl rfl rfl rfl) rfl (fun _=>K) (NamesOK.ro rfl) ?_
 intro W0 w0 ρ0 hE
 conv=>whnf
 (repeat(first|(rw[e0];conv=>whnf)))
 refine SW_loopN hE (fun k=>k) [0,1,5,6] [1001] (fun q fr hp=>∃j:Nat,q=j - F∧j≤(td R).length∧(F≤j∨j=(td R).length)∧fr=[(0,.slc 1001 1 0 (td R).length),(1,.val (.int .i64 (F:Nat))),(5,.val (.int .i64 ((R/10000^j:Nat):Int))),(6,.val (.int .i64 ((j:Int) - 1)))]∧hp=[(1001,⟨3,false,.ints .i64 L⟩)]) ((td R).length - F) ?_ ?_ ?_
 ·kernel_rfl
 ·exact⟨(td R).length,rfl,Nat.le_refl _,.inr rfl,by rw[Nat.div_eq_of_lt (tlt_len R)];rfl,rfl⟩
 rintro q _ _ ⟨j,rfl,hj,hjF,rfl,rfl⟩
 conv=>whnf
 by_cases hgo:F<j
 ·obtain⟨i,rfl⟩:∃i,j=i+1:=⟨j - 1,by omega⟩
  have ei:(((i+1:Nat):Int) - 1)=(i:Int):=by omega
  rw[ei]
  have hs:=div_pow_step R i
  have hle:R/10000^i≤R/10000^F:=Nat.div_le_div_left (Nat.pow_le_pow_right (by decide) (by omega)) (Nat.pow_pos (by decide))
  have hg:=hLg i (by omega)
  have t1:decide ((i:Int)≥(F:Int))=true:=decide_eq_true (by omega)
  generalize hA:R/10000^(i+1)=A at*
  generalize hB:R/10000^i=B at*
  have e1:IntKind.i64.wrap (10000*(A:Int))=10000*(A:Int):=wrap_i64 (by omega) (by omega)
  have e2:IntKind.i64.wrap (10000*(A:Int)+((B % 10000:Nat):Int))=(B:Int):=by rw[wrap_i64 (by omega) (by omega)];omega
  have e3:IntKind.i64.wrap ((i:Int) - 1)=(i:Int) - 1:=wrap_i64 (by omega) (by omega)
  have hiT:i<(td R).length:=by omega
  clear hs hle
  (repeat((first|refine step_w1 rfl rfl ?_|refine step_oL (by first|omega|decide|(simp only[tl0,dlen,List.length_replicate,List.length_set,List.length_map,List.length_zipWith,List.length_take,List.length_append,List.length_cons,List.length_nil];omega)) ?_|refine step_oA (by first|omega|decide|(simp only[tl0,dlen,List.length_replicate,List.length_set,List.length_map,List.length_zipWith,List.length_take,List.length_append,List.length_cons,List.length_nil];omega)) ?_|rw[t1]|rw[hg]|rw[e1]|rw[e2]|rw[e3]|rw[Int.toNat_natCast]|rw[Nat.zero_add]);conv=>whnf))
  exact⟨i - F,fun k=>k,[0,1,5,6],[1001],by omega,by kernel_rfl,i,rfl,by omega,by omega,by rw[hB];rfl,rfl⟩
 ·have t1:decide ((j:Int) - 1≥(F:Int))=false:=decide_eq_false (by omega)
  have e:R/10000^F=R/10000^j:=by
   rcases hjF with h|h
   ·rw[show j=F by omega]
   ·rw[h,Nat.div_eq_of_lt (tlt_len R),Nat.div_eq_of_lt (td_lt_pow (by omega))]
  rw[e]
  (repeat(first|(refine step_w2 rfl rfl ?_;conv=>whnf)|(rw[t1];conv=>whnf)))
  exact⟨Recast.refl _,(fun _ _ h=>by cases h),(fun _ _ h=>by cases h)⟩
section
variable {a b R d P F T lb:Nat}
theorem guess_lo {R b P T:Nat} (hb:0<b) (hP:0<P) (hT:b<(T+1)*P):R/P/(T+1)≤R/b:=by
 rw[Nat.le_div_iff_mul_le hb]
 have h1:R/P/(T+1)*(T+1)≤R/P:=Nat.div_mul_le_self _ _
 have h2:R/P*P≤R:=Nat.div_mul_le_self _ _
 have h3:R/P/(T+1)*b≤R/P/(T+1)*((T+1)*P):=Nat.mul_le_mul_left _ (Nat.le_of_lt hT)
 have h4:R/P/(T+1)*(T+1)*P≤R/P*P:=Nat.mul_le_mul_right P h1
 rw[Nat.mul_assoc]at h4
 omega
theorem guess_hi {R b P T:Nat} (hT0:0<T) (hP:0<P) (hT:T*P≤b):R/b≤R/P/T:=by
 rw[Nat.le_div_iff_mul_le hT0,Nat.le_div_iff_mul_le hP]
 have h1:R/b*b≤R:=Nat.div_mul_le_self _ _
 have h2:R/b*(T*P)≤R/b*b:=Nat.mul_le_mul_left _ hT
 rw[Nat.mul_assoc]
 omega
end
theorem step_div {A b d:Nat} (hb:0<b):(10000*A+d)/b=10000*(A/b)+(A % b*10000+d)/b:=by
 have h:10000*A+d=A % b*10000+d+b*(10000*(A/b)):=by
  have:=Nat.div_add_mod A b
  have e:b*(10000*(A/b))=10000*(b*(A/b)):=by rw[←Nat.mul_assoc,Nat.mul_comm b 10000,Nat.mul_assoc]
  omega
 rw[h,Nat.add_mul_div_left _ _ hb];omega
theorem step_mod {A b d:Nat}:(10000*A+d) % b=(A % b*10000+d) % b:=by
 have h:10000*A+d=A % b*10000+d+b*(10000*(A/b)):=by
  have:=Nat.div_add_mod A b
  have e:b*(10000*(A/b))=10000*(b*(A/b)):=by rw[←Nat.mul_assoc,Nat.mul_comm b 10000,Nat.mul_assoc]
  omega
 rw[h,Nat.add_mul_mod_self_left]
theorem digit_lt {r b d:Nat} (hb:0<b) (hr:r<b) (hd:d<10000):(r*10000+d)/b<10000:=by
 rw[Nat.div_lt_iff_lt_mul hb]
 have:(r+1)*10000≤b*10000:=Nat.mul_le_mul_right _ hr
 rw[Nat.add_mul]at this
 rw[Nat.mul_comm 10000 b];omega
theorem top_pos {b:Nat} (hb:0<b):0<b/10000^((td b).length - 3):=by
 refine Nat.div_pos (Nat.le_trans (Nat.pow_le_pow_right (by decide) (by omega)) (td_ge_pow (by omega))) (Nat.pow_pos (by decide))
theorem top_lt {b:Nat}:b/10000^((td b).length - 3)<1000000000000:=by
 rw[Nat.div_lt_iff_lt_mul (Nat.pow_pos (by decide)),show 1000000000000=10000^3 from rfl,←Nat.pow_add]
 exact td_lt_pow (by omega)
theorem td_cons {d R:Nat} (hd:d<10000) (h:R*10000+d≠0):td (R*10000+d)=(d:Int)::td R:=by
 rw[td_succ h,show(R*10000+d) % 10000=d by omega,show(R*10000+d)/10000=R by omega]
theorem td_drop:∀(k n:Nat),(td n).drop k=td (n/10000^k)
 |0,n=>by simp
 |k+1,n=>by
  by_cases h:n=0
  ·subst h;rw[td_zero,Nat.zero_div];rfl
  ·rw[td_succ h,List.drop_succ_cons,td_drop k,Nat.div_div_eq_div_mul,Nat.pow_succ,Nat.mul_comm]
theorem cut_cons {d R:Nat} (hd:d<10000):cutN ((d:Int)::td R) ((td R).length+1)=(td (R*10000+d)).length∧((d:Int)::td R).take (td (R*10000+d)).length=td (R*10000+d):=by
 by_cases h:R*10000+d=0
 ·obtain rfl:R=0:=by omega
  obtain rfl:d=0:=by omega
  exact⟨rfl,rfl⟩
 ·have e:=td_cons hd h
  have hl:(td (R*10000+d)).length=(td R).length+1:=by rw[e];rfl
  have ht:=(td_top h).2
  rw[hl,e,Nat.add_sub_cancel]at ht
  refine⟨?_, ?_⟩
  ·rw[hl,cutN,if_neg ht]
  ·rw[←e,List.take_length]
theorem wrap_nat {n:Nat} (h:n<9223372036854775808):IntKind.i64.wrap (n:Int)=n:=wrap_i64 (by omega) (by omega)
theorem r_Div (a b:Nat) (hb:0<b) (ha:(td a).length<268435456) (hbl:(td b).length<268435456):CallOK Tryz.prog 128 [nN a,nN b] [] (.tup [nN (a/b),nN (a % b)]) [] []:=by
 have k1:=r_Cmp a b (by omega) (by omega)
 by_cases hlt:a<b
 ·have t1:decide (((a:Int) - b).sign<0)=true:=decide_eq_true (by rw[Int.sign_eq_neg_one_of_neg (by omega)];omega)
  have e0:nN (a/b)=vecA 1 []:=by rw[Nat.div_eq_of_lt hlt];rfl
  have e1:nN (a % b)=nN a:=by rw[Nat.mod_eq_of_lt hlt]
  rw[e0,e1]
  refine callF (Z:=[]) tabOK mixedOK Tryz.func128 rfl (by kernel_rfl) (by first|rfl|(simp[keylessL,keyless,keylessL_map, *];done)) (by first|rfl|(simp[keylessL,keyless,keylessL_map, *];done)) (by kernel_rfl) rfl ?_
  intro w0 ρ0 hE
  conv=>whnf
  (repeat(first|(refine step_w1 rfl rfl ?_;conv=>whnf)|(refine g_c (by assumption) ?_;conv=>whnf)|(rw[t1];conv=>whnf)));(first|exact Recast.refl _|exact Frz.recast (Recast.refl _) rfl|(refine Frz.one rfl rfl ?_;skip)|(refine Frz.tup ?_;(repeat(first|exact FrzC.keyless rfl|exact FrzL.nil|refine FrzL.cons ?_ ?_|exact FrzC.nilS))))
 have t1:decide (((a:Int) - b).sign<0)=false:=decide_eq_false (by have:=Int.sign_nonneg_iff.2 (show 0≤(a:Int) - b by omega);omega)
 have hle:=td_len_mono (show b≤a by omega)
 have hlb0:0<(td b).length:=by have:=(td_len_zero (n:=b));omega
 have hT0:=top_pos hb
 have hT1:=top_lt (b:=b)
 have hPos:0<10000^((td b).length - 3):=Nat.pow_pos (by decide)
 have hTb:b/10000^((td b).length - 3)*10000^((td b).length - 3)≤b:=Nat.div_mul_le_self _ _
 have hbT:b<(b/10000^((td b).length - 3)+1)*10000^((td b).length - 3):=by rw[Nat.mul_comm];exact Nat.lt_mul_div_succ b hPos
 have k2:=r_leading b ((td b).length - 3) (by omega) (by omega) (by omega)
 generalize hF:(td b).length - 3=F at*
 generalize hT:b/10000^F=T at*
 have e1:IntKind.i64.wrap (((td b).length:Int) - 3)=((td b).length:Int) - 3:=wrap_i64 (by omega) (by omega)
 have e2:(if ((td b).length:Int) - 3>0 then((td b).length:Int) - 3 else 0)=(F:Int):=by split<;>omega
 generalize hD:(td a).length - (td b).length=D
 have e3:IntKind.i64.wrap (((td a).length:Int) - ((td b).length:Int))=(D:Int):=by rw[wrap_i64 (by omega) (by omega)];omega
 have e4:IntKind.i64.wrap ((D:Int)+1)=((D+1:Nat):Int):=by rw[wrap_i64 (by omega) (by omega)];omega
 have hA0:a/10000^(D+1)<b:=by
  have h1:=tlt_len a
  have h2:=td_ge_pow (n:=b) (by omega)
  rw[Nat.div_lt_iff_lt_mul (Nat.pow_pos (by decide))]
  refine Nat.lt_of_lt_of_le h1 (Nat.le_trans (m:=10000^((td b).length - 1)*10000^(D+1)) ?_ (Nat.mul_le_mul_right _ h2))
  rw[←Nat.pow_add]
  exact Nat.pow_le_pow_right (by decide) (by omega)
 have hdrop:((td a).drop (D+1)).take ((td a).length - (D+1))=td (a/10000^(D+1)):=by
  rw[td_drop,List.take_of_length_le]
  rw[←td_drop,List.length_drop];omega
 have wb:=td_w32 b
 refine callF (Z:=[]) tabOK mixedOK Tryz.func128 rfl (by kernel_rfl) (by first|rfl|(simp[keylessL,keyless,keylessL_map, *];done)) (by first|rfl|(simp[keylessL,keyless,keylessL_map, *];done)) (by kernel_rfl) rfl ?_
 intro w0 ρ0 hE
 conv=>whnf
 have hR0l:(td (a/10000^(D+1))).length<1099511627776:=by have:=td_len_mono (Nat.div_le_self a (10000^(D+1)));omega
 generalize hR0:a/10000^(D+1)=R0 at*
 (repeat(first|(refine step_w2 rfl rfl ?_;conv=>whnf)|(refine step_oA (by first|omega|decide|(simp only[tl0,dlen,List.length_replicate,List.length_set,List.length_map,List.length_zipWith,List.length_take,List.length_append,List.length_cons,List.length_nil];omega)) ?_;conv=>whnf)|(refine g_c (by assumption) ?_;conv=>whnf)|(refine g_o (op_lenM rfl rfl rfl (ev_ok rfl) (tgt rfl) rfl) ?_;conv=>whnf)|(refine g_o (op_sliceM rfl (ev_ok rfl) (bound_spec rfl) (bound_spec rfl) (.inl rfl) (tgt rfl) rfl (tgt rfl) rfl (by omega)) ?_;conv=>whnf)|(refine⟨.slc 40 1 0 (0+(td R0).length),[(35,⟨3,true,.ints .i64 []⟩)],[(40,⟨3,true,.ints .i64 (td R0)⟩)],[(35,⟨3,true,.dead⟩)],op_appendV rfl rfl rfl (ev_ok rfl) (ev_ok rfl) (rows_ints (td R0)) (tabOK.get (t:=61) rfl) rfl (tabOK.get (t:=61) rfl) rfl (tabOK.get (t:=3) rfl) (List.mem_cons_self ..) rfl rfl (by simp[dlen]) (by simp) (by simp[dlen]) (by simp[dapp]) (by show(0+_)*ti3.bytes≤_;simp only[tiB3];omega) (by omega),one_fk rfl,one_new rfl,one_upd (List.mem_cons_self ..) rfl rfl rfl, ?_⟩;conv=>whnf)|(rw[t1];conv=>whnf)|(rw[e1];conv=>whnf)|(rw[e2];conv=>whnf)|(rw[e3];conv=>whnf)|(rw[e4];conv=>whnf)|(rw[hdrop];conv=>whnf)|(rw[Int.toNat_natCast];conv=>whnf)|(rw[Nat.zero_add];conv=>whnf)))
 refine SWx_frzP 10 40 (fun _ h=>h) rfl rfl (Nat.le_refl _) (List.take_length) ?_
 have e5:((D+1:Nat):Int) - 1=(D:Int):=by omega
 refine SW_loopS hE (fun k=>k) [0,1,6,7,8,9,10] [34] (fun m fr hp=>∃Q:List Int,m≤D+1∧Q.length=D+1∧W4 Q∧(∀k,k<m→Q.getD k 0=0)∧valT Q (D+1)=((a/10000^m/b:Nat):Int)*10000^m∧
  fr=[(0,nN a),(1,nN b),(6,.val (.int .i64 (F:Nat))),(7,.val (.int .i64 (T:Nat))),(8,.val (.int .i64 ((m:Int) - 1))),(9,.slc 34 1 0 (D+1)),(10,nN (a/10000^m % b))]∧hp=[(34,zblk Q)]) (D+1) ?_ ?_ ?_
 ·kernel_rfl
 ·refine⟨List.replicate (D+1) 0,Nat.le_refl _,List.length_replicate,W4_of (fun x hx=>by rw[(List.mem_replicate.1 hx).2];omega),(fun k _=>getD_replicate), ?_, ?_,rfl⟩
  ·rw[valT_zeros (k:=0) (fun i _ _=>getD_replicate) (Nat.zero_le _),hR0,Nat.div_eq_of_lt hA0];simp[valT]
  ·rw[e5,hR0,Nat.mod_eq_of_lt hA0];rfl
 rintro m _ _ ⟨Q,hm,hQl,hQw,hQ0,hQv,rfl,rfl⟩
 by_cases h0:m=0
 ·subst h0
  rw[Nat.pow_zero,Nat.div_one,Int.pow_zero,Int.mul_one]at hQv
  have hz:nN (a/10000^0 % b)=nN (a % b):=by rw[Nat.pow_zero,Nat.div_one]
  rw[hz]
  have t2:decide (((0:Nat):Int) - 1≥0)=false:=rfl
  have kt:=r_trim Q (by omega) hQw
  rw[show(valT Q Q.length).toNat=a/b by rw[hQl,hQv];exact Int.toNat_natCast _]at kt
  refine SWx_frzI 9 34 (fun _ h=>h) rfl rfl hQl.symm ?_
  refine SWx.of hE ?_
  conv=>whnf
  (repeat(first|(refine step_w2 rfl rfl ?_;conv=>whnf)|(refine g_c (by assumption) ?_;conv=>whnf)));(first|exact Recast.refl _|exact Frz.recast (Recast.refl _) rfl|(refine Frz.one rfl rfl ?_;skip)|(refine Frz.tup ?_;skip))
 ·obtain⟨i,rfl⟩:∃i,m=i+1:=⟨m - 1,by omega⟩
  have ei:(((i+1:Nat):Int) - 1)=(i:Int):=by omega
  rw[ei]
  have hst:=div_pow_step a i
  have hdig:(td a).getD i 0=((a/10000^i % 10000:Nat):Int):=td_get a i
  have hdlt:a/10000^i % 10000<10000:=Nat.mod_lt _ (by decide)
  have hia:i<(td a).length:=by omega
  have hAle:=td_len_mono (Nat.le_trans (Nat.mod_le (a/10000^(i+1)) b) (Nat.div_le_self a _))
  have hq1:=hQv
  have hfin:((a/10000^i/b:Nat):Int)=10000*((a/10000^(i+1)/b:Nat):Int)+(((a/10000^(i+1) % b*10000+a/10000^i % 10000)/b:Nat):Int):=by
   rw[hst,step_div hb]
   have:(10000*(a/10000^(i+1))+a/10000^i % 10000) % 10000=a/10000^i % 10000:=by rw[←hst]
   rw[this];omega
  have hfinr:a/10000^i % b=(a/10000^(i+1) % b*10000+a/10000^i % 10000) % b:=by
   have h:=step_mod (A:=a/10000^(i+1)) (b:=b) (d:=a/10000^i % 10000)
   rw[←hst]at h;exact h
  have hRb:a/10000^(i+1) % b<b:=Nat.mod_lt _ hb
  clear hst
  generalize hd:a/10000^i % 10000=d at*
  generalize hR:a/10000^(i+1) % b=R at*
  obtain⟨hc1,hc2⟩:=cut_cons (R:=R) hdlt
  have hR'l:(td (R*10000+d)).length≤(td R).length+1:=tlen_le (by have:=tlt_len R;rw[Nat.pow_succ];omega)
  have hqlt:=digit_lt (d:=d) hb hRb hdlt
  have hR'b:(td (R*10000+d)).length≤(td b).length+1:=tlen_le (by have:=tlt_len b;rw[Nat.pow_succ];omega)
  have kt:=r_trimM ((d:Int)::td R) (1+(td R).length) (by rw[List.length_cons];omega) (by rw[List.length_cons];omega) 51 true
  rw[Nat.add_comm 1,hc1,Nat.add_comm]at kt
  have hfst:(R*10000+d)/10000^F<10000^4:=by
   rw[Nat.div_lt_iff_lt_mul (Nat.pow_pos (by decide)),←Nat.pow_add]
   exact td_lt_pow (by omega)
  have kl:=r_leadingM ((d:Int)::td R) (R*10000+d) F hc2 (by rw[List.length_cons];omega) (by omega) (by omega) (by omega) 51 true
  have glo:=guess_lo (R:=R*10000+d) hb hPos hbT
  have ghi:=guess_hi (R:=R*10000+d) hT0 hPos hTb
  have hsub:R*10000+d - b*((R*10000+d)/b)=a/10000^i % b:=by
   rw[hfinr];have:=Nat.div_add_mod (R*10000+d) b;omega
  have hmulle:b*((R*10000+d)/b)≤R*10000+d:=Nat.mul_div_le _ _
  have hqle:∀x,b*x≤R*10000+d↔x≤(R*10000+d)/b:=fun x=>by rw[Nat.le_div_iff_mul_le hb,Nat.mul_comm]
  generalize hR':R*10000+d=R' at*
  generalize hfe:R'/10000^F=fst at*
  generalize hqd:R'/b=qd at*
  have e6:IntKind.i64.wrap ((T:Int)+1)=((T+1:Nat):Int):=by rw[wrap_i64 (by omega) (by omega)];omega
  have e7:IntKind.i64.wrap ((fst:Int).tdiv ((T+1:Nat):Int))=((fst/(T+1):Nat):Int):=by
   rw[Int.tdiv_eq_ediv_of_nonneg (by omega),←Int.natCast_ediv]
   exact wrap_nat (Nat.lt_of_le_of_lt (Nat.div_le_self fst (T+1)) (by omega))
  have e8:IntKind.i64.wrap ((fst:Int).tdiv (T:Int))=((fst/T:Nat):Int):=by
   rw[Int.tdiv_eq_ediv_of_nonneg (by omega),←Int.natCast_ediv]
   exact wrap_nat (Nat.lt_of_le_of_lt (Nat.div_le_self fst T) (by omega))
  have e9:(if (9999:Int)<((fst/T:Nat):Int)then(9999:Int)else((fst/T:Nat):Int))=((min (fst/T) 9999:Nat):Int):=by split<;>omega
  have t2:decide ((i:Int)≥0)=true:=decide_eq_true (by omega)
  have hRl:(td R).length<1099511627776:=by omega
  refine SWx.of hE ?_
  conv=>whnf
  (repeat(first|(refine step_w1 rfl rfl ?_;conv=>whnf)|(refine step_i (by kernel_rfl) ?_;conv=>whnf)|(refine step_oN (by first|omega|decide|(simp only[tl0,dlen,List.length_replicate,List.length_set,List.length_map,List.length_zipWith,List.length_take,List.length_append,List.length_cons,List.length_nil];omega)) ?_;conv=>whnf)|(refine g_c1 (by assumption) rfl ?_;conv=>whnf)|(refine g_o (op_loadA rfl (ev_ok rfl) (tgt rfl) rfl (Nat.succ_ne_zero _) rfl) ?_;conv=>whnf)|(refine g_o (op_indexN (α:=Int) (d:=0) rfl (ev_ok rfl) (ev_ok rfl) (tgt rfl) rfl (tgt rfl) rfl (by omega)) ?_;conv=>whnf)|(refine⟨.slc 51 1 0 (1+(td R).length),[(49,⟨3,true,.ints .i64 [(d:Int)]⟩)],[(51,⟨3,true,.ints .i64 ((d:Int)::td R)⟩)],[(49,⟨3,true,.dead⟩)],op_appendV rfl rfl rfl (ev_ok rfl) (ev_ok rfl) (rows_ints (td R)) (tabOK.get (t:=61) rfl) rfl (tabOK.get (t:=61) rfl) rfl (tabOK.get (t:=3) rfl) (List.mem_cons_self ..) rfl rfl (by simp[dlen]) (by simp) (by simp[dlen]) (by simp[dapp]) (by show(1+_)*ti3.bytes≤_;simp only[tiB3];omega) (by omega),one_fk rfl,one_new rfl,one_upd (List.mem_cons_self ..) rfl rfl rfl, ?_⟩;conv=>whnf)|(rw[t2];conv=>whnf)|(rw[hdig];conv=>whnf)|(rw[e6];conv=>whnf)|(rw[e7];conv=>whnf)|(rw[e8];conv=>whnf)|(rw[e9];conv=>whnf)))
  refine SWx_frzP 10 51 (fun _ h=>h) rfl rfl (by rw[List.length_cons];omega) hc2 ?_
  have hmin1:fst/(T+1)≤qd:=glo
  have hmin2:qd≤min (fst/T) 9999:=by omega
  have hmin3:min (fst/T) 9999≤9999:=Nat.min_le_right _ _
  clear kl kt hc1 hc2 glo ghi hbT hTb e9 e8 e7 e6 hfst
  generalize fst/(T+1)=lo0 at*
  generalize min (fst/T) 9999=hi0 at*
  refine SW_loopN hE (fun k=>k) [0,1,6,7,8,9,10,12,13] [34] (fun q fr hp=>∃lo hi:Nat,q=hi - lo∧lo≤qd∧qd≤hi∧hi≤9999∧
   fr=[(0,nN a),(1,nN b),(6,.val (.int .i64 (F:Nat))),(7,.val (.int .i64 (T:Nat))),(8,.val (.int .i64 (i:Nat))),(9,.slc 34 1 0 (D+1)),(10,nN R'),(12,.val (.int .i64 (lo:Nat))),(13,.val (.int .i64 (hi:Nat)))]∧hp=[(34,zblk Q)]) (hi0 - lo0) ?_ ?_ ?_
  ·kernel_rfl
  ·exact⟨lo0,hi0,rfl,hmin1,hmin2,hmin3,rfl,rfl⟩
  rintro q _ _ ⟨lo,hi,rfl,hlo,hhi,hhi2,rfl,rfl⟩
  conv=>whnf
  by_cases hl:lo<hi
  ·have t3:decide ((lo:Int)<(hi:Int))=true:=decide_eq_true (by omega)
   have e10:IntKind.i64.wrap ((lo:Int)+(hi:Int))=((lo+hi:Nat):Int):=by rw[wrap_i64 (by omega) (by omega)];omega
   have e11:IntKind.i64.wrap (((lo+hi:Nat):Int)+1)=((lo+hi+1:Nat):Int):=by rw[wrap_i64 (by omega) (by omega)];omega
   have e12:IntKind.i64.wrap (((lo+hi+1:Nat):Int).tdiv 2)=(((lo+hi+1)/2:Nat):Int):=by
    rw[Int.tdiv_eq_ediv_of_nonneg (by omega)]
    exact wrap_i64 (by omega) (by omega)
   have e12':(((lo+hi+1:Nat):Int).tdiv 2)=(((lo+hi+1)/2:Nat):Int):=by rw[Int.tdiv_eq_ediv_of_nonneg (by omega)];rfl
   have hmid:lo<(lo+hi+1)/2∧(lo+hi+1)/2≤hi:=by omega
   generalize (lo+hi+1)/2=mid at*
   have e13:IntKind.u64.wrap (mid:Int)=(mid:Int):=wrap_u64 (by omega) (by omega)
   have hbm:(td (b*mid)).length≤(td b).length+1:=tlen_le (by
    have h1:=tlt_len b
    have h2:b*mid≤b*10000:=Nat.mul_le_mul_left _ (by omega)
    rw[Nat.pow_succ];omega)
   have hml:(td mid).length≤1:=tlen_le (by omega)
   have o1:=r_Of mid (by omega)
   have o2:=r_Mul b mid (by omega) (by omega)
   have o3:=r_Cmp (b*mid) R' (by omega) (by omega)
   by_cases hc:b*mid≤R'
   ·have t4:decide ((((b*mid:Nat):Int) - R').sign≤0)=true:=decide_eq_true (by
     have:=Int.sign_nonpos_iff.2 (show((b*mid:Nat):Int) - R'≤0 by omega);omega)
    have:=(hqle mid).1 hc
    (repeat((first|refine step_w1 rfl rfl ?_|refine step_oN (by first|omega|decide|(simp only[tl0,dlen,List.length_replicate,List.length_set,List.length_map,List.length_zipWith,List.length_take,List.length_append,List.length_cons,List.length_nil];omega)) ?_|refine g_c (by assumption) ?_|rw[t3]|rw[e10]|rw[e11]|rw[e12]|rw[e13]|rw[t4]);conv=>whnf))
    exact⟨hi - mid,fun k=>k,[0,1,6,7,8,9,10,12,13],[34],by omega,by kernel_rfl,mid,hi,rfl,this,hhi,hhi2,rfl,rfl⟩
   ·have t4:decide ((((b*mid:Nat):Int) - R').sign≤0)=false:=decide_eq_false (by
     rw[Int.sign_eq_one_of_pos (show 0<((b*mid:Nat):Int) - R' by omega)];omega)
    have:¬mid≤qd:=fun h=>hc ((hqle mid).2 h)
    have e14:IntKind.i64.wrap ((mid:Int) - 1)=((mid - 1:Nat):Int):=by rw[wrap_i64 (by omega) (by omega)];omega
    (repeat((first|refine step_w1 rfl rfl ?_|refine step_w2 rfl rfl ?_|refine step_oN (by first|omega|decide|(simp only[tl0,dlen,List.length_replicate,List.length_set,List.length_map,List.length_zipWith,List.length_take,List.length_append,List.length_cons,List.length_nil];omega)) ?_|refine g_c (by assumption) ?_|rw[t3]|rw[e10]|rw[e11]|rw[e12]|rw[e13]|rw[t4]|rw[e14]);conv=>whnf))
    exact⟨mid - 1 - lo,fun k=>k,[0,1,6,7,8,9,10,12,13],[34],by omega,by kernel_rfl,lo,mid - 1,rfl,hlo,by omega,by omega,rfl,rfl⟩
  ·have t3:decide ((lo:Int)<(hi:Int))=false:=decide_eq_false (by omega)
   obtain rfl:lo=qd:=by omega
   have e13:IntKind.u64.wrap (lo:Int)=(lo:Int):=wrap_u64 (by omega) (by omega)
   have e14:IntKind.i64.wrap ((i:Int) - 1)=(i:Int) - 1:=wrap_i64 (by omega) (by omega)
   have hbm:(td (b*lo)).length≤(td b).length+1:=tlen_le (by
    have h1:=tlt_len b
    have h2:b*lo≤b*10000:=Nat.mul_le_mul_left _ (by omega)
    rw[Nat.pow_succ];omega)
   have hml:(td lo).length≤1:=tlen_le (by omega)
   have o1:=r_Of lo (by omega)
   have o2:=r_Mul b lo (by omega) (by omega)
   have o3:=r_Sub R' (b*lo) hmulle (by omega)
   rw[hsub]at o3
   have hiQ:i<Q.length:=by omega
   have hQs:(Q.set i (lo:Int)).length=D+1:=by rw[List.length_set];exact hQl
   have hQw2:=hQw.set (i:=i) (show(0:Int)≤lo by omega) (by omega)
   have hQ02:∀k,k<i→(Q.set i (lo:Int)).getD k 0=0:=fun k hk=>by rw[getD_set,if_neg (by omega)];exact hQ0 k (by omega)
   have hQv2:valT (Q.set i (lo:Int)) (D+1)=((a/10000^i/b:Nat):Int)*10000^i:=by
    rw[valT_set (by omega) hiQ,hQ0 i (by omega),hQv,hfin,Int.pow_succ];grind
   (repeat((first|refine step_w2 rfl rfl ?_|refine step_oL (by first|omega|decide|(simp only[tl0,dlen,List.length_replicate,List.length_set,List.length_map,List.length_zipWith,List.length_take,List.length_append,List.length_cons,List.length_nil];omega)) ?_|refine step_oA (by first|omega|decide|(simp only[tl0,dlen,List.length_replicate,List.length_set,List.length_map,List.length_zipWith,List.length_take,List.length_append,List.length_cons,List.length_nil];omega)) ?_|refine g_c (by assumption) ?_|rw[t3]|rw[show 0+(i:Int).toNat=i from by omega]|rw[e13]|rw[e14]);conv=>whnf))
   exact⟨i,fun k=>k,[0,1,6,7,8,9,10],[34],by omega,by kernel_rfl,Q.set i (lo:Int),by omega,hQs,hQw2,hQ02,hQv2,rfl,rfl⟩
theorem td_lt_len {a b:Nat} (h:a≤b) {M:Nat} (hb:(td b).length<M):(td a).length<M:=Nat.lt_of_le_of_lt (td_len_mono h) hb
theorem r_Gcd (a b:Nat) (ha:(td a).length<268435456) (hb:(td b).length<268435456):CallOK Tryz.prog 127 [nN a,nN b] [] (nN (Nat.gcd a b)) [] []:=by
 refine callV (Z:=[]) tabOK mixedOK Tryz.func127 rfl (by kernel_rfl) rfl rfl (by kernel_rfl) rfl ?_
 intro W0 w0 ρ0 hE
 conv=>whnf
 skip
 refine SW_loopN hE (fun k=>k) [0,1] [] (fun q fr hp=>∃x y:Nat,q=y∧Nat.gcd x y=Nat.gcd a b∧(td x).length<268435456∧(td y).length<268435456∧fr=[(0,nN x),(1,nN y)]∧hp=[]) b ?_ ?_ ?_
 ·kernel_rfl
 ·exact⟨a,b,rfl,rfl,ha,hb,rfl,rfl⟩
 rintro q _ _ ⟨x,y,rfl,hg,hx,hy,rfl,rfl⟩
 conv=>whnf
 by_cases h0:0<q
 ·have t1:decide (((td q).length:Int)>0)=true:=decide_eq_true (by have:=td_len_zero (n:=q);omega)
  have k1:=r_Div x q h0 hx hy
  have hlt:=Nat.mod_lt x h0
  (repeat((first|refine step_w1 rfl rfl ?_|refine g_c (by assumption) ?_|refine g_o (op_lenM rfl rfl rfl (ev_ok rfl) (tgt rfl) rfl) ?_|rw[t1]);conv=>whnf))
  exact⟨x % q,fun k=>k,[0,1],[],hlt,by kernel_rfl,q,x % q,rfl,by rw[←hg,Nat.gcd_comm x q,Nat.gcd_rec q x];exact Nat.gcd_comm _ _,hy,td_lt_len (Nat.le_of_lt hlt) hy,rfl,rfl⟩
 ·obtain rfl:q=0:=by omega
  rw[Nat.gcd_zero_right]at hg
  subst hg
  have t1:decide (((td 0).length:Int)>0)=false:=rfl
  (repeat(first|(refine step_w2 rfl rfl ?_;conv=>whnf)|(refine g_o (op_lenM rfl rfl rfl (ev_ok rfl) (tgt rfl) rfl) ?_;conv=>whnf)));(first|exact Recast.refl _|exact Frz.recast (Recast.refl _) rfl|(refine Frz.one rfl rfl ?_;skip)|(refine Frz.tup ?_;skip))
end Go.Proofs.YtjofnbpcanhfhabGreatDoor
namespace Go.Proofs.YtjofnbpcanhfhabGreatDoor
open Go.Sx
set_option linter.unusedSimpArgs false
set_option linter.unusedVariables false
set_option maxRecDepth 100000
set_option maxHeartbeats 4000000
abbrev zZ (z:Int):SV:=.agg [.val (.bool (decide (z<0))),nN z.natAbs]
abbrev fF (q:Rat):SV:=.agg [zZ q.num,nN (q.den - 1)]
theorem tl_sz {n M:Nat} (h:sz n≤M):(td n).length≤M:=tlen_le (Nat.lt_of_lt_of_le (sz_le.1 h) (Nat.pow_le_pow_left (by decide) M))
theorem r2_From (neg:Bool) (n:Nat) (hn:(td n).length<1099511627776):CallOK Tryz.prog 125 [.val (.bool neg),nN n] [] (zZ (signed neg n)) [] []:=by
 refine callV (Z:=[]) tabOK mixedOK Tryz.func125 rfl (by kernel_rfl) rfl rfl (by kernel_rfl) rfl ?_
 intro W0 w0 ρ0 hE
 conv=>whnf
 cases neg with
 |false=>
  have e:zZ (signed false n)= .agg [.val (.bool false),nN n]:=by
   have h:¬(signed false n<0):=by show ¬((n:Int)<0);omega
   rw[zZ,decide_eq_false h,signed_abs]
  rw[e]
  (repeat(first|(refine step_w2 rfl rfl ?_;conv=>whnf)|(refine g_o (op_pickF rfl (ev_ok rfl) (ev_ok rfl)) ?_;conv=>whnf)))
  exact Recast.refl _
 |true=>
  by_cases h0:0<n
  ·have t1:decide (((td n).length:Int)>0)=true:=decide_eq_true (by have:=td_len_zero (n:=n);omega)
   have e:zZ (signed true n)= .agg [.val (.bool true),nN n]:=by
    have h:signed true n<0:=by show -(n:Int)<0;omega
    rw[zZ,decide_eq_true h,signed_abs]
   rw[e]
   (repeat((first|refine step_w1 rfl rfl ?_|refine g_o (op_pickT rfl (ev_ok rfl) (ev_ok rfl)) ?_|refine g_o (op_lenM rfl rfl rfl (ev_ok rfl) (tgt rfl) rfl) ?_|rw[t1]);conv=>whnf))
   exact Recast.refl _
  ·obtain rfl:n=0:=by omega
   have t1:decide (((td 0).length:Int)>0)=false:=rfl
   have e:zZ (signed true 0)= .agg [.val (.bool false),nN 0]:=rfl
   rw[e]
   (repeat((first|refine step_w1 rfl rfl ?_|refine g_o (op_pickT rfl (ev_ok rfl) (ev_ok rfl)) ?_|refine g_o (op_lenM rfl rfl rfl (ev_ok rfl) (tgt rfl) rfl) ?_|rw[t1]);conv=>whnf))
   exact Recast.refl _
theorem r2_From' {neg:Bool} {n:Nat} {z:Int} (hz:signed neg n=z) (hn:(td n).length<1099511627776):CallOK Tryz.prog 125 [.val (.bool neg),nN n] [] (zZ z) [] []:=by
 rw[←hz];exact r2_From neg n hn
theorem r2_Sign (z:Int) (hz:(td z.natAbs).length<1099511627776):CallOK Tryz.prog 110 [zZ z] [] (.val (.int .i64 z.sign)) [] []:=by
 refine callV (Z:=[1]) tabOK mixedOK Tryz.func110 rfl (by kernel_rfl) rfl rfl (by kernel_rfl) rfl ?_
 intro W0 w0 ρ0 hE
 conv=>whnf
 by_cases h0:z=0
 ·subst h0
  have t1:(((td (Int.natAbs 0)).length:Int)==0)=true:=rfl
  (repeat((first|refine step_w1 rfl rfl ?_|refine g_o (op_lenM rfl rfl rfl (ev_ok rfl) (tgt rfl) rfl) ?_|refine g_o (op_loadA rfl (ev_ok rfl) (tgt rfl) rfl (Nat.succ_ne_zero _) rfl) ?_|refine g_o (op_fieldA rfl (ev_ok rfl) (tgt rfl) rfl rfl (Nat.succ_ne_zero _) rfl) ?_);conv=>whnf));(first|exact Recast.refl _|exact Frz.recast (Recast.refl _) rfl|(refine Frz.one rfl rfl ?_;skip)|(refine Frz.tup ?_;skip))
 ·have t1:(((td z.natAbs).length:Int)==0)=false:=beq_false_of_ne (by have:=td_len_zero (n:=z.natAbs);omega)
  by_cases hn:z<0
  ·have t2:decide (z<0)=true:=decide_eq_true hn
   rw[Int.sign_eq_neg_one_of_neg hn]
   (repeat((first|refine step_w1 rfl rfl ?_|refine step_w2 rfl rfl ?_|refine g_o (op_lenM rfl rfl rfl (ev_ok rfl) (tgt rfl) rfl) ?_|refine g_o (op_loadA rfl (ev_ok rfl) (tgt rfl) rfl (Nat.succ_ne_zero _) rfl) ?_|refine g_o (op_fieldA rfl (ev_ok rfl) (tgt rfl) rfl rfl (Nat.succ_ne_zero _) rfl) ?_|rw[t1]|rw[t2]);conv=>whnf));(first|exact Recast.refl _|exact Frz.recast (Recast.refl _) rfl|(refine Frz.one rfl rfl ?_;skip)|(refine Frz.tup ?_;skip))
  ·have t2:decide (z<0)=false:=decide_eq_false hn
   rw[Int.sign_eq_one_of_pos (by omega)]
   (repeat((first|refine step_w2 rfl rfl ?_|refine g_o (op_lenM rfl rfl rfl (ev_ok rfl) (tgt rfl) rfl) ?_|refine g_o (op_loadA rfl (ev_ok rfl) (tgt rfl) rfl (Nat.succ_ne_zero _) rfl) ?_|refine g_o (op_fieldA rfl (ev_ok rfl) (tgt rfl) rfl rfl (Nat.succ_ne_zero _) rfl) ?_|rw[t1]|rw[t2]);conv=>whnf));(first|exact Recast.refl _|exact Frz.recast (Recast.refl _) rfl|(refine Frz.one rfl rfl ?_;skip)|(refine Frz.tup ?_;skip))
theorem r2_Neg (z:Int) (hz:(td z.natAbs).length<1099511627776):CallOK Tryz.prog 111 [zZ z] [] (zZ (-z)) [] []:=by
 have k1:=r2_From' (neg:= !decide (z<0)) (n:=z.natAbs) (z:= -z) (by by_cases h:z<0<;>simp[signed,h]<;>omega) hz
 refine callV (Z:=[1]) tabOK mixedOK Tryz.func111 rfl (by kernel_rfl) rfl rfl (by kernel_rfl) rfl ?_
 intro W0 w0 ρ0 hE
 conv=>whnf
 (repeat(first|(refine g_c (by assumption) ?_;conv=>whnf)|(refine g_o (op_loadA rfl (ev_ok rfl) (tgt rfl) rfl (Nat.succ_ne_zero _) rfl) ?_;conv=>whnf)|(refine g_o (op_fieldA rfl (ev_ok rfl) (tgt rfl) rfl rfl (Nat.succ_ne_zero _) rfl) ?_;conv=>whnf)))
 exact Recast.refl _
theorem r2_Add (a b:Int) (ha:(td a.natAbs).length<536870912) (hb:(td b.natAbs).length<536870912):CallOK Tryz.prog 93 [zZ a,zZ b] [] (zZ (a+b)) [] []:=by
 refine callV (Z:=[2,3]) tabOK mixedOK Tryz.func93 rfl (by kernel_rfl) rfl rfl (by kernel_rfl) rfl ?_
 intro W0 w0 ρ0 hE
 conv=>whnf
 by_cases hs:a<0↔b<0
 ·have t1:(decide (a<0)==decide (b<0))=true:=by rw[decide_eq_decide.2 hs];exact beq_self_eq_true _
  have k1:=r_Add a.natAbs b.natAbs (by omega) (by omega)
  have hl:(td (a.natAbs+b.natAbs)).length<1099511627776:=by
   have h1:(td (a.natAbs+b.natAbs)).length≤max ((td a.natAbs).length) ((td b.natAbs).length)+1:=tlen_le (by
    have h2:=td_lt_pow (n:=a.natAbs) (k:=max ((td a.natAbs).length) ((td b.natAbs).length)) (Nat.le_max_left _ _)
    have h3:=td_lt_pow (n:=b.natAbs) (k:=max ((td a.natAbs).length) ((td b.natAbs).length)) (Nat.le_max_right _ _)
    rw[Nat.pow_succ];omega)
   omega
  have k2:=r2_From' (neg:=decide (a<0)) (n:=a.natAbs+b.natAbs) (z:=a+b) (by unfold signed;by_cases h:a<0<;>simp[h]<;>omega) hl
  (repeat((first|refine step_w1 rfl rfl ?_|refine step_i (by kernel_rfl) ?_|refine g_c (by assumption) ?_|refine g_o (op_loadA rfl (ev_ok rfl) (tgt rfl) rfl (Nat.succ_ne_zero _) rfl) ?_|refine g_o (op_fieldA rfl (ev_ok rfl) (tgt rfl) rfl rfl (Nat.succ_ne_zero _) rfl) ?_|rw[t1]);conv=>whnf))
  exact Recast.refl _
 ·have t1:(decide (a<0)==decide (b<0))=false:=beq_false_of_ne (fun h=>hs (decide_eq_decide.1 h))
  have k1:=r_Cmp a.natAbs b.natAbs (by omega) (by omega)
  by_cases hab:b.natAbs≤a.natAbs
  ·have t2:decide (((a.natAbs:Int) - b.natAbs).sign≥0)=true:=decide_eq_true (by have:=Int.sign_nonneg_iff.2 (show 0≤(a.natAbs:Int) - b.natAbs by omega);omega)
   have k2:=r_Sub a.natAbs b.natAbs hab (by omega)
   have k3:=r2_From' (neg:=decide (a<0)) (n:=a.natAbs - b.natAbs) (z:=a+b) (by unfold signed;by_cases h:a<0<;>simp[h]<;>omega) (td_lt_len (Nat.sub_le _ b.natAbs) (by omega))
   (repeat((first|refine step_w1 rfl rfl ?_|refine step_w2 rfl rfl ?_|refine step_i (by kernel_rfl) ?_|refine g_c (by assumption) ?_|refine g_o (op_loadA rfl (ev_ok rfl) (tgt rfl) rfl (Nat.succ_ne_zero _) rfl) ?_|refine g_o (op_fieldA rfl (ev_ok rfl) (tgt rfl) rfl rfl (Nat.succ_ne_zero _) rfl) ?_|rw[t1]|rw[t2]);conv=>whnf))
   exact Recast.refl _
  ·have t2:decide (((a.natAbs:Int) - b.natAbs).sign≥0)=false:=decide_eq_false (by rw[Int.sign_eq_neg_one_of_neg (show(a.natAbs:Int) - b.natAbs<0 by omega)];omega)
   have k2:=r_Sub b.natAbs a.natAbs (by omega) (by omega)
   have k3:=r2_From' (neg:=decide (b<0)) (n:=b.natAbs - a.natAbs) (z:=a+b) (by unfold signed;by_cases h:b<0<;>simp[h]<;>omega) (td_lt_len (Nat.sub_le _ a.natAbs) (by omega))
   (repeat((first|refine step_w2 rfl rfl ?_|refine step_i (by kernel_rfl) ?_|refine g_c (by assumption) ?_|refine g_o (op_loadA rfl (ev_ok rfl) (tgt rfl) rfl (Nat.succ_ne_zero _) rfl) ?_|refine g_o (op_fieldA rfl (ev_ok rfl) (tgt rfl) rfl rfl (Nat.succ_ne_zero _) rfl) ?_|rw[t1]|rw[t2]);conv=>whnf))
   exact Recast.refl _
theorem tl_mul {a b:Nat}:(td (a*b)).length≤(td a).length+(td b).length:=tlen_le (by
 rcases Nat.eq_zero_or_pos b with h|h
 ·subst h;rw[Nat.mul_zero];exact Nat.pow_pos (by decide)
 ·rw[Nat.pow_add]
  exact Nat.lt_of_lt_of_le (Nat.mul_lt_mul_of_pos_right (tlt_len a) h) (Nat.mul_le_mul_left _ (Nat.le_of_lt (tlt_len b))))
theorem r2_Mul (a b:Int) (ha:(td a.natAbs).length<134217728) (hb:(td b.natAbs).length<134217728):CallOK Tryz.prog 94 [zZ a,zZ b] [] (zZ (a*b)) [] []:=by
 have k1:=r_Mul a.natAbs b.natAbs (by omega) (by omega)
 have k2:=r2_From' (signed_mul a b) (Nat.lt_of_le_of_lt tl_mul (by omega))
 refine callV (Z:=[2,3]) tabOK mixedOK Tryz.func94 rfl (by kernel_rfl) rfl rfl (by kernel_rfl) rfl ?_
 intro W0 w0 ρ0 hE
 conv=>whnf
 (repeat((first|refine step_i (by kernel_rfl) ?_|refine g_c (by assumption) ?_|refine g_o (op_loadA rfl (ev_ok rfl) (tgt rfl) rfl (Nat.succ_ne_zero _) rfl) ?_|refine g_o (op_fieldA rfl (ev_ok rfl) (tgt rfl) rfl rfl (Nat.succ_ne_zero _) rfl) ?_);conv=>whnf))
 exact Recast.refl _
theorem r2_Of (n:Int) (h0: -9223372036854775808≤n) (h1:n<9223372036854775808):CallOK Tryz.prog 109 [.val (.int .i64 n)] [] (zZ n) [] []:=by
 have k1:=r_Of n.natAbs (by omega)
 have hl:(td n.natAbs).length<1099511627776:=Nat.lt_of_le_of_lt (tlen_le (k:=5) (by omega)) (by decide)
 refine callV (Z:=[]) tabOK mixedOK Tryz.func109 rfl (by kernel_rfl) rfl rfl (by kernel_rfl) rfl ?_
 intro W0 w0 ρ0 hE
 conv=>whnf
 by_cases hn:n<0
 ·have t1:decide (n<0)=true:=decide_eq_true hn
  have e1:IntKind.i64.wrap (n+1)=n+1:=wrap_i64 (by omega) (by omega)
  have e2:IntKind.i64.wrap (0 - (n+1))= -(n+1):=by rw[Int.zero_sub];exact wrap_i64 (by omega) (by omega)
  have e3:IntKind.u64.wrap (-(n+1))= -(n+1):=wrap_u64 (by omega) (by omega)
  have e4:IntKind.u64.wrap (-(n+1)+1)=(n.natAbs:Int):=by rw[wrap_u64 (by omega) (by omega)];omega
  have k2:=r2_From' (neg:=true) (n:=n.natAbs) (z:=n) (by show -(n.natAbs:Int)=n;omega) hl
  have e:zZ n= .agg [.val (.bool true),nN n.natAbs]:=by rw[zZ,t1]
  rw[e]at*
  (repeat((first|refine step_w1 rfl rfl ?_|refine g_c (by assumption) ?_|rw[t1]|rw[e1]|rw[e2]|rw[e3]|rw[e4]);conv=>whnf))
  exact Recast.refl _
 ·have t1:decide (n<0)=false:=decide_eq_false hn
  have e1:IntKind.u64.wrap n=(n.natAbs:Int):=by rw[wrap_u64 (by omega) (by omega)];omega
  have k2:=r2_From' (neg:=false) (n:=n.natAbs) (z:=n) (by show(n.natAbs:Int)=n;omega) hl
  have e:zZ n= .agg [.val (.bool false),nN n.natAbs]:=by rw[zZ,t1]
  rw[e]at*
  (repeat((first|refine step_w2 rfl rfl ?_|refine g_c (by assumption) ?_|rw[t1]|rw[e1]);conv=>whnf))
  exact Recast.refl _
theorem r3_one:CallOK Tryz.prog 108 [] [] (nN 1) [] []:=by
 have k1:=r_Of 1 (by decide)
 refine callV (Z:=[]) tabOK mixedOK Tryz.func108 rfl (by kernel_rfl) rfl rfl (by kernel_rfl) rfl ?_
 intro W0 w0 ρ0 hE
 conv=>whnf
 (repeat(first|(refine g_c (by assumption) ?_;conv=>whnf)));(first|exact Recast.refl _|exact Frz.recast (Recast.refl _) rfl|(refine Frz.one rfl rfl ?_;skip)|(refine Frz.tup ?_;skip))
theorem r3_Den (q:Rat) (h:(td q.den).length<134217728):CallOK Tryz.prog 71 [fF q] [] (nN q.den) [] []:=by
 have k0:=r3_one
 have k1:=r_Add (q.den - 1) 1 (Nat.lt_of_le_of_lt (td_len_mono (Nat.sub_le q.den 1)) (by omega)) (by decide)
 rw[den_pred]at k1
 refine callV (Z:=[1]) tabOK mixedOK Tryz.func71 rfl (by kernel_rfl) rfl rfl (by kernel_rfl) rfl ?_
 intro W0 w0 ρ0 hE
 conv=>whnf
 (repeat((first|refine step_i (by kernel_rfl) ?_|refine g_c (by assumption) ?_|refine g_o (op_loadA rfl (ev_ok rfl) (tgt rfl) rfl (Nat.succ_ne_zero _) rfl) ?_|refine g_o (op_fieldA rfl (ev_ok rfl) (tgt rfl) rfl rfl (Nat.succ_ne_zero _) rfl) ?_);conv=>whnf));(first|exact Recast.refl _|exact Frz.recast (Recast.refl _) rfl|(refine Frz.one rfl rfl ?_;skip)|(refine Frz.tup ?_;skip))
theorem r3_den (q:Rat) (h:(td q.den).length<134217728):CallOK Tryz.prog 95 [fF q] [] (zZ q.den) [] []:=by
 have k0:=r3_Den q h
 have k1:=r2_From' (neg:=false) (n:=q.den) (z:=(q.den:Int)) rfl (by omega)
 refine callV (Z:=[1]) tabOK mixedOK Tryz.func95 rfl (by kernel_rfl) rfl rfl (by kernel_rfl) rfl ?_
 intro W0 w0 ρ0 hE
 conv=>whnf
 (repeat(first|(refine g_c (by assumption) ?_;conv=>whnf)|(refine g_o (op_loadA rfl (ev_ok rfl) (tgt rfl) rfl (Nat.succ_ne_zero _) rfl) ?_;conv=>whnf)))
 exact Recast.refl _
theorem signed_num {n:Int} {d:Nat} (hd:d≠0):signed (decide (n<0)) (n.natAbs/Nat.gcd n.natAbs d)=(mkRat n d).num:=by
 rw[num_mkRat hd]
 have hdv:Nat.gcd n.natAbs d ∣ n.natAbs:=Nat.gcd_dvd_left _ _
 unfold signed
 by_cases hn:n<0
 ·rw[decide_eq_true hn,if_pos rfl]
  have:n= -(n.natAbs:Int):=by omega
  rw[Int.natCast_ediv,←Int.neg_ediv_of_dvd (Int.natCast_dvd_natCast.2 hdv),←this]
 ·rw[decide_eq_false hn]
  simp only[Bool.false_eq_true,if_false]
  have:n=(n.natAbs:Int):=by omega
  rw[Int.natCast_ediv,←this]
theorem r3_From (n:Int) (d:Nat) (hd:d≠0) (h1:(td n.natAbs).length<268435456) (h2:(td d).length<268435456):CallOK Tryz.prog 92 [zZ n,nN d] [] (fF (mkRat n d)) [] []:=by
 have hg:Nat.gcd n.natAbs d≠0:=fun h=>hd (Nat.gcd_eq_zero_iff.1 h).2
 have hgl:(td (Nat.gcd n.natAbs d)).length<268435456:=td_lt_len (Nat.le_of_dvd (by omega) (Nat.gcd_dvd_right _ _)) h2
 have hq:d/Nat.gcd n.natAbs d≠0:=Nat.div_ne_zero_iff.2 ⟨hg,Nat.le_of_dvd (by omega) (Nat.gcd_dvd_right _ _)⟩
 have k1:=r_Gcd n.natAbs d h1 h2
 have k2:=r_Div n.natAbs (Nat.gcd n.natAbs d) (by omega) h1 hgl
 have k3:=r_Div d (Nat.gcd n.natAbs d) (by omega) h2 hgl
 have k4:=r2_From' (signed_num (n:=n) hd) (td_lt_len (Nat.div_le_self _ _) (by omega))
 have k5:=r3_one
 have k6:CallOK Tryz.prog 129 [nN (d/Nat.gcd n.natAbs d),nN 1] [] (nN ((mkRat n d).den - 1)) [] []:=by
  rw[den_mkRat hd];exact r_Sub (d/Nat.gcd n.natAbs d) 1 (Nat.pos_of_ne_zero hq) (td_lt_len (Nat.div_le_self _ _) (by omega))
 refine callV (Z:=[2]) tabOK mixedOK Tryz.func92 rfl (by kernel_rfl) rfl rfl (by kernel_rfl) rfl ?_
 intro W0 w0 ρ0 hE
 conv=>whnf
 (repeat(first|(refine g_c (by assumption) ?_;conv=>whnf)|(refine g_o (op_loadA rfl (ev_ok rfl) (tgt rfl) rfl (Nat.succ_ne_zero _) rfl) ?_;conv=>whnf)|(refine g_o (op_fieldA rfl (ev_ok rfl) (tgt rfl) rfl rfl (Nat.succ_ne_zero _) rfl) ?_;conv=>whnf)))
 exact Recast.refl _
theorem tl_fs {q:Rat} {M:Nat} (h:fs q≤M):(td q.num.natAbs).length≤M∧(td q.den).length≤M:=by
 have h1:=fsz_num q;have h2:=fsz_den q
 unfold fs at h
 exact⟨tl_sz (by omega),tl_sz (by omega)⟩
theorem r3_Int (n:Int) (h0: -9223372036854775808≤n) (h1:n<9223372036854775808):CallOK Tryz.prog 72 [.val (.int .i64 n)] [] (fF (n:Rat)) [] []:=by
 have k1:=r2_Of n h0 h1
 have e:fF (n:Rat)= .agg [zZ n,vecA 1 []]:=by rw[fF];rfl
 rw[e]
 refine callF (Z:=[]) tabOK mixedOK Tryz.func72 rfl (by kernel_rfl) (by first|rfl|(simp[keylessL,keyless,keylessL_map, *];done)) (by first|rfl|(simp[keylessL,keyless,keylessL_map, *];done)) (by kernel_rfl) rfl ?_
 intro w0 ρ0 hE
 conv=>whnf
 (repeat(first|(refine g_c (by assumption) ?_;conv=>whnf)));(first|exact Recast.refl _|exact Frz.recast (Recast.refl _) rfl|(refine Frz.one rfl rfl ?_;(repeat(first|exact FrzC.keyless rfl|exact FrzL.nil|refine FrzL.cons ?_ ?_|exact FrzC.nilS|refine FrzC.agg ?_)))|(refine Frz.tup ?_;skip))
theorem r3_Sign (q:Rat) (h:(td q.num.natAbs).length<1099511627776):CallOK Tryz.prog 73 [fF q] [] (.val (.int .i64 q.num.sign)) [] []:=by
 have k1:=r2_Sign q.num h
 refine callV (Z:=[1]) tabOK mixedOK Tryz.func73 rfl (by kernel_rfl) rfl rfl (by kernel_rfl) rfl ?_
 intro W0 w0 ρ0 hE
 conv=>whnf
 (repeat(first|(refine g_c (by assumption) ?_;conv=>whnf)|(refine g_o (op_loadA rfl (ev_ok rfl) (tgt rfl) rfl (Nat.succ_ne_zero _) rfl) ?_;conv=>whnf)|(refine g_o (op_fieldA rfl (ev_ok rfl) (tgt rfl) rfl rfl (Nat.succ_ne_zero _) rfl) ?_;conv=>whnf)));(first|exact Recast.refl _|exact Frz.recast (Recast.refl _) rfl|(refine Frz.one rfl rfl ?_;skip)|(refine Frz.tup ?_;skip))
theorem r3_Neg (q:Rat) (h:(td q.num.natAbs).length<1099511627776):CallOK Tryz.prog 74 [fF q] [] (fF (-q)) [] []:=by
 have k1:=r2_Neg q.num h
 have e:fF (-q)= .agg [zZ (-q.num),nN (q.den - 1)]:=by rw[fF,Rat.neg_num,Rat.neg_den]
 rw[e]
 refine callV (Z:=[1]) tabOK mixedOK Tryz.func74 rfl (by kernel_rfl) rfl rfl (by kernel_rfl) rfl ?_
 intro W0 w0 ρ0 hE
 conv=>whnf
 (repeat((first|refine step_i (by kernel_rfl) ?_|refine g_c (by assumption) ?_|refine g_o (op_loadA rfl (ev_ok rfl) (tgt rfl) rfl (Nat.succ_ne_zero _) rfl) ?_|refine g_o (op_fieldA rfl (ev_ok rfl) (tgt rfl) rfl rfl (Nat.succ_ne_zero _) rfl) ?_);conv=>whnf))
 exact Recast.refl _
theorem r3_Add (a b:Rat) (h:fs a+fs b≤100000000):CallOK Tryz.prog 61 [fF a,fF b] [] (fF (a+b)) [] []:=by
 obtain⟨a1,a2⟩:=tl_fs (q:=a) (Nat.le_refl _)
 obtain⟨b1,b2⟩:=tl_fs (q:=b) (Nat.le_refl _)
 have n1:=fsz_num a;have n2:=fsz_den a;have n3:=fsz_num b;have n4:=fsz_den b
 have m1:=tl_mul (a:=a.num.natAbs) (b:=b.den)
 have m2:=tl_mul (a:=b.num.natAbs) (b:=a.den)
 have m3:=tl_mul (a:=a.den) (b:=b.den)
 have k1:=r3_den b (by omega)
 have k2:=r3_den a (by omega)
 have k3:=r2_Mul a.num b.den (by omega) (by rw[Int.natAbs_natCast];omega)
 have k4:=r2_Mul b.num a.den (by omega) (by rw[Int.natAbs_natCast];omega)
 have k5:=r2_Add (a.num*b.den) (b.num*a.den) (by rw[Int.natAbs_mul,Int.natAbs_natCast];omega) (by rw[Int.natAbs_mul,Int.natAbs_natCast];omega)
 have k6:=r3_Den a (by omega)
 have k7:=r3_Den b (by omega)
 have k8:=r_Mul a.den b.den (by omega) (by omega)
 have m4:(td (a.num*b.den+b.num*a.den).natAbs).length≤fs a+fs b+1:=tl_sz (by
  have h1:=sz_mul a.num.natAbs b.den
  have h2:=sz_mul b.num.natAbs a.den
  unfold fs
  refine Nat.le_trans (sz_mono (Int.natAbs_add_le _ _)) (Nat.le_trans (sz_add (k:=fsz a+fsz b) ?_ ?_) (by omega))
  ·rw[Int.natAbs_mul,Int.natAbs_natCast];omega
  ·rw[Int.natAbs_mul,Int.natAbs_natCast];omega)
 have k9:=r3_From (a.num*b.den+b.num*a.den) (a.den*b.den) (Nat.mul_ne_zero a.den_nz b.den_nz) (by omega) (by omega)
 rw[←Rat.add_def']at k9
 clear m1 m2 m3 m4 n1 n2 n3 n4
 refine callV (Z:=[2,3]) tabOK mixedOK Tryz.func61 rfl (by kernel_rfl) rfl rfl (by kernel_rfl) rfl ?_
 intro W0 w0 ρ0 hE
 conv=>whnf
 (repeat((first|refine step_i (by kernel_rfl) ?_|refine g_c (by assumption) ?_|refine g_o (op_loadA rfl (ev_ok rfl) (tgt rfl) rfl (Nat.succ_ne_zero _) rfl) ?_|refine g_o (op_fieldA rfl (ev_ok rfl) (tgt rfl) rfl rfl (Nat.succ_ne_zero _) rfl) ?_);conv=>whnf))
 exact Recast.refl _
theorem r3_Sub (a b:Rat) (h:fs a+fs b≤100000000):CallOK Tryz.prog 62 [fF a,fF b] [] (fF (a - b)) [] []:=by
 obtain⟨b1,b2⟩:=tl_fs (q:=b) (Nat.le_refl _)
 have k1:=r3_Neg b (by omega)
 have k2:=r3_Add a (-b) (by rw[fs_neg];exact h)
 rw[←Rat.sub_eq_add_neg]at k2
 refine callV (Z:=[2,3]) tabOK mixedOK Tryz.func62 rfl (by kernel_rfl) rfl rfl (by kernel_rfl) rfl ?_
 intro W0 w0 ρ0 hE
 conv=>whnf
 (repeat(first|(refine step_i (by kernel_rfl) ?_;conv=>whnf)|(refine g_c (by assumption) ?_;conv=>whnf)|(refine g_o (op_loadA rfl (ev_ok rfl) (tgt rfl) rfl (Nat.succ_ne_zero _) rfl) ?_;conv=>whnf)))
 exact Recast.refl _
theorem r3_Mul (a b:Rat) (h:fs a+fs b≤100000000):CallOK Tryz.prog 63 [fF a,fF b] [] (fF (a*b)) [] []:=by
 obtain⟨a1,a2⟩:=tl_fs (q:=a) (Nat.le_refl _)
 obtain⟨b1,b2⟩:=tl_fs (q:=b) (Nat.le_refl _)
 have m1:=tl_mul (a:=a.num.natAbs) (b:=b.num.natAbs)
 have m3:=tl_mul (a:=a.den) (b:=b.den)
 have k3:=r2_Mul a.num b.num (by omega) (by omega)
 have k6:=r3_Den a (by omega)
 have k7:=r3_Den b (by omega)
 have k8:=r_Mul a.den b.den (by omega) (by omega)
 have k9:=r3_From (a.num*b.num) (a.den*b.den) (Nat.mul_ne_zero a.den_nz b.den_nz) (by rw[Int.natAbs_mul];omega) (by omega)
 rw[←Rat.mul_def']at k9
 clear m1 m3
 refine callV (Z:=[2,3]) tabOK mixedOK Tryz.func63 rfl (by kernel_rfl) rfl rfl (by kernel_rfl) rfl ?_
 intro W0 w0 ρ0 hE
 conv=>whnf
 (repeat((first|refine step_i (by kernel_rfl) ?_|refine g_c (by assumption) ?_|refine g_o (op_loadA rfl (ev_ok rfl) (tgt rfl) rfl (Nat.succ_ne_zero _) rfl) ?_|refine g_o (op_fieldA rfl (ev_ok rfl) (tgt rfl) rfl rfl (Nat.succ_ne_zero _) rfl) ?_);conv=>whnf))
 exact Recast.refl _
theorem r3_Cmp (a b:Rat) (h:fs a+fs b≤100000000):CallOK Tryz.prog 75 [fF a,fF b] [] (.val (.int .i64 (a - b).num.sign)) [] []:=by
 have hs:=fs_sub a b
 obtain⟨b1,b2⟩:=tl_fs (q:=a - b) (Nat.le_refl _)
 have k1:=r3_Sub a b h
 have k2:=r3_Sign (a - b) (by omega)
 refine callV (Z:=[2,3]) tabOK mixedOK Tryz.func75 rfl (by kernel_rfl) rfl rfl (by kernel_rfl) rfl ?_
 intro W0 w0 ρ0 hE
 conv=>whnf
 (repeat(first|(refine g_c (by assumption) ?_;conv=>whnf)|(refine g_o (op_loadA rfl (ev_ok rfl) (tgt rfl) rfl (Nat.succ_ne_zero _) rfl) ?_;conv=>whnf)));(first|exact Recast.refl _|exact Frz.recast (Recast.refl _) rfl|(refine Frz.one rfl rfl ?_;skip)|(refine Frz.tup ?_;skip))
theorem r3_Div (a b:Rat) (hb:b≠0) (h:fs a+fs b≤100000000):CallOK Tryz.prog 90 [fF a,fF b] [] (fF (a/b)) [] []:=by
 have hn:b.num≠0:=fun h=>hb (Rat.num_eq_zero.1 h)
 obtain⟨b1,b2⟩:=tl_fs (q:=b) (Nat.le_refl _)
 have k1:=r3_Sign b (by omega)
 have t1:(b.num.sign==0)=false:=beq_false_of_ne (fun h=>hn (Int.sign_eq_zero_iff_zero.1 h))
 have k2:=r3_Den b (by omega)
 have k3:=r2_From (decide (b.num<0)) b.den (by omega)
 have e1:decide (b.num<0)=decide (b.num.sign<0):=decide_eq_decide.2 Int.sign_neg_iff.symm
 have k4:=r3_From (signed (decide (b.num<0)) b.den) b.num.natAbs (by omega) (by rw[signed_abs];omega) (by omega)
 rw[e1,mkRat_inv hn,←e1]at k4
 have k5:=r3_Mul a b⁻¹ (by have:=fs_inv b;omega)
 rw[←Rat.div_def]at k5
 refine callV (Z:=[2,3]) tabOK mixedOK Tryz.func90 rfl (by kernel_rfl) rfl rfl (by kernel_rfl) rfl ?_
 intro W0 w0 ρ0 hE
 conv=>whnf
 (repeat((first|refine step_w2 rfl rfl ?_|refine step_i (by kernel_rfl) ?_|refine g_c (by assumption) ?_|refine g_o (op_loadA rfl (ev_ok rfl) (tgt rfl) rfl (Nat.succ_ne_zero _) rfl) ?_|refine g_o (op_fieldA rfl (ev_ok rfl) (tgt rfl) rfl rfl (Nat.succ_ne_zero _) rfl) ?_|rw[t1]);conv=>whnf))
 exact Recast.refl _
theorem r3_Of (n d:Int) (hn0: -9223372036854775808≤n) (hn1:n<9223372036854775808) (hd0: -9223372036854775808≤d) (hd1:d<9223372036854775808) (hd:d≠0):CallOK Tryz.prog 58 [.val (.int .i64 n),.val (.int .i64 d)] [] (fF ((n:Rat)/(d:Rat))) [] []:=by
 have k1:=r3_Int n hn0 hn1
 have k2:=r3_Int d hd0 hd1
 have f1:=fs_int hn0 hn1
 have f2:=fs_int hd0 hd1
 have k3:=r3_Div (n:Rat) (d:Rat) (fun h=>hd (by have:=congrArg Rat.num h;simpa using this)) (by omega)
 refine callV (Z:=[]) tabOK mixedOK Tryz.func58 rfl (by kernel_rfl) rfl rfl (by kernel_rfl) rfl ?_
 intro W0 w0 ρ0 hE
 conv=>whnf
 (repeat(first|(refine g_c (by assumption) ?_;conv=>whnf)))
 exact Recast.refl _
end Go.Proofs.YtjofnbpcanhfhabGreatDoor
namespace Go.Proofs.YtjofnbpcanhfhabGreatDoor
open Go.Sx
set_option linter.unusedSimpArgs false
set_option linter.unusedVariables false
section
open Go.Shelf Go.RowKit Go.Sort Go.Lib
set_option maxHeartbeats 6400000 in
set_option maxRecDepth 100000 in
theorem fmt_big (u:Nat) (hu:100≤u) (hu64:u<18446744073709551616) (w:World) (htab:Lib.TabIs Tryz.prog w "internal/strconv.uint64pow10" .u64 Lib.pow10Tab):
  Calls Tryz.prog 133 #[.int .u64 u,.int .i64 10] w fun e w'=>e= .returned (.string ⟨(Lib.decDigits u).toArray⟩)∧∃k os,w'=grow (w.drewN k) os:=by
 have mixed:Tryz.prog.follows .mixedOrders=true:=by kernel_rfl
 have t3:=Tryz.underlying3;have a3:=Tryz.isAgg3;have z3:=Tryz.sizeOf3;have v3:=Tryz.zeroValue3
 have t9:=Tryz.underlying9;have a9:=Tryz.isAgg9;have z9:=Tryz.sizeOf9;have v9:=Tryz.zeroValue9
 have t4:=Tryz.underlying4;have a4:=Tryz.isAgg4;have z4:=Tryz.sizeOf4;have v4:=Tryz.zeroValue4
 have t53:=Tryz.underlying36;have a53:=Tryz.isAgg36;have z53:=Tryz.sizeOf36;have v53:=Tryz.zeroValue36
 have t5:=Tryz.underlying5;have a5:=Tryz.isAgg5;have z5:=Tryz.sizeOf5;have v5:=Tryz.zeroValue5
 have t37:=Tryz.underlying158;have a37:=Tryz.isAgg158;have z37:=Tryz.sizeOf158;have v37:=Tryz.zeroValue158
 have t171:=Tryz.underlying186;have a171:=Tryz.isAgg186;have z171:=Tryz.sizeOf186;have v171:=Tryz.zeroValue186
 have t0:=Tryz.underlying0;have a0:=Tryz.isAgg0;have z0:=Tryz.sizeOf0;have v0:=Tryz.zeroValue0
 have e284:∀args w,(callFunc 150 args).run Tryz.prog w= .ok (.enter 150 args) w:=enters_of Tryz.func150 (by kernel_rfl) rfl
 have e285:∀args w,(callFunc 151 args).run Tryz.prog w= .ok (.enter 151 args) w:=enters_of Tryz.func151 (by kernel_rfl) rfl
 have hu1:1≤u:=by omega
 have hnd20:Lib.nDigits u≤20:=by have:=Lib.numDigits_eq u hu1 hu64;split at this<;>omega
 have hal:Tryz.prog.arrayLen 186=24:=by simp[Program.arrayLen,t171]
 have hsl:∀W,(Instr.sliceAt 186 (.pointer (some ⟨w.heap.size,0,none⟩)) none (some (.int .i64 (Lib.nDigits u:Int))) none).run Tryz.prog W= .ok (.slice (some ⟨w.heap.size,0,none⟩) (Lib.nDigits u) 24) W:=fun W=>by
  rw[run_sliceAt_array_h W 186 ⟨w.heap.size,0,none⟩ (by simp[Program.arrayLen,Program.elem,t171]) .i64 (Lib.nDigits u:Int) (by omega) (by rw[hal];omega)]
  go_simp
 have hH0:=Lib.holds_zero0 w 186 (Lib.nDigits u) (by omega)
 have hfmt:=Tryz.internal_strconv_formatBase10 w.heap.size 0 24 u (Array.replicate (Lib.nDigits u) 0) (w.alloc (.cells Lib.zeros24 186)) hH0 (by rw[Array.size_replicate];exact Lib.lt_pow_nDigits u) hu64 (by rw[Array.size_replicate];omega)
 rw[Array.size_replicate]at hfmt
 have HH0:=Lib.hid hH0
 have iu:¬(u:Int)<100:=by omega
 clear hH0 hal
 go_enter Tryz.func133,Tryz.ntmps133
 go_wp2_with (first
  |(go_at_fn 150;refine(Tryz.internal_strconv_numDigits u hu1 hu64 _ (Lib.tabIs_alloc htab _)).mono ?_;rintro e w' ⟨rfl,rfl⟩))
 go_at_fn 151
 refine hfmt.mono ?_
 rintro e w' ⟨rfl,k,v',dk,rfl,hF⟩
 have hcv:(convert 158 9 (.slice (some ⟨w.heap.size,0,none⟩) (Lib.nDigits u) 24)).run Tryz.prog ((putRow (fun(b:UInt8)=>Value.int .u8 (b.toNat:Int)) (w.alloc (.cells Lib.zeros24 186)) w.heap.size 0 dk).drewN k)= .ok (.string ⟨(Lib.decDigits u).toArray⟩) ((putRow (fun(b:UInt8)=>Value.int .u8 (b.toNat:Int)) (w.alloc (.cells Lib.zeros24 186)) w.heap.size 0 dk).drewN k):=by
  have h:=run_convert_bytes_back (P:=Tryz.prog) ((putRow (fun(b:UInt8)=>Value.int .u8 (b.toNat:Int)) (w.alloc (.cells Lib.zeros24 186)) w.heap.size 0 dk).drewN k) 158 9 5 ⟨w.heap.size,0,none⟩ 24 (Lib.decDigits u) t37 t5 t9 (fun j hj=>by
   rw[Lib.row_is_numeral hF j hj,Lib.add_plain,World.cell?_drewN]
   exact cell?_putRow (fun(b:UInt8)=>Value.int .u8 (b.toNat:Int)) _ w.heap.size 0 _ dk HH0.out (by rw[hF.size,Array.size_replicate]) j (by rw[hF.size];rw[Lib.decDigits_length]at hj;exact hj))
  rw[Lib.decDigits_length]at h
  exact h
 go_wp2
 go_ret
 obtain⟨os,eo⟩:=Lib.fin_at w (.cells Lib.zeros24 186) dk k 0
 exact⟨rfl,k,os,eo⟩
end
end Go.Proofs.YtjofnbpcanhfhabGreatDoor
namespace Go.Proofs.YtjofnbpcanhfhabGreatDoor
open Go.Sx
set_option linter.unusedSimpArgs false
set_option linter.unusedVariables false
set_option maxRecDepth 100000
set_option maxHeartbeats 4000000
def padF:Nat→Nat→List UInt8
 |0,_=>[]
 |k+1,r=>padF k (r/10)++[UInt8.ofNat (48+r % 10)]
theorem dec_big {n:Nat} (h:10≤n):Lib.decDigits n=Lib.decDigits (n/10)++[UInt8.ofNat (48+n % 10)]:=by rw[Lib.decDigits,dif_neg (by omega)]
theorem dec_lt {n:Nat} (h:n<10):Lib.decDigits n=[UInt8.ofNat (48+n)]:=by rw[Lib.decDigits,dif_pos h]
theorem dec_split:∀k q r,0<q→r<10^k→Lib.decDigits (q*10^k+r)=Lib.decDigits q++padF k r
 |0,q,r,hq,hr=>by
  obtain rfl:r=0:=by simp at hr;exact hr
  simp[padF]
 |k+1,q,r,hq,hr=>by
  have hp:0<10^k:=Nat.pow_pos (by decide)
  have e:q*10^(k+1)=10*(q*10^k):=by rw[Nat.pow_succ,←Nat.mul_assoc,Nat.mul_comm]
  have hqp:0<q*10^k:=Nat.mul_pos hq hp
  rw[Nat.pow_succ]at hr
  rw[dec_big (by omega),show(q*10^(k+1)+r)/10=q*10^k+r/10 by omega,show(q*10^(k+1)+r) % 10=r % 10 by omega,dec_split k q (r/10) hq (by omega),padF,List.append_assoc]
theorem pad_zero:∀k,padF k 0=List.replicate k 48
 |0=>rfl
 |k+1=>by rw[padF,Nat.zero_div,pad_zero k,List.replicate_succ'];rfl
theorem pad_dec:∀k r,r<10^k→0<k→padF k r=List.replicate (k - (Lib.decDigits r).length) 48++Lib.decDigits r∧(Lib.decDigits r).length≤k
 |0,r,h,h0=>by omega
 |k+1,r,h,_=>by
  by_cases h1:r<10
  ·rw[padF,show r/10=0 by omega,pad_zero,dec_lt h1,show r % 10=r by omega]
   exact⟨rfl,by simp⟩
  ·have hk:0<k:=by rcases Nat.eq_zero_or_pos k with g|g
                   ·subst g;simp at h;omega
                   ·exact g
   rw[Nat.pow_succ]at h
   obtain⟨h2,h3⟩:=pad_dec k (r/10) (by omega) hk
   have e:=dec_big (n:=r) (by omega)
   rw[padF,h2,e,List.length_append,List.append_assoc,List.length_singleton]
   exact⟨by rw[show k+1 - ((Lib.decDigits (r/10)).length+1)=k - (Lib.decDigits (r/10)).length by omega],by omega⟩
theorem pow_tab {ρ:Rho} {w:World} (h:∀b o,ρ.imm b=some o→w.heap[b]? =some o):Lib.TabIs Tryz.prog w "internal/strconv.uint64pow10" .u64 Lib.pow10Tab:=by
 obtain⟨o,h1,_,ty,fz,rfl⟩:=ρ.glob 1 .u64 Lib.pow10Tab (by decide+kernel)
 exact tab_is (g:=1) (by kernel_rfl) (h _ _ h1)
theorem call_valsT {f:FuncId} {vs:List Value} {v:Value} (hf:FnOK Tryz.prog f) (hv:v.oneCell'=true) (h:∀w:World,Lib.TabIs Tryz.prog w "internal/strconv.uint64pow10" .u64 Lib.pow10Tab→Calls Tryz.prog f vs.toArray w fun e w'=>e= .returned v∧RowKit.Below w.heap.size w w'):CallOK Tryz.prog f (vs.map .val) [] (.val v) [] []:=by
 refine .inl ⟨hf,fun ρ w z hz hp=> ?_⟩
 rw[zip_vals hz]
 refine(h w (pow_tab hp.imm)).mono ?_
 rintro e w' ⟨rfl,hb⟩
 exact⟨v,ρ,rfl,.of_below hb (has_val hv)⟩
theorem t_iFmtB (n:Nat) (h1:100≤n) (h2:n<18446744073709551616):CallOK Tryz.prog 133 [.val (.int .u64 (n:Nat)),.val (.int .i64 10)] [] (.val (.string (tN n))) [] []:=
 call_valsT (vs:=[.int .u64 (n:Nat),.int .i64 10]) ⟨Tryz.f133,Tryz.func133,rfl,by kernel_rfl⟩ rfl fun w ht=>by
  rw[tN_eq]
  refine(fmt_big n h1 h2 w ht).mono ?_
  rintro e w' ⟨rfl,k,os,rfl⟩
  exact⟨rfl,Lib.below_grow w.heap.size w (Nat.le_refl _) k os⟩
theorem t_FormatG (n:Nat) (h:n<18446744073709551616):CallOK Tryz.prog 99 [.val (.int .u64 (n:Nat)),.val (.int .i64 10)] [] (.val (.string (tN n))) [] []:=by
 by_cases hs:n<100
 ·exact t_Format n hs
 ·have k1:=t_iFmtB n (by omega) h
  refine callV (Z:=[]) tabOK mixedOK Tryz.func99 rfl (by kernel_rfl) rfl rfl (by kernel_rfl) rfl ?_
  intro W0 w0 ρ0 hE
  conv=>whnf
  (repeat(first|(refine g_c (by assumption) ?_;conv=>whnf)));(first|exact Recast.refl _|exact Frz.recast (Recast.refl _) rfl|(refine Frz.one rfl rfl ?_;skip)|(refine Frz.tup ?_;skip))
theorem t_Itoa (n:Nat) (h:n<9223372036854775808):CallOK Tryz.prog 103 [.val (.int .i64 (n:Nat))] [] (.val (.string (tN n))) [] []:=
 call_valsT (vs:=[.int .i64 (n:Nat)]) ⟨Tryz.f103,Tryz.func103,rfl,by kernel_rfl⟩ rfl fun w ht=>by
  rw[tN_eq]
  refine(Tryz.strconv_Itoa n (by omega) (by omega) w ht).mono ?_
  rintro e w' ⟨rfl,k,os,rfl⟩
  refine⟨?_,Lib.below_grow w.heap.size w (Nat.le_refl _) k os⟩
  rw[Lib.itoa_nonneg]
theorem t_Repeat (c:Nat) (hc:c≤100):CallOK Tryz.prog 104 [.val (.string ⟨#[48]⟩),.val (.int .i64 (c:Nat))] [] (.val (.string ⟨(List.replicate c 48).toArray⟩)) [] []:=
 call_vals (vs:=[.string ⟨#[48]⟩,.int .i64 (c:Nat)]) ⟨Tryz.f104,Tryz.func104,rfl,by kernel_rfl⟩ rfl fun w=>by
  have e:∀c,Lib.repeatL [48] c=List.replicate c 48:=fun c=>by
   induction c with
   |zero=>rfl
   |succ c ih=>show[48]++Lib.repeatL [48] c=_;rw[ih,List.replicate_succ,List.singleton_append]
  refine(Tryz.strings_Repeat ⟨#[48]⟩ c w (by omega) (by show 1*c≤_;omega)).mono ?_
  rintro e' w' ⟨rfl,hb⟩
  exact⟨by rw[show(⟨#[48]⟩:ByteArray).data.toList=[48]from rfl,e],hb⟩
abbrev sblk (ss:List ByteArray):Blk:=⟨9,true,.seq 1 (ss.map sel)⟩
theorem str_ext {a b:List ByteArray} {n:Nat} (ha:a.length=n) (hb:b.length=n) (h:∀i,i<n→a.getD i .empty=b.getD i .empty):a=b:=by
 refine List.ext_getElem (ha.trans hb.symm) fun i h1 h2=> ?_
 have:=h i (by omega)
 rwa [List.getD_eq_getElem?_getD,List.getD_eq_getElem?_getD,List.getElem?_eq_getElem h1,List.getElem?_eq_getElem h2]at this
theorem str_set {l:List ByteArray} {i j:Nat} {v:ByteArray} (hi:i<l.length):(l.set i v).getD j .empty=if i=j then v else l.getD j .empty:=by
 simp only[List.getD_eq_getElem?_getD,List.getElem?_set]
 by_cases h:i=j
 ·subst h;simp[hi]
 ·simp[h]
theorem str_rev {l:List ByteArray} {n k:Nat} (hl:l.length=n) (hk:k<n):l.reverse.getD k .empty=l.getD (n - 1 - k) .empty:=by
 simp only[List.getD_eq_getElem?_getD]
 rw[List.getElem?_reverse (by omega),hl]
theorem t_Reverse (ss:List ByteArray) (n:Nat) (hn:ss.length=n) (hl:n<1099511627776) (K:Nat):CallOK Tryz.prog 105 [.slc K 1 0 n] [(K,sblk ss)] (.tup []) [] [(K,sblk ss.reverse)]:=by
 have e0:IntKind.i64.wrap ((n:Int) - 1)=(n:Int) - 1:=wrap_i64 (by omega) (by omega)
 refine callK (Z:=[]) tabOK mixedOK Tryz.func105 rfl (by kernel_rfl) (args:=[.slc 1001 1 0 n]) (fk:=[(1001,sblk ss)]) (c:=.tup []) (new:=[]) (upd:=[(1001,sblk ss.reverse)]) (ShapeOK.of rfl rfl rfl rfl rfl rfl rfl rfl rfl rfl rfl) rfl (fun _=>K) NamesOK.upd ?_
 intro W0 w0 ρ0 hE
 conv=>whnf
 (repeat(first|(rw[e0];conv=>whnf)))
 refine SW_loopN hE (fun k=>k) [0,2,3] [1001] (fun q fr hp=>∃(i:Nat) (ys:List ByteArray),q=n - i∧(2*i≤n)∧ys.length=n∧(∀k,k<n→ys.getD k .empty=if k<i∨n - i≤k then ss.getD (n - 1 - k) .empty else ss.getD k .empty)∧
  fr=[(0,.slc 1001 1 0 n),(2,.val (.int .i64 (i:Nat))),(3,.val (.int .i64 ((n:Int) - 1 - i)))]∧hp=[(1001,sblk ys)]) n ?_ ?_ ?_
 ·kernel_rfl
 ·exact⟨0,ss,rfl,by omega,hn,(fun k hk=>by rw[if_neg (by omega)]),by rw[show(n:Int) - 1 - ((0:Nat):Int)=(n:Int) - 1 by omega];rfl,rfl⟩
 rintro q _ _ ⟨i,ys,rfl,hi,hy,hv,rfl,rfl⟩
 conv=>whnf
 by_cases hgo:i+i+1<n
 ·obtain⟨j,hj⟩:∃j,j=n - 1 - i:=⟨_,rfl⟩
  have ej:(n:Int) - 1 - i=(j:Int):=by omega
  rw[ej]
  have t1:decide ((i:Int)<(j:Int))=true:=decide_eq_true (by omega)
  have e1:=winc (i:=i) (by omega)
  have e2:IntKind.i64.wrap ((j:Int) - 1)=(n:Int) - 1 - ((i+1:Nat):Int):=by rw[wrap_i64 (by omega) (by omega)];omega
  have g1:(ys.map sel).getD i .any= .val (.string (ys.getD i .empty)):=by rw[map_get (d:=ByteArray.empty) (by omega)];rfl
  have g2:(ys.map sel).getD j .any= .val (.string (ys.getD j .empty)):=by rw[map_get (d:=ByteArray.empty) (by omega)];rfl
  have g3:((ys.map sel).set i (.val (.string (ys.getD j .empty)))).getD j .any= .val (.string (ys.getD j .empty)):=by rw[←g2,List.getD_eq_getElem?_getD,List.getElem?_set_ne (by omega),←List.getD_eq_getElem?_getD]
  have hlm:(ys.map sel).length=n:=by rw[List.length_map];exact hy
  have hset:(((ys.set i (ys.getD j .empty)).set j (ys.getD i .empty)).map sel)=((ys.map sel).set i (.val (.string (ys.getD j .empty)))).set j (.val (.string (ys.getD i .empty))):=by rw[List.map_set,List.map_set];rfl
  have hnew:∀k,k<n→((ys.set i (ys.getD j .empty)).set j (ys.getD i .empty)).getD k .empty=if k<i+1∨n - (i+1)≤k then ss.getD (n - 1 - k) .empty else ss.getD k .empty:=by
   intro k hk
   rw[str_set (by rw[List.length_set];omega),str_set (by omega)]
   by_cases h1:j=k
   ·rw[if_pos h1,if_pos (by omega),hv i (by omega),if_neg (by omega),show n - 1 - k=i by omega]
   ·rw[if_neg h1]
    by_cases h2:i=k
    ·rw[if_pos h2,if_pos (by omega),hv j (by omega),if_neg (by omega),show n - 1 - k=j by omega]
    ·rw[if_neg h2,hv k hk]
     by_cases h3:k<i∨n - i≤k
     ·rw[if_pos h3,if_pos (by omega)]
     ·rw[if_neg h3,if_neg (by omega)]
  (repeat((first|refine step_w1 rfl rfl ?_|refine step_i (by kernel_rfl) ?_|refine And.intro (by first|decide|omega|(simp only[tl0,dlen,List.length_replicate,List.length_set,List.length_map,List.length_zipWith,List.length_take,List.length_append,List.length_cons,List.length_nil];omega)) ?_|rw[t1]|rw[show 0+(i:Int).toNat=i from by omega]|rw[show 0+(j:Int).toNat=j from by omega]|rw[g1]|rw[g2]|rw[g3]|rw[e1]|rw[e2]);conv=>whnf))
  refine⟨n - (i+1),fun k=>k,[0,2,3],[1001],by omega,by kernel_rfl,i+1,_,rfl,by omega, ?_,hnew,rfl, ?_⟩
  ·rw[List.length_set,List.length_set];exact hy
  ·rw[sblk,hset];rfl
 ·have t1:decide ((i:Int)<(n:Int) - 1 - i)=false:=decide_eq_false (by omega)
  have e:ys=ss.reverse:=str_ext hy (by rw[List.length_reverse];exact hn) fun k hk=>by
   rw[hv k hk,str_rev hn hk]
   split
   ·rfl
   ·rw[show n - 1 - k=k by omega]
  rw[e]
  (repeat(first|(refine step_w2 rfl rfl ?_;conv=>whnf)|(rw[t1];conv=>whnf)))
  exact⟨Recast.refl _,(fun _ _ h=>by cases h),fun k b hm=>by simp only[List.mem_singleton,Prod.mk.injEq]at hm;obtain⟨rfl,rfl⟩:=hm;rfl⟩
theorem call_strsM {P:Program} {f:FuncId} {ss:List ByteArray} {n:Nat} {sep:ByteArray} {v:Value} {ty:TypeId} (hn:ss.length=n) (hf:FnOK P f) (hv:v.oneCell'=true)
  (h0:ss=[]→∀(a:Option Addr) (w:World),Calls P f #[.slice a 0 0,.string sep] w fun e w'=>e= .returned v∧w'=w)
  (h:∀(bk o c:Nat) (w:World),(∀(j:Nat) x,ss[j]? =some x→w.cell? ⟨bk,o+j,none⟩=some (.string x))→bk<w.heap.size→ss.length≤c→Calls P f #[.slice (some ⟨bk,o,none⟩) ss.length c,.string sep] w fun e w'=>e= .returned v∧RowKit.Below w.heap.size w w') (K:Nat):
  CallOK P f [.slc K 1 0 n,.val (.string sep)] [(K,⟨ty,true,.seq 1 (ss.map sel)⟩)] (.val v) [] []:=by
 subst hn
 refine .inl ⟨hf,fun ρ w z hz hp=> ?_⟩
 simp only[HasZ]at hz
 obtain⟨x,_,rfl,hx,y,_,rfl,hy,rfl⟩:=hz
 simp only[HasC]at hy
 obtain⟨rfl,_⟩:=hy
 have fin:∀(a:Value),(Calls P f #[a,.string sep] w fun e w'=>e= .returned v∧RowKit.Below w.heap.size w w')→Calls P f (List.zipWith mkV [.slc K 1 0 ss.length,SV.val (.string sep)] [[a],[.string sep]]).toArray w fun e w'=>∃v' ρ',e= .returned v'∧Post ρ w (.val v) [] [] v' ρ' w':=fun a hc=>by
  have e:(List.zipWith mkV [.slc K 1 0 ss.length,SV.val (.string sep)] [[a],[.string sep]]).toArray= #[a,.string sep]:=by simp[mkV,SV.isOne]
  rw[e]
  refine hc.mono ?_
  rintro e w' ⟨rfl,hb⟩
  exact⟨v,ρ,rfl,.of_below hb (has_val hv)⟩
 obtain⟨z,hz,hcase⟩:=blk_rows (hp.hfk K _ (List.mem_cons_self ..)) rfl rfl
 simp only[HasC]at hx
 rcases hx with⟨b,t,cap,e1,e2,e3,rfl⟩|⟨hn,a,rfl⟩
 ·rcases hcase with⟨b',t',ex,h1,h2,h3,h4⟩|⟨h1,_⟩
  ·rw[e1]at h1
   cases h1
   have hzf:∀(l:List ByteArray) (z:List (List Value)),HasZ (bareR ρ.imm ρ.glob) (l.map sel) z→z.flatten=l.map .string:=by
    intro l
    induction l with
    |nil=>intro z hz;simp only[List.map_nil,HasZ]at hz;subst hz;rfl
    |cons s l ih=>
     intro z hz
     simp only[List.map_cons,HasZ,sel,HasC]at hz
     obtain⟨x,r,rfl,⟨rfl,_⟩,h⟩:=hz
     simp[ih r h]
   refine fin _ ((h b 0 cap w (fun j x hj=> ?_) ?_ e2))
   ·rw[cell_of_row w b _ _ _ _ h2,List.getElem?_toArray,hzf ss z hz.2.1,Nat.zero_add]
    rw[List.getElem?_append_left (by rw[List.length_map];exact(List.getElem?_eq_some_iff.1 hj).1),List.getElem?_map,hj];rfl
   ·rcases Nat.lt_or_ge b w.heap.size with h'|h'
    ·exact h'
    ·simp[Array.getElem?_eq_none h']at h2
  ·rw[e1]at h1;cases h1
 ·refine fin _ ?_
  have hn:ss=[]:=List.length_eq_zero_iff.1 hn
  subst hn
  exact(h0 rfl a w).mono fun _ _ ⟨he,hw⟩=>⟨he,hw▸RowKit.Below.refl _ _⟩
theorem t_JoinM (ss:List ByteArray) (n:Nat) (hn:ss.length=n) (sep:ByteArray) (hN:ss.length≤1099511627776) (hlen:(Lib.join (ss.map (·.data.toList)) sep.data.toList).length≤140737488355328) (K:Nat):
  CallOK Tryz.prog 89 [.slc K 1 0 n,.val (.string sep)] [(K,sblk ss)] (.val (.string ⟨(Lib.join (ss.map (·.data.toList)) sep.data.toList).toArray⟩)) [] []:=by
 refine call_strsM hn ⟨Tryz.f89,Tryz.func89,rfl,by kernel_rfl⟩ rfl ?_ ?_ K
 ·rintro rfl a w
  exact Tryz.strings_Join_none a 0 sep w
 ·intro bk o c w hc hb hcap
  exact Tryz.strings_Join bk o c ss sep w hc hb (by omega) hcap hlen
end Go.Proofs.YtjofnbpcanhfhabGreatDoor
namespace Go.Proofs.YtjofnbpcanhfhabGreatDoor
open Go.Sx
set_option linter.unusedSimpArgs false
set_option linter.unusedVariables false
set_option maxRecDepth 100000
set_option maxHeartbeats 4000000
theorem dec_len:∀k n,n<2^k→(Lib.decDigits n).length≤k+1
 |0,n,h=>by
  obtain rfl:n=0:=by simp at h;exact h
  rw[dec_lt (by decide)];simp
 |k+1,n,h=>by
  by_cases h1:n<10
  ·rw[dec_lt h1];simp
  ·rw[dec_big (by omega),List.length_append,List.length_singleton]
   have:=dec_len k (n/10) (by rw[Nat.pow_succ]at h;omega)
   omega
def cat (ss:List ByteArray):List UInt8:=(ss.map (·.data.toList)).flatten
theorem join_empty (l:List (List UInt8)):Lib.join l []=l.flatten:=by
 cases l with
 |nil=>rfl
 |cons x r=>rw[Lib.join_cons,Lib.joinTail];simp
theorem cut_digs {v m:Nat} (h:v<4294967296^m):cutN (digs v m) m=(wInts v).length∧(wInts v).length≤m:=by
 have hlen:=digs_len v m
 have hv:=valI_digs v m
 rw[Nat.mod_eq_of_lt h]at hv
 have hc:=valI_cut (digs v m) m
 have hle:=cutN_le (digs v m) m
 have htop:=cutN_top (digs v m) m
 have:=wInts_of (cutN (digs v m) m) (digs v m) (digs_w32 v m) (by omega) htop
 rw[hc,hv,Int.toNat_natCast]at this
 have e:(wInts v).length=cutN (digs v m) m:=by rw[this,List.length_take];omega
 exact⟨e.symm,by omega⟩
theorem sz_div9 {v:Nat} (h:1000000000≤v):sz (v/1000000000)+29≤sz v:=by
 have h1:v<2^sz v:=sz_le.1 (Nat.le_refl _)
 have h2:29≤sz v:=by
  rcases Nat.lt_or_ge (sz v) 29 with g|g
  ·have:2^sz v≤2^29:=Nat.pow_le_pow_right (by decide) (by omega)
   omega
  ·exact g
 have h3:sz (v/1000000000)≤sz v - 29:=sz_le.2 (by
  rw[Nat.div_lt_iff_lt_mul (by decide)]
  have e:2^sz v=2^(sz v - 29)*2^29:=by rw[←Nat.pow_add];congr 1;omega
  have:2^(sz v - 29)*2^29≤2^(sz v - 29)*1000000000:=Nat.mul_le_mul_left _ (by decide)
  omega)
 omega
theorem tN_size9 {r:Nat} (h:r<1000000000):(tN r).size≤9:=by
 rw[tN_eq]
 show(Lib.decDigits r).toArray.size≤9
 have:=(pad_dec 9 r h (by decide)).2
 simpa using this
theorem pad_tN {r:Nat} (h:r<1000000000):((⟨(List.replicate (9 - (tN r).size) 48).toArray⟩:ByteArray)++tN r).data.toList=padF 9 r:=by
 have hs:(tN r).size=(Lib.decDigits r).length:=by rw[tN_eq];show(Lib.decDigits r).toArray.size=_;simp
 rw[(pad_dec 9 r h (by decide)).1,hs,tN_eq,ByteArray.data_append]
 simp
theorem cat_snoc (ps:List ByteArray) (s:ByteArray):cat (ps++[s]).reverse=s.data.toList++cat ps.reverse:=by simp[cat]
theorem wl_of {n M:Nat} (h:sz n≤M):(wInts n).length≤M:=len_le_of (Nat.lt_of_lt_of_le (sz_le.1 h) (Nat.pow_le_pow_left (by decide) M))
theorem t_NatB (n:Nat) (h:¬n<18446744073709551616) (hs:sz n≤1073741824):CallOK Tryz.prog 67 [.nat n] [] (.val (.string (tN n))) [] []:=by
 have hwl:(wInts n).length<1099511627776:=Nat.lt_of_le_of_lt (wl_of hs) (by decide)
 have k1:=c_words n 3001 hwl
 have e2:((big n).toList==(ByteArray.mk #[]).toList)=false:=by rw[big_eq];exact decide_eq_false h
 have hwa:=wArr_len n
 refine callF (Z:=[]) tabOK mixedOK Tryz.func67 rfl (by kernel_rfl) (by first|rfl|(simp[keylessL,keyless,keylessL_map, *];done)) (by first|rfl|(simp[keylessL,keyless,keylessL_map, *];done)) (by kernel_rfl) rfl ?_
 intro w0 ρ0 hE
 conv=>whnf
 (repeat((first|refine step_w2 rfl rfl ?_|refine g_cn (by assumption) rfl ?_|rw[e2]|rw[Nat.zero_add]);conv=>whnf))
 refine SWx_adopt (t:=3) (k:=2002) (s:=1) (blk:=sblk []) rfl rfl rfl ?_
 have hwn:=wInts_val n
 refine SW_loopN hE (fun k=>k) [3,4] [2002,3001] (fun q fr hp=>∃(v:Nat) (L:List Int) (ps:List ByteArray),q=v∧(wInts v).length≤L.length∧L.length<1099511627776∧W32 L∧valI L (wInts v).length=(v:Int)∧((v≠0∧Lib.decDigits n=Lib.decDigits v++cat ps.reverse∧ps.length*29+sz v≤sz n)∨(v=0∧Lib.decDigits n=cat ps.reverse∧ps.length*29≤sz n+29))∧
  fr=[(3,.slc 2002 1 0 ps.length),(4,.slc 3001 1 0 (wInts v).length)]∧hp=[(2002,sblk ps),(3001,⟨23,true,.ints .u32 L⟩)]) n ?_ ?_ ?_
 ·kernel_rfl
 ·have hwA:(wArr n)=wInts n:=by rw[wArr,if_neg h]
  refine⟨n,wArr n,[],rfl,hwa,by rw[hwA];exact hwl,by rw[hwA];exact wInts_w32 n,by rw[hwA];exact hwn,.inl ⟨by omega, ?_,by simp⟩,rfl,rfl⟩
  simp[cat]
 rintro q _ _ ⟨v,L,ps,rfl,hL,hLl,hLw,hLv,hrel,rfl,rfl⟩
 conv=>whnf
 have hpl:ps.length<1099511627776:=by rcases hrel with⟨_,_,g⟩|⟨_,_,g⟩<;>omega
 by_cases h0:0<q
 ·obtain⟨_,hdec,hlen⟩:=hrel.resolve_right (by omega)
  clear hrel
  have hm:=wInts_top (n:=q) (by omega)
  have t1:decide (((wInts q).length:Int)>0)=true:=decide_eq_true (by omega)
  have hqm:q<4294967296^(wInts q).length:=lt_of_len q
  have k2:=c_short L (wInts q).length hL (by omega) hLw 1000000000 (by decide) (by decide) 3001 3002 (by decide) true q hLv
  obtain⟨hcut,hcle⟩:=cut_digs (v:=q/1000000000) (m:=(wInts q).length) (Nat.lt_of_le_of_lt (Nat.div_le_self _ _) hqm)
  have hdl:=digs_len (q/1000000000) (wInts q).length
  have k3:=c_cut (digs (q/1000000000) (wInts q).length) (wInts q).length (by omega) (by omega) 3002 true
  rw[hcut]at k3
  have hr:q % 1000000000<1000000000:=Nat.mod_lt _ (by decide)
  have k4:=t_Itoa (q % 1000000000) (by omega)
  have e1:IntKind.i64.wrap ((q % 1000000000:Nat):Int)=((q % 1000000000:Nat):Int):=wrap_i64 (by omega) (by omega)
  have hsz:=tN_size9 hr
  have hdw:W32 (digs (q/1000000000) (wInts q).length):=digs_w32 _ _
  have hdv:valI (digs (q/1000000000) (wInts q).length) (wInts (q/1000000000)).length=((q/1000000000:Nat):Int):=by
   have h1:=valI_cut (digs (q/1000000000) (wInts q).length) (wInts q).length
   rw[hcut,valI_digs,Nat.mod_eq_of_lt (Nat.lt_of_le_of_lt (Nat.div_le_self _ _) hqm)]at h1
   exact h1
  have hqv:q/1000000000*1000000000+q % 1000000000=q:=by have:=Nat.div_add_mod q 1000000000;omega
  by_cases hq:1000000000≤q
  ·have hv0:0<q/1000000000:=Nat.div_pos hq (by decide)
   have hs9:=sz_div9 hq
   have hsplit:=dec_split 9 (q/1000000000) (q % 1000000000) hv0 hr
   rw[show 10^9=1000000000 from rfl,hqv,←pad_tN hr]at hsplit
   have hm2:=wInts_top (n:=q/1000000000) (by omega)
   have t2:decide (((wInts (q/1000000000)).length:Int)>0)=true:=decide_eq_true (by omega)
   have e2:IntKind.i64.wrap (9 - ((tN (q % 1000000000)).size:Int))=((9 - (tN (q % 1000000000)).size:Nat):Int):=by rw[wrap_i64 (by omega) (by omega)];omega
   have k5:=t_Repeat (9 - (tN (q % 1000000000)).size) (by omega)
   have hrs:(⟨(List.replicate (9 - (tN (q % 1000000000)).size) 48).toArray⟩:ByteArray).size=9 - (tN (q % 1000000000)).size:=by show(List.replicate _ _).toArray.size=_;simp
   have hob:(⟨(List.replicate (9 - (tN (q % 1000000000)).size) 48).toArray⟩:ByteArray).size+(tN (q % 1000000000)).size≤9223372036854775807:=by omega
   have hd2:Lib.decDigits n=Lib.decDigits (q/1000000000)++cat (ps++[(⟨(List.replicate (9 - (tN (q % 1000000000)).size) 48).toArray⟩:ByteArray)++tN (q % 1000000000)]).reverse:=by
    rw[hdec,hsplit,cat_snoc,List.append_assoc]
   clear hdec hsplit
   generalize (⟨(List.replicate (9 - (tN (q % 1000000000)).size) 48).toArray⟩:ByteArray)=z9 at*
   have hpm:(ps.map sel).length=ps.length:=List.length_map ..
   (repeat((first|refine step_w1 rfl rfl ?_|refine And.intro (by first|decide|omega|(simp only[tl0,dlen,List.length_replicate,List.length_set,List.length_map,List.length_zipWith,List.length_take,List.length_append,List.length_cons,List.length_nil];omega)) ?_|refine g_c (by assumption) ?_|refine g_c1 (by assumption) rfl ?_|refine g_c1n (by assumption) rfl rfl ?_|rw[t1]|rw[e1]|rw[t2]|rw[e2]);conv=>whnf))
   refine⟨q/1000000000,renBy [(41,2002),(3002,3001)],[3,4],[41,3002],by omega,by kernel_rfl,q/1000000000,_,ps++[z9++tN (q % 1000000000)],rfl,by rw[hdl];exact hcle,by omega,hdw,hdv,.inl ⟨by omega,hd2,by rw[List.length_append,List.length_singleton];omega⟩,by rw[List.length_append];rfl, ?_⟩
   have e9:sblk (ps++[z9++tN (q % 1000000000)])=⟨9,true,.seq 1 (List.take ps.length (ps.map sel)++List.take 1 (List.drop 0 [SV.val (.string (z9++tN (q % 1000000000)))]))⟩:=by
    rw[sblk,List.take_of_length_le (by omega),List.map_append];rfl
   rw[e9];rfl
  ·have hv0:q/1000000000=0:=Nat.div_eq_of_lt (by omega)
   have t2:decide (((wInts (q/1000000000)).length:Int)>0)=false:=by rw[hv0];rfl
   have hmod:q % 1000000000=q:=Nat.mod_eq_of_lt (by omega)
   have hd2:Lib.decDigits n=cat (ps++[tN (q % 1000000000)]).reverse:=by
    rw[hdec,cat_snoc,hmod,tN_eq]
   clear hdec
   have hpm:(ps.map sel).length=ps.length:=List.length_map ..
   (repeat((first|refine step_w1 rfl rfl ?_|refine step_w2 rfl rfl ?_|refine And.intro (by first|decide|omega|(simp only[tl0,dlen,List.length_replicate,List.length_set,List.length_map,List.length_zipWith,List.length_take,List.length_append,List.length_cons,List.length_nil];omega)) ?_|refine g_c (by assumption) ?_|refine g_c1 (by assumption) rfl ?_|refine g_c1n (by assumption) rfl rfl ?_|rw[t1]|rw[e1]|rw[t2]);conv=>whnf))
   refine⟨q/1000000000,renBy [(41,2002),(3002,3001)],[3,4],[41,3002],by omega,by kernel_rfl,q/1000000000,_,ps++[tN (q % 1000000000)],rfl,by rw[hdl];exact hcle,by omega,hdw,hdv,.inr ⟨hv0,hd2,by rw[List.length_append,List.length_singleton];omega⟩,by rw[List.length_append];rfl, ?_⟩
   have e9:sblk (ps++[tN (q % 1000000000)])=⟨9,true,.seq 1 (List.take ps.length (ps.map sel)++List.take 1 (List.drop 0 [SV.val (.string (tN (q % 1000000000)))]))⟩:=by
    rw[sblk,List.take_of_length_le (by omega),List.map_append];rfl
   rw[e9];rfl
 ·obtain rfl:q=0:=by omega
  obtain⟨_,hdec,_⟩:=hrel.resolve_left (fun h=>h.1 rfl)
  have t1:decide (((wInts 0).length:Int)>0)=false:=rfl
  have k2:=t_Reverse ps ps.length rfl (by omega) 2002
  have hdl:(Lib.decDigits n).length≤140737488355328:=by
   exact Nat.le_trans (dec_len (sz n) n (sz_le.1 (Nat.le_refl _))) (by omega)
  have k3:=t_JoinM ps.reverse ps.length (by rw[List.length_reverse]) ⟨#[]⟩ (by rw[List.length_reverse];omega) (by
   rw[show(⟨#[]⟩:ByteArray).data.toList=[]from rfl,join_empty]
   show(cat ps.reverse).length≤_
   rw[←hdec];exact hdl) 2002
  have e:(⟨(Lib.join (ps.reverse.map (·.data.toList)) (⟨#[]⟩:ByteArray).data.toList).toArray⟩:ByteArray)=tN n:=by
   rw[show(⟨#[]⟩:ByteArray).data.toList=[]from rfl,join_empty,tN_eq,hdec];rfl
  rw[e]at k3
  (repeat(first|(refine step_w2 rfl rfl ?_;conv=>whnf)|(refine g_c1 (by assumption) rfl ?_;conv=>whnf)|(refine g_c1u (by assumption) rfl rfl ?_;conv=>whnf)));(first|exact Recast.refl _|exact Frz.recast (Recast.refl _) rfl|(refine Frz.one rfl rfl ?_;skip)|(refine Frz.tup ?_;skip))
theorem tN_sizeG (n:Nat):(tN n).size≤sz n+1:=by
 rw[tN_eq]
 show(Lib.decDigits n).toArray.size≤_
 simpa using dec_len (sz n) n (sz_le.1 (Nat.le_refl _))
theorem t_NatG (n:Nat) (hs:sz n≤1073741824):CallOK Tryz.prog 67 [.nat n] [] (.val (.string (tN n))) [] []:=by
 by_cases h:n<18446744073709551616
 ·have k1:=t_FormatG n h
  have e1:low n=(n:Int):=low_small h
  have e2:((big n).toList==(ByteArray.mk #[]).toList)=true:=by rw[big_eq];exact decide_eq_true h
  refine callV (Z:=[]) tabOK mixedOK Tryz.func67 rfl (by kernel_rfl) rfl rfl (by kernel_rfl) rfl ?_
  intro W0 w0 ρ0 hE
  conv=>whnf
  (repeat((first|refine step_w1 rfl rfl ?_|refine g_c (by assumption) ?_|rw[e2]|rw[e1]);conv=>whnf));(first|exact Recast.refl _|exact Frz.recast (Recast.refl _) rfl|(refine Frz.one rfl rfl ?_;skip)|(refine Frz.tup ?_;skip))
 ·exact t_NatB n h hs
theorem t_IntG (z:Int) (h:sz z.natAbs≤1073741824):CallOK Tryz.prog 66 [.int z] [] (.val (.string (tZ z))) [] []:=by
 have k1:=t_NatG z.natAbs h
 have hs:=tN_sizeG z.natAbs
 have h1:(ByteArray.mk #[45]).size=1:=rfl
 have h2:(ByteArray.mk #[45]).size+(tN z.natAbs).size≤9223372036854775807:=by omega
 unfold tZ
 refine callV (Z:=[]) tabOK mixedOK Tryz.func66 rfl (by kernel_rfl) rfl rfl (by kernel_rfl) rfl ?_
 intro W0 w0 ρ0 hE
 conv=>whnf
 by_cases hz:z<0
 ·have t1:decide (z<0)=true:=decide_eq_true hz
  rw[if_pos hz]
  (repeat((first|refine step_w1 rfl rfl ?_|refine And.intro (by first|decide|omega|(simp only[tl0,dlen,List.length_replicate,List.length_set,List.length_map,List.length_zipWith,List.length_take,List.length_append,List.length_cons,List.length_nil];omega)) ?_|refine g_c (by assumption) ?_|rw[t1]);conv=>whnf));(first|exact Recast.refl _|exact Frz.recast (Recast.refl _) rfl|(refine Frz.one rfl rfl ?_;skip)|(refine Frz.tup ?_;skip))
 ·have t1:decide (z<0)=false:=decide_eq_false hz
  rw[if_neg hz]
  (repeat(first|(refine step_w2 rfl rfl ?_;conv=>whnf)|(refine g_c (by assumption) ?_;conv=>whnf)|(rw[t1];conv=>whnf)));(first|exact Recast.refl _|exact Frz.recast (Recast.refl _) rfl|(refine Frz.one rfl rfl ?_;skip)|(refine Frz.tup ?_;skip))
theorem tZ_sizeG (z:Int):(tZ z).size≤sz z.natAbs+2:=by
 have hs:=tN_sizeG z.natAbs
 unfold tZ
 split
 ·rw[ByteArray.size_append];have:("-".toUTF8).size=1:=rfl;omega
 ·omega
theorem t_FracG (q:Rat) (h:fs q≤1073741824):CallOK Tryz.prog 32 [.frac q] [] (.val (.string (tQ q))) [] []:=by
 have n1:=fsz_num q
 have n2:=fsz_den q
 unfold fs at h
 have kw:=c_Whole q
 have k1:=t_IntG q.num (by omega)
 have k2:=t_NatG q.den (by omega)
 have k3:=c_den natBig q (by omega)
 have hs:=tZ_sizeG q.num
 have hs2:=tN_sizeG q.den
 have h1:(ByteArray.mk #[47]).size=1:=rfl
 have h2:(tZ q.num).size+(ByteArray.mk #[47]).size≤9223372036854775807:=by omega
 have h3:(tZ q.num++(ByteArray.mk #[47])).size+(tN q.den).size≤9223372036854775807:=by rw[ByteArray.size_append];omega
 unfold tQ
 refine callV (Z:=[]) tabOK mixedOK Tryz.func32 rfl (by kernel_rfl) rfl rfl (by kernel_rfl) rfl ?_
 intro W0 w0 ρ0 hE
 conv=>whnf
 by_cases hd:q.den=1
 ·rw[decide_eq_true hd]at kw
  rw[if_pos hd]
  (repeat(first|(refine step_w1 rfl rfl ?_;conv=>whnf)|(refine g_c (by assumption) ?_;conv=>whnf)));(first|exact Recast.refl _|exact Frz.recast (Recast.refl _) rfl|(refine Frz.one rfl rfl ?_;skip)|(refine Frz.tup ?_;skip))
 ·rw[decide_eq_false hd]at kw
  rw[if_neg hd]
  (repeat((first|refine step_w2 rfl rfl ?_|refine step_i (by kernel_rfl) ?_|refine And.intro (by first|decide|omega|(simp only[tl0,dlen,List.length_replicate,List.length_set,List.length_map,List.length_zipWith,List.length_take,List.length_append,List.length_cons,List.length_nil];omega)) ?_|refine g_c (by assumption) ?_);conv=>whnf));(first|exact Recast.refl _|exact Frz.recast (Recast.refl _) rfl|(refine Frz.one rfl rfl ?_;skip)|(refine Frz.tup ?_;skip))
theorem tQ_size (q:Rat):(tQ q).size≤fs q+fs q+4:=by
 have n1:=fsz_num q
 have n2:=fsz_den q
 have hs:=tZ_sizeG q.num
 have hs2:=tN_sizeG q.den
 unfold fs
 unfold tQ
 split
 ·omega
 ·rw[ByteArray.size_append,ByteArray.size_append];have:("/".toUTF8).size=1:=rfl;omega
theorem join_size:∀(l:List (List UInt8)) (B:Nat),(∀x∈l,x.length≤B)→(Lib.join l [32]).length≤l.length*(B+1)
 |[],B,_=>by simp[Lib.join_nil]
 |[x],B,h=>by rw[Lib.join_one];have:=h x (List.mem_cons_self ..);simp;omega
 |x::y::l,B,h=>by
  have ih:=join_size (y::l) B (fun z hz=>h z (List.mem_cons_of_mem _ hz))
  have hx:=h x (List.mem_cons_self ..)
  have e:Lib.join (x::y::l) [32]=x++[32]++Lib.join (y::l) [32]:=by rw[Lib.join_cons,Lib.join_cons];simp[Lib.joinTail]
  rw[e]
  simp only[List.length_append,List.length_cons,List.length_nil]at*
  rw[Nat.succ_mul (l.length+1)]
  omega
theorem tV_join {a:List Rat} {B:Nat} (hl:a.length≤2048) (h:∀i,i<a.length→fs (a.getD i 0)≤B) (hB:B≤1000000000):(Lib.join ((a.map tQ).map (·.data.toList)) [32]).length≤140737488355328:=by
 refine Nat.le_trans (join_size _ (2*B+4) ?_) ?_
 ·intro x hx
  obtain⟨s,hs,rfl⟩:=List.mem_map.1 hx
  obtain⟨q,hq,rfl⟩:=List.mem_map.1 hs
  obtain⟨i,hi,rfl⟩:=mem_getD hq 0
  have h1:=tQ_size (a.getD i 0)
  have h2:=h i hi
  show(tQ (a.getD i 0)).data.toList.length≤_
  have:(tQ (a.getD i 0)).data.toList.length=(tQ (a.getD i 0)).size:=Array.length_toList
  omega
 ·rw[List.length_map,List.length_map]
  have:a.length*(2*B+4+1)≤2048*(2*B+4+1):=Nat.mul_le_mul_right _ hl
  omega
theorem t_VecG (a:List Rat) (B:Nat) (hl:a.length≤2048) (h:∀i,i<a.length→fs (a.getD i 0)≤B) (hB:B≤1000000000):CallOK Tryz.prog 57 [fvec a] [] (.val (.string (tV a))) [] []:=by
 have hJ:=tV_join hl h hB
 have hz:((a.map tQ).map sel).length=a.length:=by simp
 have hget:∀i,i<a.length→((a.map tQ).map sel).getD i .any= .val (.string (tQ (a.getD i 0))):=fun i hi=>by rw[map_get (d:=ByteArray.empty) (by simpa using hi),map_get (d:=0) hi];rfl
 have kj:=t_Join (a.map tQ) (by simp;omega) hJ
 refine callF (Z:=[]) tabOK mixedOK Tryz.func57 rfl (by kernel_rfl) (by first|rfl|(simp[keylessL,keyless,keylessL_map, *];done)) (by first|rfl|(simp[keylessL,keyless,keylessL_map, *];done)) (by kernel_rfl) rfl ?_
 intro w0 ρ0 hE
 conv=>whnf
 (repeat(first|(refine And.intro (by first|decide|omega|(simp only[tl0,dlen,List.length_replicate,List.length_set,List.length_map,List.length_zipWith,List.length_take,List.length_append,List.length_cons,List.length_nil];omega)) ?_;conv=>whnf)|(refine g_o (op_lenM rfl rfl rfl (ev_ok rfl) (tgt rfl) rfl) ?_;conv=>whnf)|(rw[Int.toNat_natCast];conv=>whnf)))
 refine SW_loopS hE (fun k=>k) [0,2,3,9,10,11] [8] (fun m fr hp=>∃i,m=a.length - i∧i≤a.length∧fr=[(0,fvec a),(2,.val (.string ⟨#[]⟩)),(3,.slc 8 1 0 a.length),(9,fvec a),(10,.val (.int .i64 (a.length:Nat))),(11,.val (.int .i64 (i:Nat)))]∧
  hp=[(8,⟨9,true,.seq 1 (((a.map tQ).map sel).take i++List.replicate (a.length - i) (.val (.string .empty)))⟩)]) a.length ?_ ?_ ?_
 ·kernel_rfl
 ·exact⟨0,rfl,Nat.zero_le _,rfl,rfl⟩
 rintro m _ _ ⟨i,rfl,hi,rfl,rfl⟩
 have hlen:=fill_len (d:=SV.val (.string .empty)) hi hz
 by_cases hlt:i<a.length
 ·have t1:=dlt hlt
  have t2:=winc (i:=i) (by omega)
  have k1:=t_FracG (a.getD i 0) (Nat.le_trans (h i hlt) (by omega))
  refine SWx.of hE ?_
  conv=>whnf
  have e3:=fill_get (d:=SV.val (.string .empty)) (e:=SV.any) hlt hz
  (repeat((first|refine step_w1 rfl rfl ?_|refine And.intro (by first|decide|omega|(simp only[tl0,dlen,List.length_replicate,List.length_set,List.length_map,List.length_zipWith,List.length_take,List.length_append,List.length_cons,List.length_nil];omega)) ?_|refine g_c (by assumption) ?_|refine g_o (op_indexN (α:=Rat) (d:=0) rfl (ev_ok rfl) (ev_ok rfl) (tgt rfl) rfl (tgt rfl) rfl (by omega)) ?_|refine g_o (op_loadA rfl (ev_ok rfl) (tgt rfl) rfl (Nat.succ_ne_zero _) rfl) ?_|rw[t1]|rw[e3]|rw[t2]|rw[Int.toNat_natCast]|rw[Nat.zero_add]);conv=>whnf))
  refine⟨a.length - (i+1),fun k=>k,[0,2,3,9,10,11],[8],by omega,by kernel_rfl,i+1,rfl,hlt,rfl, ?_⟩
  rw[←fill_set (e:=.any) hlt hz,hget i hlt]
  rfl
 ·have t1:=dge hlt
  have hI:i=a.length:=by omega
  subst hI
  rw[fill_all hz]
  refine SWx_freezeM 3 8 (fun _ h=>h) (fun _=>rfl) rfl rfl (by simp) ?_
  refine SWx.of hE ?_
  conv=>whnf
  have h91:(ByteArray.mk #[91]).size=1:=rfl
  have h93:(ByteArray.mk #[93]).size=1:=rfl
  have hjs:(ByteArray.mk (Lib.join ((a.map tQ).map (·.data.toList)) [32]).toArray).size=(Lib.join ((a.map tQ).map (·.data.toList)) [32]).length:=by show(Lib.join ((a.map tQ).map (·.data.toList)) [32]).toArray.size=_;simp
  have o1:(ByteArray.mk #[91]).size+(ByteArray.mk (Lib.join ((a.map tQ).map (·.data.toList)) [32]).toArray).size≤9223372036854775807:=by omega
  have o2:(ByteArray.mk #[91]++ByteArray.mk (Lib.join ((a.map tQ).map (·.data.toList)) [32]).toArray).size+(ByteArray.mk #[93]).size≤9223372036854775807:=by rw[ByteArray.size_append];omega
  (repeat((first|refine step_w2 rfl rfl ?_|refine And.intro (by first|decide|omega|(simp only[tl0,dlen,List.length_replicate,List.length_set,List.length_map,List.length_zipWith,List.length_take,List.length_append,List.length_cons,List.length_nil];omega)) ?_|refine g_c (by assumption) ?_|rw[t1]);conv=>whnf));(first|exact Recast.refl _|exact Frz.recast (Recast.refl _) rfl|(refine Frz.one rfl rfl ?_;skip)|(refine Frz.tup ?_;skip))
end Go.Proofs.YtjofnbpcanhfhabGreatDoor
namespace Go.Proofs.YtjofnbpcanhfhabGreatDoor
open Go.Sx
set_option linter.unusedSimpArgs false
set_option linter.unusedVariables false
set_option maxRecDepth 100000
set_option maxHeartbeats 4000000
theorem op_digit {P:Program} {o:Oper} {fr:List (Nat×SV)} {fk:List (Nat×Blk)} {src dst:TypeId} {x:Operand} {ti td:TI} {kd kd':IntKind} {d:Nat} (ho:o.op= .convert src dst x) (hx:EvOK fr x (.val (.int kd (d:Nat)))) (hd:d<128)
  (ht:TOK P src ti) (hk:ti.kind= .int kd') (htd:TOK P dst td) (hkd:td.kind= .str):OpOK P o fr fk (.val (.string ⟨#[UInt8.ofNat d]⟩)) [] []:=
 ok_pure fun ρ a w hp=>by
  have hv:=of_has_val (hx ρ a hp.hft)
  have hu:=ht.kind;rw[hk]at hu
  have hud:=htd.kind;rw[hkd]at hud
  refine⟨_, ?_,has_val rfl⟩
  have e:Utf8.encode (d:Int)=⟨#[UInt8.ofNat d]⟩:=by
   exact(show ∀d,d<128→Utf8.encode ((d:Nat):Int)=⟨#[UInt8.ofNat d]⟩ by decide+kernel) d hd
  simp only[execOp,ho,hv,convert,Sem.run_bind,run_underlying hu,run_underlying hud,Result.andThen_ok,Conv.intToString,Sem.run_pure,e]
theorem pad_front:∀e n,padF (e+1) (n % 10^(e+1))=UInt8.ofNat (48+n/10^e % 10)::padF e (n % 10^e)
 |0,n=>by simp[padF]
 |e+1,n=>by
  have h1:n % 10^(e+2)/10=n/10 % 10^(e+1):=by rw[Nat.pow_succ 10 (e+1),Nat.mul_comm,Nat.mod_mul_right_div_self]
  have h2:n % 10^(e+1)/10=n/10 % 10^e:=by rw[Nat.pow_succ,Nat.mul_comm,Nat.mod_mul_right_div_self]
  have h3:n % 10^(e+2) % 10=n % 10:=Nat.mod_mod_of_dvd _ (Nat.dvd_trans (by exact⟨1,rfl⟩) (Nat.dvd_trans (show 10 ∣ 10^1 from⟨1,rfl⟩) (Nat.pow_dvd_pow 10 (by omega))))
  have h4:n % 10^(e+1) % 10=n % 10:=Nat.mod_mod_of_dvd _ (Nat.dvd_trans (show 10 ∣ 10^1 from⟨1,rfl⟩) (Nat.pow_dvd_pow 10 (by omega)))
  rw[padF,h1,h3,pad_front e (n/10),padF,h2,h4,Nat.div_div_eq_div_mul,←Nat.pow_succ']
  rfl
theorem pad_full:∀e n,n<10^(e+1)→(e=0∨10^e≤n)→padF (e+1) n=Lib.decDigits n
 |0,n,h,_=>by
  have h:n<10:=by simpa using h
  rw[padF,dec_lt h,show n % 10=n by omega];rfl
 |e+1,n,h,h'=>by
  have h2:10^(e+1)≤n:=h'.resolve_left (by omega)
  have h10:10≤n:=Nat.le_trans (Nat.le_trans (by decide) (Nat.pow_le_pow_right (n:=10) (by decide) (show 1≤e+1 by omega))) h2
  rw[Nat.pow_succ]at h
  rw[padF,dec_big h10,pad_full e (n/10) (by omega) (by
   rw[Nat.pow_succ]at h2
   exact .inr (by omega))]
theorem bytes_cons (c:UInt8) (l:List UInt8):(⟨#[c]⟩:ByteArray)++⟨l.toArray⟩=⟨(c::l).toArray⟩:=by
 apply ByteArray.ext
 rw[ByteArray.data_append]
 apply Array.ext'
 simp
abbrev dS (l:List UInt8):SV:=.val (.string ⟨l.toArray⟩)
theorem padF_len:∀k r,(padF k r).length=k
 |0,_=>rfl
 |k+1,r=>by rw[padF,List.length_append,padF_len k];rfl
theorem r_Text (n:Nat) (hn:(td n).length<268435456):CallOK Tryz.prog 70 [nN n] [] (.val (.string (tN n))) [] []:=by
 rw[tN_eq]
 by_cases h0:n=0
 ·subst h0
  have t1:(((td 0).length:Int)==0)=true:=rfl
  have e:(⟨(Lib.decDigits 0).toArray⟩:ByteArray)=⟨#[48]⟩:=by rw[dec_lt (by decide)];rfl
  rw[e]
  refine callV (Z:=[]) tabOK mixedOK Tryz.func70 rfl (by kernel_rfl) rfl rfl (by kernel_rfl) rfl ?_
  intro W0 w0 ρ0 hE
  conv=>whnf
  (repeat(first|(refine step_w1 rfl rfl ?_;conv=>whnf)|(refine g_o (op_lenM rfl rfl rfl (ev_ok rfl) (tgt rfl) rfl) ?_;conv=>whnf)));(first|exact Recast.refl _|exact Frz.recast (Recast.refl _) rfl|(refine Frz.one rfl rfl ?_;skip)|(refine Frz.tup ?_;skip))
 have hl0:=td_len_zero (n:=n)
 have t1:(((td n).length:Int)==0)=false:=beq_false_of_ne (by omega)
 have htop:=td_ge_pow h0
 have hnlt:=tlt_len n
 have p10:∀i,(10000:Nat)^i=10^(4*i):=fun i=>by rw[Nat.pow_mul]
 refine callV (Z:=[]) tabOK mixedOK Tryz.func70 rfl (by kernel_rfl) rfl rfl (by kernel_rfl) rfl ?_
 intro W0 w0 ρ0 hE
 conv=>whnf
 (repeat(first|(refine step_w2 rfl rfl ?_;conv=>whnf)|(refine g_o (op_lenM rfl rfl rfl (ev_ok rfl) (tgt rfl) rfl) ?_;conv=>whnf)|(rw[t1];conv=>whnf)))
 refine SW_loopN hE (fun k=>k) [0,3,4] [] (fun q fr hp=>∃(i:Nat) (l:List UInt8),q=(td n).length - i∧i≤(td n).length∧l.length≤4*i∧(i<(td n).length→l=padF (4*i) (n % 10^(4*i)))∧(i=(td n).length→l=Lib.decDigits n)∧
  fr=[(0,nN n),(3,dS l),(4,.val (.int .i64 (i:Nat)))]∧hp=[]) (td n).length ?_ ?_ ?_
 ·kernel_rfl
 ·exact⟨0,[],rfl,Nat.zero_le _,by simp,(fun _=>rfl),(fun h=>by omega),rfl,rfl⟩
 rintro q _ _ ⟨i,l,rfl,hi,hll,hl1,hl2,rfl,rfl⟩
 conv=>whnf
 by_cases hlt:i<(td n).length
 ·have t2:decide ((i:Int)<((td n).length:Int))=true:=decide_eq_true (by omega)
  have e1:=winc (i:=i) (by omega)
  obtain rfl:=hl1 hlt
  clear hl1 hl2 hll
  have hg:=td_get n i
  have hd:n/10000^i % 10000=n/10^(4*i) % 10^4:=by rw[p10]
  have hlast:i+1=(td n).length→n/10^(4*i)<10^4∧0<n/10^(4*i):=fun h=>by
   rw[←p10]
   constructor
   ·rw[Nat.div_lt_iff_lt_mul (Nat.pow_pos (by decide)),show(10:Nat)^4=10000^1 from rfl,←Nat.pow_add,Nat.add_comm,h];exact hnlt
   ·exact Nat.div_pos (by rw[←h,Nat.add_sub_cancel]at htop;exact htop) (Nat.pow_pos (by decide))
  (repeat((first|refine step_w1 rfl rfl ?_|refine g_o (op_lenM rfl rfl rfl (ev_ok rfl) (tgt rfl) rfl) ?_|refine g_o (op_loadA rfl (ev_ok rfl) (tgt rfl) rfl (Nat.succ_ne_zero _) rfl) ?_|refine g_o (op_indexN (α:=Int) (d:=0) rfl (ev_ok rfl) (ev_ok rfl) (tgt rfl) rfl (tgt rfl) rfl (by omega)) ?_|rw[t2]|rw[hg]);conv=>whnf))
  refine SW_loopN hE (fun k=>k) [0,3,4,5,6] [] (fun q fr hp=>∃k:Nat,q=4 - k∧k≤4∧(i+1=(td n).length→k=0∨0<n/10^(4*i+(k - 1)))∧
   fr=[(0,nN n),(3,dS (padF (4*i+k) (n % 10^(4*i+k)))),(4,.val (.int .i64 (i:Nat))),(5,.val (.int .i64 ((n/10^(4*i) % 10^4/10^k:Nat):Int))),(6,.val (.int .i64 (k:Nat)))]∧hp=[]) 4 ?_ ?_ ?_
  ·kernel_rfl
  ·exact⟨0,rfl,Nat.zero_le _,(fun _=>.inl rfl),by rw[Nat.add_zero,Nat.pow_zero,Nat.div_one,←hd];rfl,rfl⟩
  rintro q _ _ ⟨k,rfl,hk,hkl,rfl,rfl⟩
  have hlen:=padF_len (4*i+k) (n % 10^(4*i+k))
  have hdv:n/10^(4*i) % 10^4/10^k<10000:=Nat.lt_of_le_of_lt (Nat.div_le_self _ _) (Nat.mod_lt _ (by decide))
  have hnext:n/10^(4*i) % 10^4/10^k/10=n/10^(4*i) % 10^4/10^(k+1):=by rw[Nat.div_div_eq_div_mul,←Nat.pow_succ]
  have hdig:k<4→n/10^(4*i) % 10^4/10^k % 10=n/10^(4*i+k) % 10:=fun h=>by
   have e4:(10:Nat)^4=10^k*10^(4 - k):=by rw[←Nat.pow_add];congr 1;omega
   rw[e4,Nat.mod_mul_right_div_self,Nat.div_div_eq_div_mul,←Nat.pow_add]
   refine Nat.mod_mod_of_dvd _ ?_
   exact Nat.dvd_trans (show 10 ∣ 10^1 from⟨1,rfl⟩) (Nat.pow_dvd_pow 10 (by omega))
  have hlz:i+1=(td n).length→n/10^(4*i) % 10^4/10^k=n/10^(4*i+k):=fun h=>by
   rw[Nat.mod_eq_of_lt (hlast h).1,Nat.div_div_eq_div_mul,←Nat.pow_add]
  have hfront:=pad_front (4*i+k) n
  conv=>whnf
  generalize hD:n/10^(4*i) % 10^4/10^k=D at*
  by_cases hk4:k<4
  ·have t3:decide ((k:Int)<4)=true:=decide_eq_true (by omega)
   have e2:=winc (i:=k) (by omega)
   have hgoes:(i+1<(td n).length∨0<D)→True:=fun _=>trivial
   have e3:(D:Int).tmod 10=((D % 10:Nat):Int):=by rw[Int.tmod_eq_emod_of_nonneg (by omega)];rfl
   have e4:IntKind.i64.wrap (48+((D % 10:Nat):Int))=((48+D % 10:Nat):Int):=by rw[wrap_i64 (by omega) (by omega)];omega
   have e5:IntKind.u8.wrap ((48+D % 10:Nat):Int)=((48+D % 10:Nat):Int):=by rw[IntKind.wrap_u8];omega
   have e6:IntKind.i64.wrap ((D:Int).tdiv 10)=((D/10:Nat):Int):=by rw[Int.tdiv_eq_ediv_of_nonneg (by omega)];exact wrap_i64 (by omega) (by omega)
   have e7:(D:Int).tdiv 10=((D/10:Nat):Int):=by rw[Int.tdiv_eq_ediv_of_nonneg (by omega)];rfl
   have hob:(⟨#[UInt8.ofNat (48+D % 10)]⟩:ByteArray).size+(⟨(padF (4*i+k) (n % 10^(4*i+k))).toArray⟩:ByteArray).size≤9223372036854775807:=by
    have h1:(⟨(padF (4*i+k) (n % 10^(4*i+k))).toArray⟩:ByteArray).size=4*i+k:=by show(padF _ _).toArray.size=_;rw[List.size_toArray,hlen]
    have h2:(⟨#[UInt8.ofNat (48+D % 10)]⟩:ByteArray).size=1:=rfl
    omega
   have hbc:=bytes_cons (UInt8.ofNat (48+D % 10)) (padF (4*i+k) (n % 10^(4*i+k)))
   rw[hdig hk4]at hbc
   rw[←hfront]at hbc
   rw[←hdig hk4]at hbc
   by_cases hm:i+1<(td n).length
   ·have t4:decide (((i+1:Nat):Int)<((td n).length:Int))=true:=decide_eq_true (by omega)
    (repeat((first|refine step_w1 rfl rfl ?_|refine step_w2 rfl rfl ?_|refine step_oM (by first|omega|decide|(simp only[tl0,dlen,List.length_replicate,List.length_set,List.length_map,List.length_zipWith,List.length_take,List.length_append,List.length_cons,List.length_nil];omega)) ?_|refine step_oN (by first|omega|decide|(simp only[tl0,dlen,List.length_replicate,List.length_set,List.length_map,List.length_zipWith,List.length_take,List.length_append,List.length_cons,List.length_nil];omega)) ?_|refine g_o (op_pickT rfl (ev_ok rfl) (ev_ok rfl)) ?_|refine g_o (op_lenM rfl rfl rfl (ev_ok rfl) (tgt rfl) rfl) ?_|refine⟨_,[],[],op_digit rfl (ev_ok rfl) (by omega) (tabOK.get (t:=5) rfl) rfl (tabOK.get (t:=9) rfl) rfl,nil_fk,nil_new, ?_⟩|rw[t3]|rw[e1]|rw[t4]|rw[e3]|rw[e4]|rw[e5]|rw[e6]|rw[hbc]|rw[e2]);conv=>whnf))
    exact⟨4 - (k+1),fun k=>k,[0,3,4,5,6],[],by omega,by kernel_rfl,k+1,rfl,by omega,(fun h=>by omega),by rw[←hnext];rfl,rfl⟩
   ·have t4:decide (((i+1:Nat):Int)<((td n).length:Int))=false:=decide_eq_false (by omega)
    by_cases hd0:0<D
    ·have t5:decide ((D:Int)>0)=true:=decide_eq_true (by omega)
     have hpos:0<n/10^(4*i+(k+1 - 1)):=by rw[Nat.add_sub_cancel,←hlz (by omega)];exact hd0
     (repeat((first|refine step_w1 rfl rfl ?_|refine step_oM (by first|omega|decide|(simp only[tl0,dlen,List.length_replicate,List.length_set,List.length_map,List.length_zipWith,List.length_take,List.length_append,List.length_cons,List.length_nil];omega)) ?_|refine step_oN (by first|omega|decide|(simp only[tl0,dlen,List.length_replicate,List.length_set,List.length_map,List.length_zipWith,List.length_take,List.length_append,List.length_cons,List.length_nil];omega)) ?_|refine g_o (op_pickT rfl (ev_ok rfl) (ev_ok rfl)) ?_|refine g_o (op_pickF rfl (ev_ok rfl) (ev_ok rfl)) ?_|refine g_o (op_lenM rfl rfl rfl (ev_ok rfl) (tgt rfl) rfl) ?_|refine⟨_,[],[],op_digit rfl (ev_ok rfl) (by omega) (tabOK.get (t:=5) rfl) rfl (tabOK.get (t:=9) rfl) rfl,nil_fk,nil_new, ?_⟩|rw[t3]|rw[e1]|rw[t4]|rw[t5]|rw[e3]|rw[e4]|rw[e5]|rw[e6]|rw[hbc]|rw[e2]);conv=>whnf))
     exact⟨4 - (k+1),fun k=>k,[0,3,4,5,6],[],by omega,by kernel_rfl,k+1,rfl,by omega,(fun _=>.inr hpos),by rw[←hnext];rfl,rfl⟩
    ·have t5:decide ((D:Int)>0)=false:=decide_eq_false (by omega)
     have hz:=hlz (by omega)
     have hfull:padF (4*i+k) (n % 10^(4*i+k))=Lib.decDigits n:=by
      have hlt10:n<10^(4*i+k):=by
       rcases Nat.lt_or_ge n (10^(4*i+k))with g|g
       ·exact g
       ·have:=Nat.div_pos g (Nat.pow_pos (n:=4*i+k) (by decide));omega
      rcases hkl (by omega)with g|g
      ·subst g
       have:=(hlast (by omega)).2
       rw[Nat.add_zero]at hz;omega
      ·obtain⟨k,rfl⟩:∃j,k=j+1:=by
        rcases Nat.eq_zero_or_pos k with g2|g2
        ·subst g2;have:=(hlast (by omega)).2;rw[Nat.add_zero]at hz;omega
        ·exact⟨k - 1,by omega⟩
       rw[Nat.mod_eq_of_lt hlt10]
       refine pad_full (4*i+k) n hlt10 (.inr ?_)
       rcases Nat.lt_or_ge n (10^(4*i+k))with g3|g3
       ·rw[Nat.add_sub_cancel,Nat.div_eq_of_lt g3]at g;omega
       ·exact g3
     (repeat((first|refine step_w1 rfl rfl ?_|refine step_w2 rfl rfl ?_|refine g_o (op_pickT rfl (ev_ok rfl) (ev_ok rfl)) ?_|refine g_o (op_pickF rfl (ev_ok rfl) (ev_ok rfl)) ?_|refine g_o (op_lenM rfl rfl rfl (ev_ok rfl) (tgt rfl) rfl) ?_|rw[t3]|rw[e1]|rw[t4]|rw[t5]);conv=>whnf))
     exact⟨(td n).length - (i+1),fun k=>k,[0,3,4],[],by omega,by kernel_rfl,i+1,_,rfl,by omega,by rw[padF_len];omega,(fun h=>by omega),(fun _=>hfull),rfl,rfl⟩
  ·obtain rfl:k=4:=by omega
   have t3:decide (((4:Nat):Int)<4)=false:=rfl
   have hfull:i+1=(td n).length→padF (4*i+4) (n % 10^(4*i+4))=Lib.decDigits n:=fun h=>by
    have h1:=(hlast h).1
    rw[Nat.div_lt_iff_lt_mul (Nat.pow_pos (by decide)),←Nat.pow_add,Nat.add_comm]at h1
    have g:=(hkl h).resolve_left (by decide)
    rw[Nat.mod_eq_of_lt h1]
    refine pad_full (4*i+3) n h1 (.inr ?_)
    rcases Nat.lt_or_ge n (10^(4*i+3))with g3|g3
    ·rw[show 4 - 1=3 from rfl,Nat.div_eq_of_lt g3]at g;omega
    ·exact g3
   (repeat((first|refine step_w2 rfl rfl ?_|refine g_o (op_pickF rfl (ev_ok rfl) (ev_ok rfl)) ?_|rw[t3]|rw[e1]);conv=>whnf))
   exact⟨(td n).length - (i+1),fun k=>k,[0,3,4],[],by omega,by kernel_rfl,i+1,_,rfl,by omega,by rw[padF_len];omega,(fun h=>rfl),hfull,rfl,rfl⟩
 ·obtain rfl:i=(td n).length:=by omega
  have t2:decide (((td n).length:Int)<((td n).length:Int))=false:=decide_eq_false (by omega)
  obtain rfl:=hl2 rfl
  (repeat(first|(refine step_w2 rfl rfl ?_;conv=>whnf)|(refine g_o (op_lenM rfl rfl rfl (ev_ok rfl) (tgt rfl) rfl) ?_;conv=>whnf)|(rw[t2];conv=>whnf)));(first|exact Recast.refl _|exact Frz.recast (Recast.refl _) rfl|(refine Frz.one rfl rfl ?_;skip)|(refine Frz.tup ?_;skip))
end Go.Proofs.YtjofnbpcanhfhabGreatDoor
namespace Go.Proofs.YtjofnbpcanhfhabGreatDoor
open Go.Sx
set_option linter.unusedSimpArgs false
set_option linter.unusedVariables false
set_option maxRecDepth 100000
set_option maxHeartbeats 4000000
theorem r2_Text (z:Int) (hz:sz z.natAbs≤100000000):CallOK Tryz.prog 69 [zZ z] [] (.val (.string (tZ z))) [] []:=by
 have k1:=r_Text z.natAbs (Nat.lt_of_le_of_lt (tl_sz hz) (by decide))
 have hs:=tN_sizeG z.natAbs
 have h1:(ByteArray.mk #[45]).size=1:=rfl
 have h2:(ByteArray.mk #[45]).size+(tN z.natAbs).size≤9223372036854775807:=by omega
 unfold tZ
 refine callV (Z:=[1]) tabOK mixedOK Tryz.func69 rfl (by kernel_rfl) rfl rfl (by kernel_rfl) rfl ?_
 intro W0 w0 ρ0 hE
 conv=>whnf
 by_cases hn:z<0
 ·have t1:decide (z<0)=true:=decide_eq_true hn
  rw[if_pos hn]
  (repeat((first|refine step_w1 rfl rfl ?_|refine step_oM (by first|omega|decide|(simp only[tl0,dlen,List.length_replicate,List.length_set,List.length_map,List.length_zipWith,List.length_take,List.length_append,List.length_cons,List.length_nil];omega)) ?_|refine g_c (by assumption) ?_|refine g_o (op_loadA rfl (ev_ok rfl) (tgt rfl) rfl (Nat.succ_ne_zero _) rfl) ?_|refine g_o (op_fieldA rfl (ev_ok rfl) (tgt rfl) rfl rfl (Nat.succ_ne_zero _) rfl) ?_|rw[t1]);conv=>whnf));(first|exact Recast.refl _|exact Frz.recast (Recast.refl _) rfl|(refine Frz.one rfl rfl ?_;skip)|(refine Frz.tup ?_;skip))
 ·have t1:decide (z<0)=false:=decide_eq_false hn
  rw[if_neg hn]
  (repeat((first|refine step_w2 rfl rfl ?_|refine g_c (by assumption) ?_|refine g_o (op_loadA rfl (ev_ok rfl) (tgt rfl) rfl (Nat.succ_ne_zero _) rfl) ?_|refine g_o (op_fieldA rfl (ev_ok rfl) (tgt rfl) rfl rfl (Nat.succ_ne_zero _) rfl) ?_|rw[t1]);conv=>whnf));(first|exact Recast.refl _|exact Frz.recast (Recast.refl _) rfl|(refine Frz.one rfl rfl ?_;skip)|(refine Frz.tup ?_;skip))
theorem r3_Text (q:Rat) (h:fs q≤100000000):CallOK Tryz.prog 33 [fF q] [] (.val (.string (tQ q))) [] []:=by
 have n1:=fsz_num q
 have n2:=fsz_den q
 unfold fs at h
 have k1:=r2_Text q.num (by omega)
 have hdl:(td q.den).length≤100000000:=tl_sz (by omega)
 have k2:=r3_Den q (by omega)
 have k3:=r_Text q.den (by omega)
 have hs:=tZ_sizeG q.num
 have hs2:=tN_sizeG q.den
 have h1:(ByteArray.mk #[47]).size=1:=rfl
 have h2:(tZ q.num).size+(ByteArray.mk #[47]).size≤9223372036854775807:=by omega
 have h3:(tZ q.num++(ByteArray.mk #[47])).size+(tN q.den).size≤9223372036854775807:=by rw[ByteArray.size_append];omega
 have hz:=td_len_zero (n:=q.den - 1)
 have hp:=q.den_pos
 unfold tQ
 refine callV (Z:=[1]) tabOK mixedOK Tryz.func33 rfl (by kernel_rfl) rfl rfl (by kernel_rfl) rfl ?_
 intro W0 w0 ρ0 hE
 conv=>whnf
 by_cases hd:q.den=1
 ·have t1:(((td (q.den - 1)).length:Int)==0)=true:=beq_iff_eq.2 (by omega)
  rw[if_pos hd]
  (repeat((first|refine step_w1 rfl rfl ?_|refine g_c (by assumption) ?_|refine g_o (op_lenM rfl rfl rfl (ev_ok rfl) (tgt rfl) rfl) ?_|refine g_o (op_loadA rfl (ev_ok rfl) (tgt rfl) rfl (Nat.succ_ne_zero _) rfl) ?_|refine g_o (op_fieldA rfl (ev_ok rfl) (tgt rfl) rfl rfl (Nat.succ_ne_zero _) rfl) ?_|rw[t1]);conv=>whnf));(first|exact Recast.refl _|exact Frz.recast (Recast.refl _) rfl|(refine Frz.one rfl rfl ?_;skip)|(refine Frz.tup ?_;skip))
 ·have t1:(((td (q.den - 1)).length:Int)==0)=false:=beq_false_of_ne (by omega)
  rw[if_neg hd]
  (repeat((first|refine step_w2 rfl rfl ?_|refine step_i (by kernel_rfl) ?_|refine step_oM (by first|omega|decide|(simp only[tl0,dlen,List.length_replicate,List.length_set,List.length_map,List.length_zipWith,List.length_take,List.length_append,List.length_cons,List.length_nil];omega)) ?_|refine g_c (by assumption) ?_|refine g_o (op_lenM rfl rfl rfl (ev_ok rfl) (tgt rfl) rfl) ?_|refine g_o (op_loadA rfl (ev_ok rfl) (tgt rfl) rfl (Nat.succ_ne_zero _) rfl) ?_|refine g_o (op_fieldA rfl (ev_ok rfl) (tgt rfl) rfl rfl (Nat.succ_ne_zero _) rfl) ?_|rw[t1]);conv=>whnf));(first|exact Recast.refl _|exact Frz.recast (Recast.refl _) rfl|(refine Frz.one rfl rfl ?_;skip)|(refine Frz.tup ?_;skip))
abbrev fFs (a:List Rat):SV:=mvec 3 fF a
abbrev fFblk (a:List Rat):Blk:=⟨65,true,.seq 3 (a.map fF)⟩
theorem take_map_snoc {z:List Rat} {i:Nat} (hi:i<z.length):fFblk (z.take (i+1))=⟨65,true,.seq 3 (List.take i ((z.take i).map fF)++List.take 1 (List.drop 0 [fF (z.getD i 0)]))⟩:=by
 have hl:((z.take i).map fF).length=i:=by rw[List.length_map,List.length_take];omega
 rw[fFblk,take_snoc z i hi,List.map_append,List.take_of_length_le (l:=(z.take i).map fF) (by omega)];rfl
theorem r12_Add (a b:List Rat) (hab:a.length=b.length) (hl:a.length≤2048) (h:∀i,i<a.length→fs (a.getD i 0)+fs (b.getD i 0)≤100000000):CallOK Tryz.prog 28 [fFs a,fFs b] [] (fFs (vadd a b)) [] []:=by
 have hz:(vadd a b).length=a.length:=zip_len rfl hab.symm
 refine callF (Z:=[]) tabOK mixedOK Tryz.func28 rfl (by kernel_rfl) (by first|rfl|(simp[keylessL,keyless,keylessL_map, *];done)) (by first|rfl|(simp[keylessL,keyless,keylessL_map, *];done)) (by kernel_rfl) rfl ?_
 intro w0 ρ0 hE
 conv=>whnf
 skip
 refine SWx_adopt (t:=5) (k:=2001) (s:=3) (blk:=fFblk []) rfl rfl rfl ?_
 refine SW_loopS hE (fun k=>k) [0,1,5,6] [2001] (fun m fr hp=>∃i:Nat,m=a.length - i∧i≤a.length∧fr=[(0,fFs a),(1,fFs b),(5,.slc 2001 3 0 i),(6,.val (.int .i64 (i:Nat)))]∧hp=[(2001,fFblk ((vadd a b).take i))]) a.length ?_ ?_ ?_
 ·kernel_rfl
 ·exact⟨0,rfl,Nat.zero_le _,rfl,rfl⟩
 rintro m _ _ ⟨i,rfl,hi,rfl,rfl⟩
 have hlt0:((((vadd a b).take i)).map fF).length=i:=by rw[List.length_map,List.length_take];omega
 by_cases hlt:i<a.length
 ·have t1:=dlt hlt
  have t2:=winc (i:=i) (by omega)
  have k1:=r3_Add (a.getD i 0) (b.getD i 0) (h i hlt)
  rw[←zip_get (f:=(·+·)) (d3:=0) hlt (by omega)]at k1
  have hib:i<b.length:=by omega
  refine SWx.of hE ?_
  conv=>whnf
  (repeat((first|refine step_w1 rfl rfl ?_|refine step_i (by kernel_rfl) ?_|refine step_oA (by first|omega|decide|(simp only[tl0,dlen,List.length_replicate,List.length_set,List.length_map,List.length_zipWith,List.length_take,List.length_append,List.length_cons,List.length_nil];omega)) ?_|refine g_c (by assumption) ?_|refine g_o (op_lenM rfl rfl rfl (ev_ok rfl) (tgt rfl) rfl) ?_|refine g_o (op_indexN (α:=Rat) (d:=0) rfl (ev_ok rfl) (ev_ok rfl) (tgt rfl) rfl (tgt rfl) rfl (by omega)) ?_|refine g_o (op_loadA rfl (ev_ok rfl) (tgt rfl) rfl (Nat.succ_ne_zero _) rfl) ?_|rw[t1]|rw[t2]);conv=>whnf))
  refine⟨a.length - (i+1),renBy [(24,2001)],[0,1,5,6],[24],by omega,by kernel_rfl,i+1,rfl,hlt,rfl, ?_⟩
  rw[take_map_snoc (by rw[hz];exact hlt)]
  rfl
 ·have t1:=dge hlt
  have hI:i=a.length:=by omega
  subst hI
  have hall:(vadd a b).take a.length=vadd a b:=List.take_of_length_le (by omega)
  rw[hall]
  refine SWx_freezeM 5 2001 (fun _ h=>h) (fun _=>rfl) rfl rfl hz.symm ?_
  refine SWx.of hE ?_
  conv=>whnf
  (repeat(first|(refine step_w2 rfl rfl ?_;conv=>whnf)|(refine g_o (op_lenM rfl rfl rfl (ev_ok rfl) (tgt rfl) rfl) ?_;conv=>whnf)|(rw[t1];conv=>whnf)));(first|exact Recast.refl _|exact Frz.recast (Recast.refl _) rfl|(refine Frz.one rfl rfl ?_;skip)|(refine Frz.tup ?_;skip))
theorem r12_Sub (a b:List Rat) (hab:a.length=b.length) (hl:a.length≤2048) (h:∀i,i<a.length→fs (a.getD i 0)+fs (b.getD i 0)≤100000000):CallOK Tryz.prog 29 [fFs a,fFs b] [] (fFs (vsub a b)) [] []:=by
 have hz:(vsub a b).length=a.length:=zip_len rfl hab.symm
 refine callF (Z:=[]) tabOK mixedOK Tryz.func29 rfl (by kernel_rfl) (by first|rfl|(simp[keylessL,keyless,keylessL_map, *];done)) (by first|rfl|(simp[keylessL,keyless,keylessL_map, *];done)) (by kernel_rfl) rfl ?_
 intro w0 ρ0 hE
 conv=>whnf
 skip
 refine SWx_adopt (t:=5) (k:=2001) (s:=3) (blk:=fFblk []) rfl rfl rfl ?_
 refine SW_loopS hE (fun k=>k) [0,1,5,6] [2001] (fun m fr hp=>∃i:Nat,m=a.length - i∧i≤a.length∧fr=[(0,fFs a),(1,fFs b),(5,.slc 2001 3 0 i),(6,.val (.int .i64 (i:Nat)))]∧hp=[(2001,fFblk ((vsub a b).take i))]) a.length ?_ ?_ ?_
 ·kernel_rfl
 ·exact⟨0,rfl,Nat.zero_le _,rfl,rfl⟩
 rintro m _ _ ⟨i,rfl,hi,rfl,rfl⟩
 have hlt0:((((vsub a b).take i)).map fF).length=i:=by rw[List.length_map,List.length_take];omega
 by_cases hlt:i<a.length
 ·have t1:=dlt hlt
  have t2:=winc (i:=i) (by omega)
  have k1:=r3_Sub (a.getD i 0) (b.getD i 0) (h i hlt)
  rw[←zip_get (f:=(· - ·)) (d3:=0) hlt (by omega)]at k1
  have hib:i<b.length:=by omega
  refine SWx.of hE ?_
  conv=>whnf
  (repeat((first|refine step_w1 rfl rfl ?_|refine step_i (by kernel_rfl) ?_|refine step_oA (by first|omega|decide|(simp only[tl0,dlen,List.length_replicate,List.length_set,List.length_map,List.length_zipWith,List.length_take,List.length_append,List.length_cons,List.length_nil];omega)) ?_|refine g_c (by assumption) ?_|refine g_o (op_lenM rfl rfl rfl (ev_ok rfl) (tgt rfl) rfl) ?_|refine g_o (op_indexN (α:=Rat) (d:=0) rfl (ev_ok rfl) (ev_ok rfl) (tgt rfl) rfl (tgt rfl) rfl (by omega)) ?_|refine g_o (op_loadA rfl (ev_ok rfl) (tgt rfl) rfl (Nat.succ_ne_zero _) rfl) ?_|rw[t1]|rw[t2]);conv=>whnf))
  refine⟨a.length - (i+1),renBy [(24,2001)],[0,1,5,6],[24],by omega,by kernel_rfl,i+1,rfl,hlt,rfl, ?_⟩
  rw[take_map_snoc (by rw[hz];exact hlt)]
  rfl
 ·have t1:=dge hlt
  have hI:i=a.length:=by omega
  subst hI
  have hall:(vsub a b).take a.length=vsub a b:=List.take_of_length_le (by omega)
  rw[hall]
  refine SWx_freezeM 5 2001 (fun _ h=>h) (fun _=>rfl) rfl rfl hz.symm ?_
  refine SWx.of hE ?_
  conv=>whnf
  (repeat(first|(refine step_w2 rfl rfl ?_;conv=>whnf)|(refine g_o (op_lenM rfl rfl rfl (ev_ok rfl) (tgt rfl) rfl) ?_;conv=>whnf)|(rw[t1];conv=>whnf)));(first|exact Recast.refl _|exact Frz.recast (Recast.refl _) rfl|(refine Frz.one rfl rfl ?_;skip)|(refine Frz.tup ?_;skip))
end Go.Proofs.YtjofnbpcanhfhabGreatDoor
namespace Go.Proofs.YtjofnbpcanhfhabGreatDoor
open Go.Sx
set_option linter.unusedSimpArgs false
set_option linter.unusedVariables false
set_option maxRecDepth 100000
set_option maxHeartbeats 4000000
theorem r12_Scale (c:Rat) (a:List Rat) (hl:a.length≤2048) (h:∀i,i<a.length→fs c+fs (a.getD i 0)≤100000000):CallOK Tryz.prog 30 [fF c,fFs a] [] (fFs (vscale c a)) [] []:=by
 have hz:(vscale c a).length=a.length:=zip_len rfl rfl
 refine callF (Z:=[2]) tabOK mixedOK Tryz.func30 rfl (by kernel_rfl) (by first|rfl|(simp[keylessL,keyless,keylessL_map, *];done)) (by first|rfl|(simp[keylessL,keyless,keylessL_map, *];done)) (by kernel_rfl) rfl ?_
 intro w0 ρ0 hE
 conv=>whnf
 skip
 refine SWx_adopt (t:=5) (k:=2001) (s:=3) (blk:=fFblk []) rfl rfl rfl ?_
 refine SW_loopS hE (fun k=>k) [1,2,5,6] [2001] (fun m fr hp=>∃i:Nat,m=a.length - i∧i≤a.length∧fr=[(1,fFs a),(2,ptrA [zZ c.num,nN (c.den - 1)]),(5,.slc 2001 3 0 i),(6,.val (.int .i64 (i:Nat)))]∧hp=[(2001,fFblk ((vscale c a).take i))]) a.length ?_ ?_ ?_
 ·kernel_rfl
 ·exact⟨0,rfl,Nat.zero_le _,rfl,rfl⟩
 rintro m _ _ ⟨i,rfl,hi,rfl,rfl⟩
 have hlt0:((((vscale c a).take i)).map fF).length=i:=by rw[List.length_map,List.length_take];omega
 by_cases hlt:i<a.length
 ·have t1:=dlt hlt
  have t2:=winc (i:=i) (by omega)
  have k1:=r3_Mul c (a.getD i 0) (h i hlt)
  rw[←get_scale (c:=c) (a:=a) rfl hlt]at k1
  refine SWx.of hE ?_
  conv=>whnf
  (repeat((first|refine step_w1 rfl rfl ?_|refine step_i (by kernel_rfl) ?_|refine step_oA (by first|omega|decide|(simp only[tl0,dlen,List.length_replicate,List.length_set,List.length_map,List.length_zipWith,List.length_take,List.length_append,List.length_cons,List.length_nil];omega)) ?_|refine g_c (by assumption) ?_|refine g_o (op_lenM rfl rfl rfl (ev_ok rfl) (tgt rfl) rfl) ?_|refine g_o (op_indexN (α:=Rat) (d:=0) rfl (ev_ok rfl) (ev_ok rfl) (tgt rfl) rfl (tgt rfl) rfl (by omega)) ?_|refine g_o (op_loadA rfl (ev_ok rfl) (tgt rfl) rfl (Nat.succ_ne_zero _) rfl) ?_|rw[t1]|rw[t2]);conv=>whnf))
  refine⟨a.length - (i+1),renBy [(21,2001)],[1,2,5,6],[21],by omega,by kernel_rfl,i+1,rfl,hlt,rfl, ?_⟩
  rw[take_map_snoc (by rw[hz];exact hlt)]
  rfl
 ·have t1:=dge hlt
  have hI:i=a.length:=by omega
  subst hI
  have hall:(vscale c a).take a.length=vscale c a:=List.take_of_length_le (by omega)
  rw[hall]
  refine SWx_freezeM 5 2001 (fun _ h=>h) (fun _=>rfl) rfl rfl hz.symm ?_
  refine SWx.of hE ?_
  conv=>whnf
  (repeat(first|(refine step_w2 rfl rfl ?_;conv=>whnf)|(refine g_o (op_lenM rfl rfl rfl (ev_ok rfl) (tgt rfl) rfl) ?_;conv=>whnf)|(rw[t1];conv=>whnf)));(first|exact Recast.refl _|exact Frz.recast (Recast.refl _) rfl|(refine Frz.one rfl rfl ?_;skip)|(refine Frz.tup ?_;skip))
abbrev zblkF:Blk:=⟨65,true,.one [.val (.bool false),.val (.slice none 0 0),.val (.slice none 0 0)]⟩
abbrev oblkF (q:Rat):Blk:=⟨65,true,.one [zZ q.num,nN (q.den - 1)]⟩
theorem r12_Dot (a b:List Rat) (B:Nat) (hab:a.length=b.length) (hl:a.length≤2048) (h:∀i,i<a.length→fs (a.getD i 0)+fs (b.getD i 0)≤B) (hB:B+(2+a.length*B)≤100000000):CallOK Tryz.prog 34 [fFs a,fFs b] [] (fF (vdot a b)) [] []:=by
 have k0:=r3_Int 0 (by decide) (by decide)
 rw[show((0:Int):Rat)=0 from rfl]at k0
 have hz:(vmul a b).length=a.length:=zip_len rfl hab.symm
 refine callV (Z:=[]) tabOK mixedOK Tryz.func34 rfl (by kernel_rfl) rfl rfl (by kernel_rfl) rfl ?_
 intro W0 w0 ρ0 hE
 conv=>whnf
 (repeat(first|(refine g_c (by assumption) ?_;conv=>whnf)))
 refine SW_loopN hE (fun k=>k) [0,1,4,5,6] [4,5] (fun m fr hp=>∃(i:Nat) (s:Rat),m=a.length - i∧i≤a.length∧s=((vmul a b).take i).foldl (·+·) 0∧fs s≤2+i*B∧fr=[(0,fFs a),(1,fFs b),(4,.ptr 4 0 0 0),(5,.ptr 5 0 0 0),(6,.val (.int .i64 (i:Nat)))]∧hp=[(4,zblkF),(5,oblkF s)]) a.length ?_ ?_ ?_
 ·kernel_rfl
 ·exact⟨0,0,rfl,Nat.zero_le _,rfl,by rw[fs_zero];omega,rfl,rfl⟩
 rintro m _ _ ⟨i,s,rfl,hi,hs,hfs,rfl,rfl⟩
 conv=>whnf
 by_cases hlt:i<a.length
 ·have t1:=dlt hlt
  have t2:=winc (i:=i) (by omega)
  have hib:i<b.length:=by omega
  have hBi:=h i hlt
  have him:i*B≤a.length*B:=Nat.mul_le_mul_right _ hi
  have hBB:B≤100000000:=by omega
  have k1:=r3_Mul (a.getD i 0) (b.getD i 0) (by omega)
  have hm:=fs_mul (a.getD i 0) (b.getD i 0)
  have k2:=r3_Add s (a.getD i 0*b.getD i 0) (by omega)
  have hs2:s+a.getD i 0*b.getD i 0=((vmul a b).take (i+1)).foldl (·+·) 0:=by
   rw[foldl_take (vmul a b) i (by omega),zip_get (d1:=0) (d2:=0) hlt hib,hs]
  have hfa:=fs_add s (a.getD i 0*b.getD i 0)
  (repeat((first|refine step_w1 rfl rfl ?_|refine step_i (by kernel_rfl) ?_|refine g_c (by assumption) ?_|refine g_o (op_lenM rfl rfl rfl (ev_ok rfl) (tgt rfl) rfl) ?_|refine g_o (op_indexN (α:=Rat) (d:=0) rfl (ev_ok rfl) (ev_ok rfl) (tgt rfl) rfl (tgt rfl) rfl (by omega)) ?_|refine g_o (op_loadA rfl (ev_ok rfl) (tgt rfl) rfl (Nat.succ_ne_zero _) rfl) ?_|rw[t1]|rw[t2]);conv=>whnf))
  refine⟨a.length - (i+1),fun k=>k,[0,1,4,5,6],[4,5],by omega,by kernel_rfl,i+1,s+a.getD i 0*b.getD i 0,rfl,hlt,hs2, ?_,rfl,rfl⟩
  rw[Nat.succ_mul];omega
 ·have t1:=dge hlt
  have hI:i=a.length:=by omega
  subst hI
  have e:vdot a b=s:=by rw[hs,List.take_of_length_le (by omega)];rfl
  rw[e]
  (repeat(first|(refine step_w2 rfl rfl ?_;conv=>whnf)|(refine g_o (op_lenM rfl rfl rfl (ev_ok rfl) (tgt rfl) rfl) ?_;conv=>whnf)|(rw[t1];conv=>whnf)))
  exact Recast.refl _
theorem r12_Max (l:List Rat) (B:Nat) (hl:l.length≤2048) (hB:2≤B) (hB2:B+B≤100000000) (h:∀i,i<l.length→fs (l.getD i 0)≤B):CallOK Tryz.prog 35 [fFs l] [] (fF (vmax l)) [] []:=by
 have k0:=r3_Int 0 (by decide) (by decide)
 rw[show((0:Int):Rat)=0 from rfl]at k0
 refine callV (Z:=[]) tabOK mixedOK Tryz.func35 rfl (by kernel_rfl) rfl rfl (by kernel_rfl) rfl ?_
 intro W0 w0 ρ0 hE
 conv=>whnf
 (repeat(first|(refine g_c (by assumption) ?_;conv=>whnf)))
 refine SW_loopN hE (fun k=>k) [0,2,3,4] [2,3] (fun m fr hp=>∃(i:Nat) (q:Rat),m=l.length - i∧i≤l.length∧vmaxF (l.drop i) q=vmax l∧fs q≤B∧fr=[(0,fFs l),(2,.ptr 2 0 0 0),(3,.ptr 3 0 0 0),(4,.val (.int .i64 (i:Nat)))]∧hp=[(2,zblkF),(3,oblkF q)]) l.length ?_ ?_ ?_
 ·kernel_rfl
 ·exact⟨0,0,rfl,Nat.zero_le _,rfl,by rw[fs_zero];exact hB,rfl,rfl⟩
 rintro m _ _ ⟨i,q,rfl,hi,hv,hq,rfl,rfl⟩
 conv=>whnf
 by_cases hlt:i<l.length
 ·have t1:=dlt hlt
  have t2:=winc (i:=i) (by omega)
  have hx:=h i hlt
  have hd:l.drop i=l.getD i 0::l.drop (i+1):=by rw[List.drop_eq_getElem_cons hlt,List.getD_eq_getElem?_getD,List.getElem?_eq_getElem hlt];rfl
  rw[hd,vmaxF]at hv
  generalize hxe:l.getD i 0=x at*
  obtain⟨b1,b2⟩:=tl_fs (q:=x) (Nat.le_refl _)
  have k1:=r3_Sign x (by omega)
  have k2:=r3_Neg x (by omega)
  have hfx:fs (rabs x)≤B:=by rw[fs_abs];exact hx
  have k3:=r3_Cmp (rabs x) q (by omega)
  by_cases hneg:x.num<0
  ·have t3:decide (x.num.sign<0)=true:=decide_eq_true (Int.sign_neg_iff.2 hneg)
   have er:rabs x= -x:=if_pos hneg
   rw[←er]at k2
   by_cases hc:0<(rabs x - q).num.sign
   ·have t4:decide ((rabs x - q).num.sign>0)=true:=decide_eq_true hc
    rw[if_pos hc]at hv
    (repeat((first|refine step_w1 rfl rfl ?_|refine g_c (by assumption) ?_|refine g_o (op_lenM rfl rfl rfl (ev_ok rfl) (tgt rfl) rfl) ?_|refine g_o (op_indexN (α:=Rat) (d:=0) rfl (ev_ok rfl) (ev_ok rfl) (tgt rfl) rfl (tgt rfl) rfl (by omega)) ?_|refine g_o (op_loadA rfl (ev_ok rfl) (tgt rfl) rfl (Nat.succ_ne_zero _) rfl) ?_|rw[hxe]|rw[t1]|rw[t3]|rw[t4]|rw[t2]);conv=>whnf))
    exact⟨l.length - (i+1),fun k=>k,[0,2,3,4],[2,3],by omega,by kernel_rfl,i+1,rabs x,rfl,hlt,hv,hfx,rfl,rfl⟩
   ·have t4:decide ((rabs x - q).num.sign>0)=false:=decide_eq_false hc
    rw[if_neg hc]at hv
    (repeat((first|refine step_w1 rfl rfl ?_|refine step_w2 rfl rfl ?_|refine g_c (by assumption) ?_|refine g_o (op_lenM rfl rfl rfl (ev_ok rfl) (tgt rfl) rfl) ?_|refine g_o (op_indexN (α:=Rat) (d:=0) rfl (ev_ok rfl) (ev_ok rfl) (tgt rfl) rfl (tgt rfl) rfl (by omega)) ?_|refine g_o (op_loadA rfl (ev_ok rfl) (tgt rfl) rfl (Nat.succ_ne_zero _) rfl) ?_|rw[hxe]|rw[t1]|rw[t3]|rw[t4]|rw[t2]);conv=>whnf))
    exact⟨l.length - (i+1),fun k=>k,[0,2,3,4],[2,3],by omega,by kernel_rfl,i+1,q,rfl,hlt,hv,hq,rfl,rfl⟩
  ·have t3:decide (x.num.sign<0)=false:=decide_eq_false (fun h=>hneg (Int.sign_neg_iff.1 h))
   have er:rabs x=x:=if_neg hneg
   rw[er]at k3 hv hfx
   by_cases hc:0<(x - q).num.sign
   ·have t4:decide ((x - q).num.sign>0)=true:=decide_eq_true hc
    rw[if_pos hc]at hv
    (repeat((first|refine step_w1 rfl rfl ?_|refine step_w2 rfl rfl ?_|refine g_c (by assumption) ?_|refine g_o (op_lenM rfl rfl rfl (ev_ok rfl) (tgt rfl) rfl) ?_|refine g_o (op_indexN (α:=Rat) (d:=0) rfl (ev_ok rfl) (ev_ok rfl) (tgt rfl) rfl (tgt rfl) rfl (by omega)) ?_|refine g_o (op_loadA rfl (ev_ok rfl) (tgt rfl) rfl (Nat.succ_ne_zero _) rfl) ?_|rw[hxe]|rw[t1]|rw[t3]|rw[t4]|rw[t2]);conv=>whnf))
    exact⟨l.length - (i+1),fun k=>k,[0,2,3,4],[2,3],by omega,by kernel_rfl,i+1,x,rfl,hlt,hv,hfx,rfl,rfl⟩
   ·have t4:decide ((x - q).num.sign>0)=false:=decide_eq_false hc
    rw[if_neg hc]at hv
    (repeat((first|refine step_w1 rfl rfl ?_|refine step_w2 rfl rfl ?_|refine g_c (by assumption) ?_|refine g_o (op_lenM rfl rfl rfl (ev_ok rfl) (tgt rfl) rfl) ?_|refine g_o (op_indexN (α:=Rat) (d:=0) rfl (ev_ok rfl) (ev_ok rfl) (tgt rfl) rfl (tgt rfl) rfl (by omega)) ?_|refine g_o (op_loadA rfl (ev_ok rfl) (tgt rfl) rfl (Nat.succ_ne_zero _) rfl) ?_|rw[hxe]|rw[t1]|rw[t3]|rw[t4]|rw[t2]);conv=>whnf))
    exact⟨l.length - (i+1),fun k=>k,[0,2,3,4],[2,3],by omega,by kernel_rfl,i+1,q,rfl,hlt,hv,hq,rfl,rfl⟩
 ·have t1:=dge hlt
  have hI:i=l.length:=by omega
  rw[hI,List.drop_length,vmaxF]at hv
  rw[←hv]
  (repeat(first|(refine step_w2 rfl rfl ?_;conv=>whnf)|(refine g_o (op_lenM rfl rfl rfl (ev_ok rfl) (tgt rfl) rfl) ?_;conv=>whnf)|(rw[t1];conv=>whnf)))
  exact Recast.refl _
def jn (l:List Rat):List UInt8:=Lib.join ((l.map tQ).map (·.data.toList)) [32]
theorem jn_snoc (l:List Rat) (q:Rat) (h:l≠[]):jn (l++[q])=jn l++[32]++(tQ q).data.toList:=by
 cases l with
 |nil=>exact absurd rfl h
 |cons x r=>simp[jn,Lib.join_cons,Lib.joinTail]
theorem jn_one (q:Rat):jn ([]++[q])=(tQ q).data.toList:=by simp[jn,Lib.join_one]
theorem jn_len {a:List Rat} {B:Nat} (hl:a.length≤2048) (h:∀i,i<a.length→fs (a.getD i 0)≤B) (hB:B≤100000000) (i:Nat):(jn (a.take i)).length≤140737488355328:=
 tV_join (B:=B) (by rw[List.length_take];omega) (fun k hk=>by
  rw[List.length_take]at hk
  rw[List.getD_eq_getElem?_getD,List.getElem?_take,if_pos (by omega),←List.getD_eq_getElem?_getD]
  exact h k (by omega)) (by omega)
theorem app_l (l:List UInt8) (s:ByteArray):(⟨l.toArray⟩:ByteArray)++s=⟨(l++s.data.toList).toArray⟩:=by
 apply ByteArray.ext
 rw[ByteArray.data_append]
 apply Array.ext'
 simp
theorem size_l (l:List UInt8):(⟨l.toArray⟩:ByteArray).size=l.length:=by show l.toArray.size=_;simp
theorem r12_Text (a:List Rat) (B:Nat) (hl:a.length≤2048) (h:∀i,i<a.length→fs (a.getD i 0)≤B) (hB:B≤100000000):CallOK Tryz.prog 37 [fFs a] [] (.val (.string (tV a))) [] []:=by
 have htv:tV a=⟨((91::jn a)++[93]).toArray⟩:=by
  apply ByteArray.ext
  show(("[".toUTF8++⟨(jn a).toArray⟩:ByteArray)++ "]".toUTF8).data=_
  rw[ByteArray.data_append,ByteArray.data_append]
  apply Array.ext'
  have e1: "[".toByteArray.data.toList=[91]:=by decide+kernel
  have e2: "]".toByteArray.data.toList=[93]:=by decide+kernel
  simp[e1,e2]
 rw[htv]
 refine callV (Z:=[]) tabOK mixedOK Tryz.func37 rfl (by kernel_rfl) rfl rfl (by kernel_rfl) rfl ?_
 intro W0 w0 ρ0 hE
 conv=>whnf
 skip
 refine SW_loopN hE (fun k=>k) [0,3,4] [] (fun m fr hp=>∃i:Nat,m=a.length - i∧i≤a.length∧fr=[(0,fFs a),(3,dS (91::jn (a.take i))),(4,.val (.int .i64 (i:Nat)))]∧hp=[]) a.length ?_ ?_ ?_
 ·kernel_rfl
 ·exact⟨0,rfl,Nat.zero_le _,rfl,rfl⟩
 rintro m _ _ ⟨i,rfl,hi,rfl,rfl⟩
 have hjl:=jn_len hl h hB i
 have hsz:=size_l (91::jn (a.take i))
 rw[List.length_cons]at hsz
 conv=>whnf
 by_cases hlt:i<a.length
 ·have t1:=dlt hlt
  have t2:=winc (i:=i) (by omega)
  have hx:=h i hlt
  have k1:=r3_Text (a.getD i 0) (by omega)
  have hq:=tQ_size (a.getD i 0)
  have hts:=take_snoc a i hlt
  obtain⟨x,hxe⟩:∃x,a.getD i 0=x:=⟨_,rfl⟩
  rw[hxe]at hx k1 hq hts
  by_cases h0:0<i
  ·have t3:decide ((i:Int)>0)=true:=decide_eq_true (by omega)
   have e1:=app_l (91::jn (a.take i)) ⟨#[32]⟩
   have e2:=app_l ((91::jn (a.take i))++[32]) (tQ x)
   have hne:a.take i≠[]:=fun h=>by have:=congrArg List.length h;rw[List.length_take,List.length_nil]at this;omega
   have ej:(91::jn (a.take i))++[32]++(tQ x).data.toList=91::jn (a.take (i+1)):=by rw[hts,jn_snoc _ _ hne];simp
   have h32:(⟨#[32]⟩:ByteArray).size=1:=rfl
   have o1:(⟨(91::jn (a.take i)).toArray⟩:ByteArray).size+(⟨#[32]⟩:ByteArray).size≤9223372036854775807:=by omega
   have hsz2:=size_l ((91::jn (a.take i))++[32])
   rw[List.length_append,List.length_cons,List.length_singleton]at hsz2
   have o2:(⟨((91::jn (a.take i))++[32]).toArray⟩:ByteArray).size+(tQ x).size≤9223372036854775807:=by omega
   have e1':(⟨(91::jn (a.take i)).toArray⟩:ByteArray)++(⟨#[32]⟩:ByteArray)=⟨((91::jn (a.take i))++[32]).toArray⟩:=e1
   rw[ej]at e2
   clear e1 ej hts
   (repeat((first|refine step_w1 rfl rfl ?_|refine step_oM (by first|omega|decide|(simp only[tl0,dlen,List.length_replicate,List.length_set,List.length_map,List.length_zipWith,List.length_take,List.length_append,List.length_cons,List.length_nil];omega)) ?_|refine g_c (by assumption) ?_|refine g_o (op_lenM rfl rfl rfl (ev_ok rfl) (tgt rfl) rfl) ?_|refine g_o (op_indexN (α:=Rat) (d:=0) rfl (ev_ok rfl) (ev_ok rfl) (tgt rfl) rfl (tgt rfl) rfl (by omega)) ?_|refine g_o (op_loadA rfl (ev_ok rfl) (tgt rfl) rfl (Nat.succ_ne_zero _) rfl) ?_|rw[t1]|rw[t3]|rw[hxe]|rw[e1']|rw[e2]|rw[t2]);conv=>whnf))
   exact⟨a.length - (i+1),fun k=>k,[0,3,4],[],by omega,by kernel_rfl,i+1,rfl,hlt,rfl,rfl⟩
  ·have t3:decide ((i:Int)>0)=false:=decide_eq_false (by omega)
   obtain rfl:i=0:=by omega
   have e2:=app_l (91::jn (a.take 0)) (tQ x)
   have ej:(91::jn (a.take 0))++(tQ x).data.toList=91::jn (a.take (0+1)):=by
    rw[hts,List.take_zero,jn_one];rfl
   rw[ej]at e2
   have o2:(⟨(91::jn (a.take 0)).toArray⟩:ByteArray).size+(tQ x).size≤9223372036854775807:=by omega
   clear ej hts
   (repeat((first|refine step_w1 rfl rfl ?_|refine step_w2 rfl rfl ?_|refine step_oM (by first|omega|decide|(simp only[tl0,dlen,List.length_replicate,List.length_set,List.length_map,List.length_zipWith,List.length_take,List.length_append,List.length_cons,List.length_nil];omega)) ?_|refine g_c (by assumption) ?_|refine g_o (op_lenM rfl rfl rfl (ev_ok rfl) (tgt rfl) rfl) ?_|refine g_o (op_indexN (α:=Rat) (d:=0) rfl (ev_ok rfl) (ev_ok rfl) (tgt rfl) rfl (tgt rfl) rfl (by omega)) ?_|refine g_o (op_loadA rfl (ev_ok rfl) (tgt rfl) rfl (Nat.succ_ne_zero _) rfl) ?_|rw[t1]|rw[t3]|rw[hxe]|rw[e2]|rw[t2]|rw[Nat.zero_add]);conv=>whnf))
   exact⟨a.length - (0+1),fun k=>k,[0,3,4],[],by omega,by kernel_rfl,0+1,rfl,hlt,rfl,rfl⟩
 ·have t1:=dge hlt
  have hI:i=a.length:=by omega
  subst hI
  rw[List.take_length]at*
  have e1:(⟨(91::jn a).toArray⟩:ByteArray)++(⟨#[93]⟩:ByteArray)=⟨((91::jn a)++[93]).toArray⟩:=app_l (91::jn a) ⟨#[93]⟩
  have h93:(⟨#[93]⟩:ByteArray).size=1:=rfl
  have o1:(⟨(91::jn a).toArray⟩:ByteArray).size+(⟨#[93]⟩:ByteArray).size≤9223372036854775807:=by omega
  rw[←e1]
  (repeat((first|refine step_w2 rfl rfl ?_|refine step_oM (by first|omega|decide|(simp only[tl0,dlen,List.length_replicate,List.length_set,List.length_map,List.length_zipWith,List.length_take,List.length_append,List.length_cons,List.length_nil];omega)) ?_|refine g_o (op_lenM rfl rfl rfl (ev_ok rfl) (tgt rfl) rfl) ?_|rw[t1]);conv=>whnf));(first|exact Recast.refl _|exact Frz.recast (Recast.refl _) rfl|(refine Frz.one rfl rfl ?_;skip)|(refine Frz.tup ?_;skip))
end Go.Proofs.YtjofnbpcanhfhabGreatDoor
namespace Go.Proofs.YtjofnbpcanhfhabGreatDoor
open Go.Sx
set_option linter.unusedSimpArgs false
set_option linter.unusedVariables false
set_option maxRecDepth 100000
set_option maxHeartbeats 4000000
def dv (l:List UInt8):Nat:=l.foldl (fun a c=>10*a+(c.toNat - 48)) 0
theorem u8_digit {d:Nat} (h:d<10):(UInt8.ofNat (48+d)).toNat=48+d:=by
 rw[UInt8.toNat_ofNat'];omega
theorem dv_dec:∀n,dv (Lib.decDigits n)=n:=by
 intro n
 induction n using Nat.strongRecOn with
 |_ n ih=>
  by_cases h:n<10
  ·rw[dec_lt h,dv,List.foldl_cons,List.foldl_nil,u8_digit h];omega
  ·have:=ih (n/10) (by omega)
   rw[dv]at this
   rw[dec_big (by omega),dv,List.foldl_append,this,List.foldl_cons,List.foldl_nil,u8_digit (by omega)];omega
theorem dec_inj {a b:Nat} (h:Lib.decDigits a=Lib.decDigits b):a=b:=by rw[←dv_dec a,h,dv_dec]
theorem dec_chars:∀n,∀c∈Lib.decDigits n,48≤c.toNat∧c.toNat≤57:=by
 intro n
 induction n using Nat.strongRecOn with
 |_ n ih=>
  intro c hc
  by_cases h:n<10
  ·rw[dec_lt h,List.mem_singleton]at hc
   rw[hc,u8_digit h];omega
  ·rw[dec_big (by omega)]at hc
   rcases List.mem_append.1 hc with hc|hc
   ·exact ih (n/10) (by omega) c hc
   ·rw[List.mem_singleton.1 hc,u8_digit (by omega)];omega
theorem sep_inj {s:UInt8}:∀{a b c d:List UInt8},s∉a→s∉b→a++s::c=b++s::d→a=b∧c=d
 |[],[],c,d,_,_,h=>by simpa using h
 |[],y::b,c,d,_,hb,h=>by
  simp only[List.nil_append,List.cons_append,List.cons.injEq]at h
  exact absurd (h.1▸List.mem_cons_self ..) hb
 |x::a,[],c,d,ha,_,h=>by
  simp only[List.nil_append,List.cons_append,List.cons.injEq]at h
  exact absurd (h.1▸List.mem_cons_self ..) ha
 |x::a,y::b,c,d,ha,hb,h=>by
  simp only[List.cons_append,List.cons.injEq]at h
  obtain⟨h1,h2⟩:=sep_inj (fun hm=>ha (List.mem_cons_of_mem _ hm)) (fun hm=>hb (List.mem_cons_of_mem _ hm)) h.2
  exact⟨by rw[h.1,h1],h2⟩
def zl (z:Int):List UInt8:=if z<0 then 45::Lib.decDigits z.natAbs else Lib.decDigits z.natAbs
def ql (q:Rat):List UInt8:=if q.den=1 then zl q.num else zl q.num++47::Lib.decDigits q.den
theorem tN_l (n:Nat):(tN n).data.toList=Lib.decDigits n:=by rw[tN_eq]
theorem tZ_l (z:Int):(tZ z).data.toList=zl z:=by
 unfold tZ zl
 split
 ·rw[ByteArray.data_append,Array.toList_append,tN_l]
  rw[show "-".toUTF8.data.toList=[45] by decide+kernel];rfl
 ·exact tN_l _
theorem tQ_l (q:Rat):(tQ q).data.toList=ql q:=by
 unfold tQ ql
 split
 ·exact tZ_l _
 ·rw[ByteArray.data_append,ByteArray.data_append,Array.toList_append,Array.toList_append,tZ_l,tN_l]
  rw[show "/".toUTF8.data.toList=[47] by decide+kernel,List.append_assoc];rfl
theorem zl_no {z:Int} {c:UInt8} (hc:c∈zl z):c.toNat=45∨48≤c.toNat:=by
 unfold zl at hc
 split at hc
 ·rcases List.mem_cons.1 hc with rfl|hc
  ·exact .inl rfl
  ·exact .inr (dec_chars _ c hc).1
 ·exact .inr (dec_chars _ c hc).1
theorem zl_inj {a b:Int} (h:zl a=zl b):a=b:=by
 unfold zl at h
 split at h<;>split at h
 ·simp only[List.cons.injEq,true_and]at h
  have:=dec_inj h;omega
 ·exfalso
  have:=dec_chars b.natAbs 45 (h▸List.mem_cons_self ..)
  exact absurd this.1 (by decide)
 ·exfalso
  have:=dec_chars a.natAbs 45 (h▸List.mem_cons_self ..)
  exact absurd this.1 (by decide)
 ·have:=dec_inj h;omega
theorem zl_47 (z:Int):(47:UInt8)∉zl z:=fun h=>by
 rcases zl_no h with g|g
 ·exact absurd g (by decide)
 ·exact absurd g (by decide)
theorem ql_inj {a b:Rat} (h:ql a=ql b):a=b:=by
 unfold ql at h
 split at h<;>split at h
 ·exact Rat.ext (zl_inj h) (by omega)
 ·exact absurd (h▸List.mem_append_right _ (List.mem_cons_self ..)) (zl_47 a.num)
 ·exact absurd (h▸List.mem_append_right _ (List.mem_cons_self ..)) (zl_47 b.num)
 ·obtain⟨h1,h2⟩:=sep_inj (zl_47 _) (zl_47 _) h
  exact Rat.ext (zl_inj h1) (dec_inj h2)
theorem ql_32 (q:Rat):(32:UInt8)∉ql q:=fun h=>by
 have hz:∀z,(32:UInt8)∉zl z:=fun z h=>by
  rcases zl_no h with g|g
  ·exact absurd g (by decide)
  ·exact absurd g (by decide)
 unfold ql at h
 split at h
 ·exact hz _ h
 ·rcases List.mem_append.1 h with h|h
  ·exact hz _ h
  ·rcases List.mem_cons.1 h with h|h
   ·exact absurd h (by decide)
   ·exact absurd (dec_chars _ _ h).1 (by decide)
theorem jn_cons (a b:Rat) (r:List Rat):jn (a::b::r)=ql a++32::jn (b::r):=by
 rw[←tQ_l];simp[jn,Lib.join_cons,Lib.joinTail]
theorem jn_inj:∀{x y:List Rat},x.length=y.length→jn x=jn y→x=y
 |[],[],_,_=>rfl
 |[a],[b],_,h=>by
  have h1:=jn_one a
  have h2:=jn_one b
  rw[List.nil_append,tQ_l]at h1 h2
  rw[ql_inj (h1.symm.trans (h.trans h2))]
 |a::a2::r,b::b2::r',hl,h=>by
  rw[jn_cons,jn_cons]at h
  obtain⟨h1,h2⟩:=sep_inj (ql_32 a) (ql_32 b) h
  rw[ql_inj h1,jn_inj (by simpa using hl) h2]
 |[],_::_,hl,_=>by simp at hl
 |_::_,[],hl,_=>by simp at hl
 |[_],_::_::_,hl,_=>by simp at hl
 |_::_::_,[_],hl,_=>by simp at hl
theorem tV_eq (a:List Rat):tV a=⟨((91::jn a)++[93]).toArray⟩:=by
 apply ByteArray.ext
 show(("[".toUTF8++⟨(jn a).toArray⟩:ByteArray)++ "]".toUTF8).data=_
 rw[ByteArray.data_append,ByteArray.data_append]
 apply Array.ext'
 have e1: "[".toByteArray.data.toList=[91]:=by decide+kernel
 have e2: "]".toByteArray.data.toList=[93]:=by decide+kernel
 simp[e1,e2]
theorem tV_inj {x y:List Rat} (hl:x.length=y.length) (h:(tV x).data=(tV y).data):x=y:=by
 rw[tV_eq,tV_eq]at h
 have h:=congrArg Array.toList h
 simp only[List.cons_append,List.cons.injEq,true_and]at h
 exact jn_inj hl (List.append_cancel_right h)
end Go.Proofs.YtjofnbpcanhfhabGreatDoor
namespace Go.Proofs.YtjofnbpcanhfhabGreatDoor
open Go.Sx
set_option linter.unusedSimpArgs false
set_option linter.unusedVariables false
set_option maxRecDepth 100000
set_option maxHeartbeats 4000000
theorem r_QRef (q:Int×Int) (h:qOK q):CallOK Tryz.prog 23 [qA q] [] (fF (qV q)) [] []:=by
 have hd:(if q.2<1 then 1 else q.2)≠0:=by have:=h.2;split<;>omega
 have e2:IntKind.i64.wrap (if (1:Int)>q.2 then 1 else q.2)=(if q.2<1 then 1 else q.2):=wrap_i64 (by have:=h.2;split<;>omega) (by have:=h.2;split<;>omega)
 have k1:=r3_Of q.1 (if q.2<1 then 1 else q.2) h.1.1 h.1.2 (by have:=h.2;split<;>omega) (by have:=h.2;split<;>omega) hd
 refine callV (Z:=[1]) tabOK mixedOK Tryz.func23 rfl (by kernel_rfl) rfl rfl (by kernel_rfl) rfl ?_
 intro W0 w0 ρ0 hE
 conv=>whnf
 (repeat((first|refine g_c (by assumption) ?_|refine g_o (op_loadA rfl (ev_ok rfl) (tgt rfl) rfl (Nat.succ_ne_zero _) rfl) ?_|refine g_o (op_fieldA rfl (ev_ok rfl) (tgt rfl) rfl rfl (Nat.succ_ne_zero _) rfl) ?_|rw[e2]);conv=>whnf))
 exact Recast.refl _
end Go.Proofs.YtjofnbpcanhfhabGreatDoor
namespace Go.Proofs.YtjofnbpcanhfhabGreatDoor
open Go.Sx
set_option linter.unusedSimpArgs false
set_option linter.unusedVariables false
set_option maxRecDepth 100000
set_option maxHeartbeats 8000000
theorem c_R (l:List (Int×Int)) (hl:l.length<1048576) (h:∀q∈l,qOK q):CallOK Tryz.prog 22 [mvec 2 qA l] [] (fFs (l.map qV)) [] []:=by
 have hz:(l.map qV).length=l.length:=by simp
 refine callF (Z:=[]) tabOK mixedOK Tryz.func22 rfl (by kernel_rfl) (by first|rfl|(simp[keylessL,keyless,keylessL_map, *];done)) (by first|rfl|(simp[keylessL,keyless,keylessL_map, *];done)) (by kernel_rfl) rfl ?_
 intro w0 ρ0 hE
 conv=>whnf
 skip
 refine SWx_adopt (t:=3) (k:=2001) (s:=3) (blk:=fFblk []) rfl rfl rfl ?_
 refine SW_loopS hE (fun k=>k) [0,3,4] [2001] (fun m fr hp=>∃i:Nat,m=l.length - i∧i≤l.length∧fr=[(0,mvec 2 qA l),(3,.slc 2001 3 0 i),(4,.val (.int .i64 (i:Nat)))]∧hp=[(2001,fFblk ((l.map qV).take i))]) l.length ?_ ?_ ?_
 ·kernel_rfl
 ·exact⟨0,rfl,Nat.zero_le _,rfl,rfl⟩
 rintro m _ _ ⟨i,rfl,hi,rfl,rfl⟩
 have hlt0:((((l.map qV).take i)).map fF).length=i:=by rw[List.length_map,List.length_take];omega
 by_cases hlt:i<l.length
 ·have u1:=dlt hlt
  have u2:=winc (i:=i) (by omega)
  have k1:=r_QRef (l.getD i (0,0)) (h _ (getD_mem hlt))
  rw[←map_get (f:=qV) (e:=0) hlt]at k1
  refine SWx.of hE ?_
  conv=>whnf
  (repeat((first|refine step_w1 rfl rfl ?_|refine And.intro (by first|decide|omega|(simp only[tl0,dlen,List.length_replicate,List.length_set,List.length_map,List.length_zipWith,List.length_take,List.length_append,List.length_cons,List.length_nil];omega)) ?_|refine g_c (by assumption) ?_|refine g_o (op_lenM rfl rfl rfl (ev_ok rfl) (tgt rfl) rfl) ?_|refine g_o (op_loadA rfl (ev_ok rfl) (tgt rfl) rfl (Nat.succ_ne_zero _) rfl) ?_|refine g_o (op_indexN (α:=Int×Int) (d:=(0,0)) rfl (ev_ok rfl) (ev_ok rfl) (tgt rfl) rfl (tgt rfl) rfl (by omega)) ?_|rw[u1]|rw[u2]);conv=>whnf))
  refine⟨l.length - (i+1),renBy [(18,2001)],[0,3,4],[18],by omega,by kernel_rfl,i+1,rfl,hlt,rfl, ?_⟩
  rw[take_map_snoc (by rw[hz];exact hlt)]
  rfl
 ·have u1:=dge hlt
  have hI:i=l.length:=by omega
  subst hI
  have hall:(l.map qV).take l.length=l.map qV:=List.take_of_length_le (by omega)
  rw[hall]
  refine SWx_freezeM 3 2001 (fun _ h=>h) (fun _=>rfl) rfl rfl hz.symm ?_
  refine SWx.of hE ?_
  conv=>whnf
  (repeat(first|(refine step_w2 rfl rfl ?_;conv=>whnf)|(refine g_o (op_lenM rfl rfl rfl (ev_ok rfl) (tgt rfl) rfl) ?_;conv=>whnf)|(rw[u1];conv=>whnf)));(first|exact Recast.refl _|exact Frz.recast (Recast.refl _) rfl|(refine Frz.one rfl rfl ?_;skip)|(refine Frz.tup ?_;skip))
theorem c_Rt {l:List (Int×Int)} (h:∀q∈l,qOK q) {n:Nat} (hn:n≤2048):CallOK Tryz.prog 22 [mvec 2 qA (l.take n)] [] (fFs ((l.take n).map qV)) [] []:=
 c_R (l.take n) (by rw[List.length_take];omega) (fun q hq=>h q (List.mem_of_mem_take hq))
theorem r_is (a:List Rat) (B:Nat) (hl:a.length≤2048) (h:Sm B a) (hB:B≤100000000):CallOK Tryz.prog 27 [fvec a,.val (.int .i64 0),fFs a] [] (.val (.bool true)) [] []:=by
 have k1:=t_VecG a B hl h (by omega)
 have k2:=r12_Text a B hl h hB
 refine callV (Z:=[]) tabOK mixedOK Tryz.func27 rfl (by kernel_rfl) rfl rfl (by kernel_rfl) rfl ?_
 intro W0 w0 ρ0 hE
 conv=>whnf
 (repeat((first|refine step_w1 rfl rfl ?_|refine g_c (by assumption) ?_|refine g_o (op_pickT rfl (ev_ok rfl) (ev_ok rfl)) ?_|rw[beq_self_eq_true]|refine g_o (op_lenM rfl rfl rfl (ev_ok rfl) (tgt rfl) rfl) ?_);conv=>whnf));(first|exact Recast.refl _|exact Frz.recast (Recast.refl _) rfl|(refine Frz.one rfl rfl ?_;skip)|(refine Frz.tup ?_;skip))
theorem axpy_add {p:Rat} {x y:List Rat} {n:Nat} (hx:x.length=n) (hy:y.length=n):vadd (vscale p x) y=vaxpy p x y:=
 vec_ext (zip_len (zip_len hx hx) hy) (zip_len hx hy) fun i hi=>by
  rw[get_add (zip_len hx hx) hy hi,get_scale hx hi]
  exact(zip_get (f:=fun x y=>p*x+y) (by omega) (by omega)).symm
theorem c_Plays (c:Int×Int) (la lb:List (Int×Int)) (hc:qOK c) (hoa:∀q∈la,qOK q) (hob:∀q∈lb,qOK q):
  CallOK Tryz.prog 4 [qA c,mvec 2 qA la,mvec 2 qA lb] [] (.val (.bool true)) [] []:=by
 have kw:=l_works
 refine callV (Z:=[3]) tabOK mixedOK Tryz.func4 rfl (by kernel_rfl) rfl rfl (by kernel_rfl) rfl ?_
 intro W0 w0 ρ0 hE
 conv=>whnf
 by_cases h1:la.length>30
 ·have t1:Hid (decide ((la.length:Int)>30)=true):=show decide ((la.length:Int)>30)=true from decide_eq_true (by omega)
  (repeat((first|refine step_w1 rfl rfl ?_|refine step_w2 rfl rfl ?_|refine g_c (by assumption) ?_|refine g_o (op_pickT rfl (ev_ok rfl) (ev_ok rfl)) ?_|refine g_o (op_lenM rfl rfl rfl (ev_ok rfl) (tgt rfl) rfl) ?_|rw[t1.out]);conv=>whnf));(first|exact Recast.refl _|exact Frz.recast (Recast.refl _) rfl|(refine Frz.one rfl rfl ?_;skip)|(refine Frz.tup ?_;skip))
 have t1:Hid (decide ((la.length:Int)>30)=false):=show decide ((la.length:Int)>30)=false from decide_eq_false (by omega)
 by_cases h2:lb.length>30
 ·have t2:Hid (decide ((lb.length:Int)>30)=true):=show decide ((lb.length:Int)>30)=true from decide_eq_true (by omega)
  (repeat((first|refine step_w1 rfl rfl ?_|refine g_c (by assumption) ?_|refine g_o (op_pickF rfl (ev_ok rfl) (ev_ok rfl)) ?_|refine g_o (op_lenM rfl rfl rfl (ev_ok rfl) (tgt rfl) rfl) ?_|rw[t1.out]|rw[t2.out]);conv=>whnf));(first|exact Recast.refl _|exact Frz.recast (Recast.refl _) rfl|(refine Frz.one rfl rfl ?_;skip)|(refine Frz.tup ?_;skip))
 have t2:Hid (decide ((lb.length:Int)>30)=false):=show decide ((lb.length:Int)>30)=false from decide_eq_false (by omega)
 have kc:=l_cut la lb (by omega) (by omega)
 generalize hn:min la.length lb.length=n at kc
 have n30:n≤30:=by omega
 have nla:n≤la.length:=by omega
 have nlb:n≤lb.length:=by omega
 have n2:n≤2048:=by omega
 clear hn
 have hx:=len_take (l:=la) nla
 have hy:=len_take (l:=lb) nlb
 have k1:=c_Vt hoa n2
 have k2:=c_Vt hob n2
 have k3:=c_Rt hoa n2
 have k4:=c_Rt hob n2
 have sx:=Sm_take hoa n
 have sy:=Sm_take hob n
 have k5:=c_QOf c hc
 have k6:=r_QRef c hc
 have fp:=fs_qV hc
 generalize qV c=p at*
 generalize (la.take n).map qV=x at*
 generalize (lb.take n).map qV=y at*
 have hxy:x.length=y.length:=hx.trans hy.symm
 have hxl:x.length≤2048:=by omega
 have hxl2:x.length<1099511627776:=by omega
 have hyl2:y.length<1099511627776:=by omega
 have hf:=Fit_Sm sx sy hxy (show 130+130≤1073741824 by decide)
 have hf8:∀i,i<x.length→fs (x.getD i 0)+fs (y.getD i 0)≤260:=fun i hi=>by have:=sx i hi;have:=sy i (by omega);omega
 have hfs:∀i,i<x.length→fs p+fs (x.getD i 0)≤260:=fun i hi=>by have:=sx i hi;omega
 have o1:=v_Add x y hxy hxl hf
 have o2:=v_Sub x y hxy hxl hf
 have o3:=v_Scale p x hxl (fun i hi=>Nat.le_trans (hfs i hi) (by decide))
 have o4:=v_Axpy p x y hxy hxl (fun i hi=>by have:=sx i hi;have:=sy i (by omega);omega)
 have hs:fsL (vmul x y)≤_:=fsL_Sm (Sm_zip fs_mul sx sy hxy)
 rw[zip_len hx hy]at hs
 have o5:=v_Dot x y hxy hxl hf (by omega)
 have r1:=r12_Add x y hxy hxl (fun i hi=>Nat.le_trans (hf8 i hi) (by decide))
 have r2:=r12_Sub x y hxy hxl (fun i hi=>Nat.le_trans (hf8 i hi) (by decide))
 have r3:=r12_Scale p x hxl (fun i hi=>Nat.le_trans (hfs i hi) (by decide))
 have ssc:Sm 260 (vscale p x):=Sm_scale fp sx
 have hsc:(vscale p x).length=n:=zip_len hx hx
 have r4:=r12_Add (vscale p x) y (hsc.trans hy.symm) (by omega) (fun i hi=>by have:=ssc i hi;have:=sy i (by omega);omega)
 rw[axpy_add hx hy]at r4
 have hxB:x.length*260≤30*260:=Nat.mul_le_mul_right _ (by omega)
 have r5:=r12_Dot x y 260 hxy hxl hf8 (by omega)
 have r6:=r12_Max x 130 hxl (by decide) (by decide) sx
 have sax:Sm 390 (vaxpy p x y):=fun i hi=>by
  rw[List.length_zipWith]at hi
  rw[zip_get (d1:=0) (d2:=0) (by omega) (by omega)]
  have h1:=fs_add (p*x.getD i 0) (y.getD i 0)
  have h2:=fs_mul p (x.getD i 0)
  have:=sx i (by omega);have:=sy i (by omega);omega
 have i1:=r_is (vadd x y) 260 (by rw[zip_len hx hy];exact n2) (Sm_zip fs_add sx sy hxy) (by decide)
 have i2:=r_is (vsub x y) 260 (by rw[zip_len hx hy];exact n2) (Sm_zip fs_sub sx sy hxy) (by decide)
 have i3:=r_is (vscale p x) 260 (by rw[hsc];exact n2) ssc (by decide)
 have i4:=r_is (vaxpy p x y) 390 (by rw[zip_len hx hy];exact n2) sax (by decide)
 have bd:=fs_vdot sx sy hx hy
 have bd2:fs (vdot x y)≤10000:=by
  have:n*(130+130)≤30*(130+130):=Nat.mul_le_mul_right _ n30
  omega
 have bm:=fs_vmax sx (by decide)
 have o6:=s_max sx hx n2 (by decide) (by decide)
 have o7:=t_FracG (vdot x y) (by omega)
 have o8:=r3_Text (vdot x y) (by omega)
 have o9:=t_FracG (vmax x) (by omega)
 have o10:=r3_Text (vmax x) (by omega)
 have o11:=v_Same x y hxl2 hyl2
 have o12:=r12_Text x 130 hxl sx (by decide)
 have o13:=r12_Text y 130 (by omega) sy (by decide)
 have q1:Hid ((decide (x=y)==((tV x).toList==(tV y).toList))=true):=show(decide (x=y)==((tV x).toList==(tV y).toList))=true from by
  rw[beq_iff_eq,Bool.eq_iff_iff,decide_eq_true_iff,beq_iff_eq]
  constructor
  ·rintro rfl;rfl
  ·intro h
   rw[ByteArray.toList_eq,ByteArray.toList_eq]at h
   exact tV_inj hxy (Array.ext' h)
 clear hx hy sx sy fp hf hf8 hfs hs ssc hsc hxB sax bd bd2 bm hxy hxl hxl2 hyl2
 generalize vadd x y=v1 at*
 generalize vsub x y=v2 at*
 generalize vscale p x=v3 at*
 generalize vaxpy p x y=v4 at*
 generalize vdot x y=v5 at*
 generalize vmax x=v6 at*
 (repeat((first|refine step_w1 rfl rfl ?_|refine step_w2 rfl rfl ?_|refine step_i (by kernel_rfl) ?_|refine g_c (by assumption) ?_|refine g_o (op_pickT rfl (ev_ok rfl) (ev_ok rfl)) ?_|refine g_o (op_pickF rfl (ev_ok rfl) (ev_ok rfl)) ?_|rw[beq_self_eq_true]|refine g_o (op_lenM rfl rfl rfl (ev_ok rfl) (tgt rfl) rfl) ?_|refine g_o (op_loadA rfl (ev_ok rfl) (tgt rfl) rfl (Nat.succ_ne_zero _) rfl) ?_|rw[t1.out]|rw[t2.out]|rw[q1.out]);conv=>whnf));(first|exact Recast.refl _|exact Frz.recast (Recast.refl _) rfl|(refine Frz.one rfl rfl ?_;skip)|(refine Frz.tup ?_;skip))
theorem law_VecsPlays (a0:Int×Int) (a1 a2:List (Int×Int)) (w0:((Lit.int .i64 a0.1).wf=true)∧((Lit.int .u32 a0.2).wf=true)) (w1:QWf a1) (w2:QWf a2):
  CallOK Tryz.prog 4 [qA a0,mvec 2 qA a1,mvec 2 qA a2] [] (.val (.bool true)) [] []:=
 c_Plays a0 a1 a2 (qOK_one w0) (qOK_of w1) (qOK_of w2)
end Go.Proofs.YtjofnbpcanhfhabGreatDoor
