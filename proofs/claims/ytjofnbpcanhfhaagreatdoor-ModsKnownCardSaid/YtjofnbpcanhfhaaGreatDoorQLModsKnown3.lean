/- The texts Ce, Vd, Ve, Vf. -/
import Derived.Test.YtjofnbpcanhfhaaGreatDoorQLModsKnown2
namespace Go.Proofs.YtjofnbpcanhfhaaGreatDoor
open Go.Sx
set_option linter.unusedSimpArgs false
set_option linter.unusedVariables false
set_option maxRecDepth 100000
def firsts:List Nat:=[2,3,5,7,11,13,17,19,23,29,31,37,41,43,47,53,59,61]
def trial (n:Nat):List Nat→Option Bool
 |[]=>none
 |q::l=>if n % q=0 then some (n==q)else trial n l
def tzF:Nat→Nat→Nat
 |0,_=>0
 |f+1,x=>if x % 2=1 then 0 else tzF f (x/2)+1
def iterF:Nat→Nat→Nat→Bool
 |0,_,_=>false
 |k+1,x,n=>x*x % n==n - 1||iterF k (x*x % n) n
def powM:Nat→Nat→Nat→Nat→Nat→Nat
 |0,out,_,_,_=>out
 |f+1,out,a,n,p=>powM f (if n % 2=1 then out*a % p else out) (a*a % p) (n/2) p
def witF (n t w:Nat):Bool:=
 let x:=powM 64 (1 % n) w ((n - 1)/2^t) n
 x==1||(x==n - 1||iterF (t - 1) x n)
def primeF (n:Nat):Bool:=match trial n firsts with
 |some b=>b
 |none=>if n<2 then false else witF n (tzF 32 (n - 1)) 2&&(witF n (tzF 32 (n - 1)) 7&&witF n (tzF 32 (n - 1)) 61)
theorem tzF_spec:∀(f x:Nat),0<x→x<2^f→∃m,x=2^tzF f x*(2*m+1)
 |0,x,h0,h=>by simp at h;omega
 |f+1,x,h0,h=>by
  simp only[tzF]
  split
  ·exact⟨x/2,by omega⟩
  ·rw[Nat.pow_succ]at h
   obtain⟨m,hm⟩:=tzF_spec f (x/2) (by omega) (by omega)
   refine⟨m, ?_⟩
   rw[Nat.pow_succ,Nat.mul_comm (2^_) 2,Nat.mul_assoc,←hm]
   omega
theorem powM_spec:∀(f out a n p:Nat),n<2^f→out<p→powM f out a n p=out*a^n % p
 |0,out,a,n,p,h,ho=>by
  have:n=0:=by simpa using h
  simp[powM,this,Nat.mod_eq_of_lt ho]
 |f+1,out,a,n,p,h,ho=>by
  rw[Nat.pow_succ]at h
  have hn:n=n % 2+2*(n/2):=by omega
  have hpow:a^n=a^(n % 2)*(a*a)^(n/2):=by
   conv=>lhs;rw[hn,Nat.pow_add,Nat.pow_mul]
   rw[show a^2=a*a from Nat.pow_two a]
  simp only[powM]
  rw[hpow]
  by_cases h1:n % 2=1
  ·rw[if_pos h1,powM_spec f _ _ _ p (by omega) (Nat.mod_lt _ (by omega)),h1,Nat.pow_one,Nat.mul_mod,Nat.mod_mod,←Nat.pow_mod,←Nat.mul_mod,Nat.mul_assoc]
  ·rw[if_neg h1,powM_spec f _ _ _ p (by omega) ho,show n % 2=0 from by omega,Nat.pow_zero,Nat.one_mul,Nat.mul_mod,←Nat.pow_mod,←Nat.mul_mod]
theorem firsts_bd:∀q∈firsts,0<q∧q<62:=by decide
def wits:List Nat:=[2,7,61]
theorem wits_bd:∀q∈wits,0<q∧q<62:=by decide
theorem c_Prime (n:Nat) (hn:n<4294967296):
  CallOK Tryz.prog 8 [.val (.int .u32 n)] [] (.val (.bool (primeF n))) [] []:=by
 refine callV (Z:=[]) tabOK mixedOK Tryz.func8 rfl (by kernel_rfl) rfl rfl (by kernel_rfl) rfl ?_
 intro W0 w0 ρ0 hE
 conv=>whnf
 refine SW_loopN hE (fun k=>k) [1,12,13] [1] (fun m fr hp=>∃i,m=18 - i∧i≤18∧trial n (firsts.drop i)=trial n firsts∧fr=[(1,.ptr 1 0 0 0),(12,.agg (firsts.map fun(q:Nat)=>.val (.int .u32 q))),(13,.val (.int .i64 i))]∧hp=[(1,⟨22,true,.one [.val (.int .u32 n)]⟩)]) 18 ?_ ?_ ?_
 ·kernel_rfl
 ·exact⟨0,rfl,by omega,rfl,rfl,rfl⟩
 rintro m _ _ ⟨i,rfl,hi,hT,rfl,rfl⟩
 conv=>whnf
 refine⟨fun h=> ?_,fun h=> ?_⟩
 ·have hi':i<18:=by have:=of_decide_eq_true h;omega
  obtain⟨q,hq⟩:∃q,firsts[i]? =some q:=⟨firsts[i]'(by simpa [firsts]using hi'),by simp⟩
  have hqm:q∈firsts:=List.mem_of_getElem? hq
  have hqb:0<q∧q<62:=firsts_bd q hqm
  conv=>whnf
  refine⟨_,[],[],op_indexAgg rfl (ev_ok rfl) (l:=firsts.map fun(q:Nat)=>.int .u32 q) rfl (ev_ok rfl) tok46 rfl tok22 rfl rfl (by omega) (by omega) (v:=.int .u32 q) (by simp[hq]) rfl,nil_fk,nil_new, ?_⟩
  conv=>whnf
  refine⟨by omega, ?_⟩
  conv=>whnf
  have hdrop:firsts.drop i=q::firsts.drop (i+1):=by
   rw[List.drop_eq_getElem_cons (by simpa [firsts]using hi')]
   congr 1
   exact(List.getElem?_eq_some_iff.1 hq).2
  have e1:(n:Int).tmod (q:Int)=((n % q:Nat):Int):=by rw[Int.tmod_eq_emod_of_nonneg (by omega)];rfl
  rw[e1]
  refine⟨fun h=> ?_,fun h=> ?_⟩
  ·have hz:n % q=0:=by have:=of_decide_eq_true h;omega
   conv=>whnf
   have e2:primeF n=((n:Int)==(q:Int)):=by
    rw[hdrop]at hT
    simp only[primeF,←hT,trial,hz,if_true]
    rw[Bool.eq_iff_iff];simp;omega
   rw[e2]
   exact Recast.refl _
  ·have hz:¬n % q=0:=by have:=of_decide_eq_false h;omega
   conv=>whnf
   have e3:IntKind.i64.wrap ((i:Int)+1)=((i+1:Nat):Int):=by rw[wrap_i64 (by omega) (by omega)];omega
   rw[e3]
   refine⟨18 - (i+1),fun k=>k,[1,12,13],[1],by omega,by kernel_rfl,i+1,rfl,by omega, ?_,rfl,rfl⟩
   rw[←hT,hdrop]
   simp only[trial,hz,if_false]
 ·have hi':i=18:=by have:=of_decide_eq_false h;omega
  subst hi'
  have hT:trial n firsts=none:=hT.symm
  conv=>whnf
  refine⟨fun h=> ?_,fun h=> ?_⟩
  ·have h2:n<2:=by have:=of_decide_eq_true h;omega
   conv=>whnf
   have e2:primeF n=false:=by simp only[primeF,hT,h2,if_true]
   rw[e2]
   exact Recast.refl _
  have h2:¬n<2:=by have:=of_decide_eq_false h;omega
  obtain⟨m0,hm0⟩:=tzF_spec 32 (n - 1) (by omega) (by omega)
  have cTZ:=c_TZ (tzF 32 (n - 1)) m0 (by rw[←hm0];omega)
  rw[←hm0]at cTZ
  have eP:primeF n=wits.all (witF n (tzF 32 (n - 1))):=by simp only[wits,primeF,hT,h2,if_false,List.all_cons,List.all_nil,Bool.and_true]
  have hTb:tzF 32 (n - 1)<32:=by
   have h1:2^(tzF 32 (n - 1))*1≤2^(tzF 32 (n - 1))*(2*m0+1):=Nat.mul_le_mul_left _ (by omega)
   rw[←hm0]at h1
   exact(Nat.pow_lt_pow_iff_right (a:=2) (by decide)).1 (by omega)
  generalize tzF 32 (n - 1)=T at*
  have e1:IntKind.u32.wrap ((n:Int) - 1)=((n - 1:Nat):Int):=by rw[wrap_u32 (by omega) (by omega)];omega
  conv=>whnf
  rw[e1]
  refine⟨[],_,[],[],cTZ,nil_fk,nil_new,nil_upd, ?_⟩
  conv=>whnf
  refine⟨_,[],[],[],op_makeFunc rfl rfl rfl,nil_fk,nil_new,nil_upd, ?_⟩
  conv=>whnf
  refine SW_loopN hE (fun k=>k) [1,6,7,30,31] [1] (fun m fr hp=>∃i,m=3 - i∧i≤3∧(wits.drop i).all (witF n T)=wits.all (witF n T)∧fr=[(1,.ptr 1 0 0 0),(6,.val (.int .i64 T)),(7,.clo 26 [] [.ptr 1 0 0 0]),(30,.agg (wits.map fun(q:Nat)=>.val (.int .u32 q))),(31,.val (.int .i64 i))]∧hp=[(1,⟨22,true,.one [.val (.int .u32 n)]⟩)]) 3 ?_ ?_ ?_
  ·kernel_rfl
  ·exact⟨0,rfl,by omega,rfl,rfl,rfl⟩
  rintro m _ _ ⟨i,rfl,hi,hW,rfl,rfl⟩
  conv=>whnf
  refine⟨fun h=> ?_,fun h=> ?_⟩
  ·have hi':i<3:=by have:=of_decide_eq_true h;omega
   obtain⟨q,hq⟩:∃q,wits[i]? =some q:=⟨wits[i]'(by simpa [wits]using hi'),by simp⟩
   have hqm:q∈wits:=List.mem_of_getElem? hq
   have hqb:0<q∧q<62:=wits_bd q hqm
   have hdrop:wits.drop i=q::wits.drop (i+1):=by
    rw[List.drop_eq_getElem_cons (by simpa [wits]using hi')]
    congr 1
    exact(List.getElem?_eq_some_iff.1 hq).2
   conv=>whnf
   refine⟨_,[],[],op_indexAgg rfl (ev_ok rfl) (l:=wits.map fun(q:Nat)=>.int .u32 q) rfl (ev_ok rfl) tok48 rfl tok22 rfl rfl (by omega) (by omega) (v:=.int .u32 q) (by simp[hq]) rfl,nil_fk,nil_new, ?_⟩
   conv=>whnf
   refine⟨by omega, ?_⟩
   conv=>whnf
   have e2:IntKind.u64.wrap ((n - 1:Nat):Int)=((n - 1:Nat):Int):=wrap_u64 (by omega) (by omega)
   have e3:ishr .u64 ((n - 1:Nat):Int) (T:Int)=(((n - 1)/2^T:Nat):Int):=ishr_nat .u64 (by show T≤64;omega)
   have e4:(n - 1)/2^T≤n - 1:=Nat.div_le_self _ _
   rw[e1,e2,e3]
   refine⟨[],_,[],[],c_Pow q n ((n - 1)/2^T) (by omega) (by omega) (by omega) (by omega) (by omega),nil_fk,nil_new,nil_upd, ?_⟩
   have e5:md ((q:Int)^((n - 1)/2^T)) n=((powM 64 (1 % n) q ((n - 1)/2^T) n:Nat):Int):=by
    rw[powM_spec 64 _ _ _ _ (by omega) (Nat.mod_lt _ (by omega))]
    simp only[md]
    rw[if_neg (by omega),Nat.mul_mod,Nat.mod_mod,←Nat.mul_mod,Nat.one_mul]
    simp
   have e6:powM 64 (1 % n) q ((n - 1)/2^T) n<n:=by
    rw[powM_spec 64 _ _ _ _ (by omega) (Nat.mod_lt _ (by omega))];exact Nat.mod_lt _ (by omega)
   have eW:witF n T q=(powM 64 (1 % n) q ((n - 1)/2^T) n==1||(powM 64 (1 % n) q ((n - 1)/2^T) n==n - 1||iterF (T - 1) (powM 64 (1 % n) q ((n - 1)/2^T) n) n)):=rfl
   rw[e5]
   generalize powM 64 (1 % n) q ((n - 1)/2^T) n=x at*
   conv=>whnf
   refine⟨by kernel_rfl, ?_⟩
   conv=>whnf
   have eX:((x:Int)==(n:Int) - 1)=(x==n - 1):=by rw[Bool.eq_iff_iff];simp;omega
   have eY:((x:Int)==1)=(x==1):=by rw[Bool.eq_iff_iff];simp;omega
   have next:witF n T q=true→wits.all (witF n T)=(wits.drop (i+1)).all (witF n T):=fun hw=>by rw[←hW,hdrop,List.all_cons,hw,Bool.true_and]
   have stop:witF n T q=false→primeF n=false:=fun hw=>by rw[eP,←hW,hdrop,List.all_cons,hw,Bool.false_and]
   have eI:IntKind.i64.wrap ((i:Int)+1)=((i+1:Nat):Int):=by rw[wrap_i64 (by omega) (by omega)];omega
   refine⟨fun hx=> ?_,fun hx=> ?_⟩
   ·conv=>whnf
    refine⟨fun _=> ?_,fun h'=>by rw[hx]at h';simp at h'⟩
    conv=>whnf
    refine⟨fun _=> ?_,fun h'=>by rw[hx]at h';simp at h'⟩
    conv=>whnf
    refine⟨_,_,[],[],c_minus x n 1 true (by omega) (by omega),one_fk rfl,nil_new,nil_upd, ?_⟩
    conv=>whnf
    refine⟨.val (.bool ((x:Int)==(n:Int) - 1)),[],[],[],op_pick rfl (ev_ok rfl) (fun hb=>by rw[hx]at hb;cases hb) (fun _=>ev_ok rfl) (by rw[hx];rfl) (c1:=.any),nil_fk,nil_new,nil_upd, ?_⟩
    conv=>whnf
    have hx1:(x==1)=false:=by rw[←eY];exact hx
    rw[hx1,Bool.false_or]at eW
    rw[eX]
    refine⟨fun h1=> ?_,fun h1=> ?_⟩
    ·rw[h1,Bool.true_or]at eW
     conv=>whnf
     rw[eI]
     exact⟨3 - (i+1),fun k=>k,[1,6,7,30,31],[1],by omega,by kernel_rfl,i+1,rfl,by omega,(next eW).symm,rfl,rfl⟩
    rw[h1,Bool.false_or]at eW
    conv=>whnf
    have eT:IntKind.i64.wrap ((T:Int) - 1)=(T:Int) - 1:=wrap_i64 (by omega) (by omega)
    rw[eT]
    refine SW_loopN hE (fun k=>k) [1,6,7,10,30,31,50,51] [1] (fun m fr hp=>∃y r,m=T - 1 - r∧y<n∧iterF (T - 1 - r) y n=iterF (T - 1) x n∧fr=[(1,.ptr 1 0 0 0),(6,.val (.int .i64 T)),(7,.clo 26 [] [.ptr 1 0 0 0]),(10,.val (.int .u32 (y:Nat))),(30,.agg (wits.map fun(q:Nat)=>.val (.int .u32 q))),(31,.val (.int .i64 i)),(50,.val (.int .i64 ((T:Int) - 1))),(51,.val (.int .i64 (r:Nat)))]∧hp=[(1,⟨22,true,.one [.val (.int .u32 n)]⟩)]) (T - 1) ?_ ?_ ?_
    ·kernel_rfl
    ·exact⟨x,0,rfl,e6,rfl,rfl,rfl⟩
    rintro m _ _ ⟨y,r,rfl,hy,hit,rfl,rfl⟩
    conv=>whnf
    refine⟨fun hr=> ?_,fun hr=> ?_⟩
    ·have hr':r+1<T:=by have:=of_decide_eq_true hr;omega
     conv=>whnf
     refine⟨[],_,[],[],c_Mul y y n (by omega) (by omega) (by omega) (by omega) (by omega) (by omega),nil_fk,nil_new,nil_upd, ?_⟩
     have eM:md ((y:Int)*y) n=((y*y % n:Nat):Int):=by
      simp only[md]
      rw[if_neg (by omega)]
      simp
     rw[eM]
     have hy2:y*y % n<n:=Nat.mod_lt _ (by omega)
     rw[show T - 1 - r=(T - 1 - (r+1))+1 from by omega]at hit
     simp only[iterF]at hit
     generalize y*y % n=z at*
     have eZ:((z:Int)==(n:Int) - 1)=(z==n - 1):=by rw[Bool.eq_iff_iff];simp;omega
     conv=>whnf
     refine⟨_,_,[],[],c_minus z n 1 true (by omega) (by omega),one_fk rfl,nil_new,nil_upd, ?_⟩
     conv=>whnf
     rw[eZ]
     refine⟨fun h1=> ?_,fun h1=> ?_⟩
     ·rw[h1,Bool.true_or]at hit
      rw[←hit]at eW
      conv=>whnf
      rw[eI]
      exact⟨3 - (i+1),fun k=>k,[1,6,7,30,31],[1],by omega,by kernel_rfl,i+1,rfl,by omega,(next eW).symm,rfl,rfl⟩
     ·rw[h1,Bool.false_or]at hit
      conv=>whnf
      rw[show IntKind.i64.wrap ((r:Int)+1)=((r+1:Nat):Int)from by rw[wrap_i64 (by omega) (by omega)];omega]
      exact⟨T - 1 - (r+1),fun k=>k,[1,6,7,10,30,31,50,51],[1],by omega,by kernel_rfl,z,r+1,rfl,hy2,hit,rfl,rfl⟩
    ·have hr':T - 1 - r=0:=by have:=of_decide_eq_false hr;omega
     rw[hr']at hit
     have hit:false=iterF (T - 1) x n:=hit
     rw[←hit]at eW
     conv=>whnf
     rw[stop eW]
     exact Recast.refl _
   ·conv=>whnf
    refine⟨fun h'=>by rw[hx]at h';simp at h',fun _=> ?_⟩
    conv=>whnf
    refine⟨fun h'=>by rw[hx]at h';simp at h',fun _=> ?_⟩
    conv=>whnf
    refine⟨.val (.bool true),[],[],[],op_pick rfl (ev_ok rfl) (fun _=>ev_ok rfl) (fun hb=>by rw[hx]at hb;cases hb) (by rw[hx];rfl) (c2:=.any),nil_fk,nil_new,nil_upd, ?_⟩
    conv=>whnf
    refine⟨fun _=> ?_,fun h'=>by cases h'⟩
    have hx1:(x==1)=true:=by rw[←eY];exact hx
    rw[hx1,Bool.true_or]at eW
    conv=>whnf
    rw[eI]
    exact⟨3 - (i+1),fun k=>k,[1,6,7,30,31],[1],by omega,by kernel_rfl,i+1,rfl,by omega,(next eW).symm,rfl,rfl⟩
  ·have hi':i=3:=by have:=of_decide_eq_false h;omega
   subst hi'
   have hW:wits.all (witF n T)=true:=hW.symm
   rw[hW]at eP
   conv=>whnf
   rw[eP]
   exact Recast.refl _
end Go.Proofs.YtjofnbpcanhfhaaGreatDoor
namespace Go.Proofs.YtjofnbpcanhfhaaGreatDoor
open Go.Sx
set_option linter.unusedSimpArgs false
set_option linter.unusedVariables false
set_option maxRecDepth 100000
theorem sq_pred {n:Nat} (h:2≤n):(n - 1)*(n - 1) % n=1 % n:=by
 obtain⟨k,rfl⟩:∃k,n=k+2:=⟨n - 2,by omega⟩
 have e:(k+2 - 1)*(k+2 - 1)=1+(k+2)*k:=by
  rw[show k+2 - 1=k+1 from rfl,Nat.add_mul,Nat.mul_add,Nat.add_mul];omega
 rw[e,Nat.add_mul_mod_self_left]
theorem iterF_spec:∀(k x n:Nat),iterF k x n=true→∃j,1≤j∧j≤k∧x^(2^j) % n=n - 1
 |0,x,n,h=>by cases h
 |k+1,x,n,h=>by
  simp only[iterF,Bool.or_eq_true,beq_iff_eq]at h
  rcases h with h|h
  ·exact⟨1,Nat.le_refl _,by omega,by rw[Nat.pow_one,Nat.pow_two];exact h⟩
  ·obtain⟨j,h1,h2,h3⟩:=iterF_spec k _ n h
   refine⟨j+1,by omega,by omega, ?_⟩
   rw[←Nat.pow_mod,←Nat.pow_two,←Nat.pow_mul]at h3
   rw[Nat.pow_succ,Nat.mul_comm];exact h3
theorem up_pow {x n j t:Nat} (hn:2≤n) (hj:j<t) (h:x^(2^j) % n=n - 1):x^(2^t) % n=1 % n:=by
 have h1:x^(2^(j+1)) % n=1 % n:=by
  rw[Nat.pow_succ,Nat.pow_mul,Nat.pow_two,Nat.mul_mod,h];exact sq_pred hn
 have e:2^t=2^(j+1)*2^(t - (j+1)):=by rw[←Nat.pow_add,show j+1+(t - (j+1))=t from by omega]
 rw[e,Nat.pow_mul]
 exact one_pow_mod h1 _
theorem wit_fermat {n w t d:Nat} (hn:2≤n) (hd:d<2^64) (ht:n - 1=2^t*d) (t0:0<t) (h:witF n t w=true):w^(n - 1) % n=1:=by
 have hq:(n - 1)/2^t=d:=by rw[ht];exact Nat.mul_div_cancel_left _ (Nat.pow_pos (by decide))
 have o1:1 % n=1:=Nat.mod_eq_of_lt (by omega)
 have hx:powM 64 (1 % n) w d n=w^d % n:=by
  rw[powM_spec 64 _ _ _ _ hd (Nat.mod_lt _ (by omega)),o1,Nat.one_mul]
 unfold witF at h
 rw[hq,hx]at h
 simp only[Bool.or_eq_true,beq_iff_eq]at h
 have key:(w^d)^(2^t) % n=1 % n:=by
  rcases h with h|h|h
  ·exact one_pow_mod (by rw[h,o1]) _
  ·exact up_pow (j:=0) hn t0 (by rw[Nat.pow_zero,Nat.pow_one];exact h)
  ·obtain⟨j,h1,h2,h3⟩:=iterF_spec _ _ _ h
   rw[←Nat.pow_mod]at h3
   exact up_pow hn (show j<t by omega) h3
 rw[ht,Nat.mul_comm,Nat.pow_mul,key,o1]
end Go.Proofs.YtjofnbpcanhfhaaGreatDoor
namespace Go.Proofs.YtjofnbpcanhfhaaGreatDoor
open Go.Sx
set_option linter.unusedSimpArgs false
set_option linter.unusedVariables false
set_option maxRecDepth 100000
def mrB (n:Nat):Bool:=witF n (tzF 32 (n - 1)) 2&&(witF n (tzF 32 (n - 1)) 7&&witF n (tzF 32 (n - 1)) 61)
noncomputable def tstS (q pm:Nat):Bool:=Bool.rec true (force (Nat.mul q (Nat.succ pm)) (fun n1=>Bool.rec true (Bool.rec true (Bool.rec true (Bool.not (mrB (Nat.succ n1))) (Nat.beq (pw3 61 (Nat.succ n1) n1) 1)) (Nat.beq (pw3 7 (Nat.succ n1) n1) 1)) (Nat.beq (pw3 2 (Nat.succ n1) n1) 1))) (Nat.beq (Nat.gcd (Nat.succ pm) 58644190679703485491635) 1)
theorem tstS_spec {q pm:Nat} (hq:0<q) (h:tstS q pm=true) (hg:Nat.gcd (pm+1) 58644190679703485491635=1)
  (h2:2^(q*(pm+1) - 1) % (q*(pm+1))=1) (h7:7^(q*(pm+1) - 1) % (q*(pm+1))=1) (h61:61^(q*(pm+1) - 1) % (q*(pm+1))=1):mrB (q*(pm+1))=false:=by
 unfold tstS at h
 rw[show Nat.gcd (Nat.succ pm) 58644190679703485491635=1 from hg]at h
 have h':force (q*(pm+1)) (fun n1=>Bool.rec true (Bool.rec true (Bool.rec true (Bool.not (mrB (Nat.succ n1))) (Nat.beq (pw3 61 (Nat.succ n1) n1) 1)) (Nat.beq (pw3 7 (Nat.succ n1) n1) 1)) (Nat.beq (pw3 2 (Nat.succ n1) n1) 1))=true:=h
 have hpos:0<q*(pm+1):=Nat.mul_pos hq (Nat.succ_pos _)
 obtain⟨n1,hn⟩:∃n1,q*(pm+1)=n1+1:=⟨q*(pm+1) - 1,by omega⟩
 rw[hn,Nat.add_sub_cancel]at h2 h7 h61
 rw[hn,force_succ,pw3_eq,pw3_eq,pw3_eq,show Nat.succ n1=n1+1 from rfl,h2,h7,h61]at h'
 rw[hn]
 cases hm:mrB (n1+1)with
 |false=>rfl
 |true=>rw[hm]at h';cases h'
theorem no_mr {q m L:Nat} (hp:PrimeN q) (h62:62≤q) (hq2:q≤65536) (hm:0<m) (cop:Nat.gcd m 58644190679703485491635=1) (ho:ordOK q L=true)
  (hr:∀c,m=c*L+1→tstS q (c*L)=true)
  (F2:2^(q*m - 1) % (q*m)=1) (F7:7^(q*m - 1) % (q*m)=1) (F61:61^(q*m - 1) % (q*m)=1):mrB (q*m)=false:=by
 have nd:∀a,0<a→a<62→¬q ∣ a:=fun a h0 h1 hd=>by have:=Nat.le_of_dvd h0 hd;omega
 have f2:=fermat hp (nd 2 (by decide) (by decide))
 have f7:=fermat hp (nd 7 (by decide) (by decide))
 have f61:=fermat hp (nd 61 (by decide) (by decide))
 have hq:1<q:=by omega
 obtain⟨c,hc⟩:=ord_dvd hq hq2 ho f2 f7 f61 (cand hq hm F2 f2) (cand hq hm F7 f7) (cand hq hm F61 f61)
 have e:m=c*L+1:=by rw[Nat.mul_comm];omega
 have ht:=hr c e
 subst e
 exact tstS_spec (by omega) ht cop F2 F7 F61
end Go.Proofs.YtjofnbpcanhfhaaGreatDoor
namespace Go.Proofs.YtjofnbpcanhfhaaGreatDoor
open Go.Sx
set_option linter.unusedSimpArgs false
set_option linter.unusedVariables false
set_option maxRecDepth 100000
def GoodQ (q L:Nat):Prop:=ordOK q L=true∧0<L∧L ∣ q - 1∧∀j,q*(q+j*L)<4294967296→tstS q (q+j*L - 1)=true
def Cov (q L lo n:Nat):Prop:=∀j,lo≤j→j<n→tstS q (q+j*L - 1)=true
theorem runs_nil {q L n:Nat}:Cov q L n n:=fun j h0 h1=>by omega
theorem runs_cons {q L lo k n:Nat} (h:run (tstS q) L (q+lo*L) k=true) (t:Cov q L (lo+k) n) (hq:0<q:=by decide):Cov q L lo n:=by
 intro j h0 h1
 by_cases hj:j<lo+k
 ·have h2:=run_spec h (j - lo) (by omega)
  have e:q+lo*L+(j - lo)*L=(q+j*L - 1)+1:=by
   rw[Nat.add_assoc,←Nat.add_mul,show lo+(j - lo)=j from by omega]
   have:=Nat.zero_le (j*L);omega
  rw[e,force_succ]at h2
  exact h2
 ·exact t j (by omega) h1
theorem goodQ_of {q L n:Nat} (h:4294967296≤q*(q+n*L)) (hr:Cov q L 0 n):∀j,q*(q+j*L)<4294967296→tstS q (q+j*L - 1)=true:=by
 intro j hj
 by_cases hjn:j<n
 ·exact hr j (Nat.zero_le _) hjn
 ·have h1:=Nat.mul_le_mul_right L (show n≤j by omega)
  have h2:=Nat.mul_le_mul_left q (show q+n*L≤q+j*L by omega)
  omega
theorem prime_foldr {q:Nat} (hp:PrimeN q):∀(l:List Nat),(∀a∈l,0<a∧a<q)→¬q ∣ l.foldr (·*·) 1
 |[],_,h=>by have:=Nat.le_of_dvd (by decide) h;have:=hp.two;simp at*;omega
 |a::l,ha,h=>by
  rw[List.foldr_cons]at h
  rcases hp.dvd_mul h with h|h
  ·have:=Nat.le_of_dvd (ha a (by simp)).1 h
   have:=(ha a (by simp)).2
   omega
  ·exact prime_foldr hp l (fun b hb=>ha b (by simp[hb])) h
theorem prime_cop {q:Nat} (hp:PrimeN q) (l:List Nat) (h:∀a∈l,0<a∧a<q):Nat.gcd q (l.foldr (·*·) 1)=1:=by
 rcases hp.div _ (Nat.gcd_dvd_left q (l.foldr (·*·) 1))with e|e
 ·exact e
 ·exact absurd (e▸Nat.gcd_dvd_right q (l.foldr (·*·) 1)) (prime_foldr hp l h)
def first61:List Nat:=[2,3,5,7,11,13,17,19,23,29,31,37,41,43,47,53,59,61]
def first251:List Nat:=[2,3,5,7,11,13,17,19,23,29,31,37,41,43,47,53,59,61,67,71,73,79,83,89,97,101,103,107,109,113,127,131,137,139,149,151,157,163,167,173,179,181,191,193,197,199,211,223,227,229,233,239,241,251]
theorem prime_cop61 {q:Nat} (hp:PrimeN q) (h:62≤q):(Nat.gcd q 117288381359406970983270 != 1)=false:=by
 have h1:∀a∈first61,0<a∧a<62:=by decide
 have:=prime_cop hp first61 (fun a ha=>⟨(h1 a ha).1,by have:=(h1 a ha).2;omega⟩)
 rw[show first61.foldr (·*·) 1=117288381359406970983270 from by decide+kernel]at this
 rw[this];rfl
theorem prime_cop251 {q:Nat} (hp:PrimeN q) (h:252≤q):Nat.gcd q 64266330917908644872330635228106713310880186591609208114244758680898150367880703152525200743234420230=1:=by
 have h1:∀a∈first251,0<a∧a<252:=by decide+kernel
 have:=prime_cop hp first251 (fun a ha=>⟨(h1 a ha).1,by have:=(h1 a ha).2;omega⟩)
 rw[show first251.foldr (·*·) 1=64266330917908644872330635228106713310880186591609208114244758680898150367880703152525200743234420230 from by decide+kernel]at this
 exact this
noncomputable def tryK (q k:Nat):Bool:=Bool.rec false (force (Nat.succ (Nat.div (Nat.sub q 1) k)) (fun L=>Bool.rec false (run (tstS q) L (Nat.add q (Nat.mul 0 L)) (Nat.succ (Nat.div (Nat.sub (Nat.div 4294967295 q) q) L))) (ordOK q L))) (Nat.beq (Nat.mod (Nat.sub q 1) k) 0)
noncomputable def anyK (q n:Nat):Bool:=Nat.rec false (fun j ih=>Bool.rec ih true (tryK q (Nat.sub 13 j))) n
noncomputable def bigT (q:Nat):Bool:=Bool.rec true (anyK q 13) (Nat.beq (Nat.gcd q 64266330917908644872330635228106713310880186591609208114244758680898150367880703152525200743234420230) 1)
noncomputable def bigRun (a n:Nat):Bool:=Nat.rec true (fun i ih=>Bool.rec false ih (force (Nat.add a (Nat.succ i)) bigT)) n
theorem bigRun_spec {a:Nat}:∀{n:Nat},bigRun a n=true→∀q,a≤q→q<a+n→bigT q=true
 |0,_,q,h0,h1=>by omega
 |n+1,h,q,h0,h1=>by
  have h':Bool.rec false (bigRun a n) (force (a+n+1) bigT)=true:=h
  rw[force_succ]at h'
  cases hb:bigT (a+n)with
  |false=>rw[hb]at h';cases h'
  |true=>
   rw[hb]at h'
   by_cases e:q=a+n
   ·rw[e];exact hb
   ·exact bigRun_spec h' q h0 (by omega)
def BigC (lo hi:Nat):Prop:=∀q,lo≤q→q<hi→bigT q=true
theorem bigs_nil {n:Nat}:BigC n n:=fun q h0 h1=>by omega
theorem bigs_cons {a n hi:Nat} (h:bigRun a n=true) (t:BigC (a+n) hi):BigC a hi:=by
 intro q h0 h1
 by_cases hq:q<a+n
 ·exact bigRun_spec h q h0 hq
 ·exact t q (by omega) h1
theorem tryK_good {q k:Nat} (h1:1<q) (hk:0<k) (h:tryK q k=true):∃L,GoodQ q L:=by
 unfold tryK at h
 cases hb:Nat.beq (Nat.mod (Nat.sub q 1) k) 0 with
 |false=>rw[hb]at h;cases h
 |true=>
  rw[hb]at h
  have hm:(q - 1) % k=0:=Nat.eq_of_beq_eq_true hb
  obtain⟨L,hL⟩:∃L,(q - 1)/k=L:=⟨_,rfl⟩
  have hqk:q - 1=k*L:=by rw[←hL];have:=Nat.div_add_mod (q - 1) k;omega
  have h':Bool.rec false (run (tstS q) L (q+0*L) ((4294967295/q - q)/L+1)) (ordOK q L)=true:=by rw[←hL];exact h
  cases ho:ordOK q L with
  |false=>rw[ho]at h';cases h'
  |true=>
   rw[ho]at h'
   have hL0:0<L:=by rcases Nat.eq_zero_or_pos L with e|e
                    ·subst e;omega
                    ·exact e
   refine⟨L,ho,hL0,⟨k,by rw[hqk,Nat.mul_comm]⟩,goodQ_of (n:=(4294967295/q - q)/L+1) ?_ (runs_cons h' (by rw[Nat.zero_add];exact runs_nil) (by omega))⟩
   have e1:4294967295/q<q+((4294967295/q - q)/L+1)*L:=by
    have:=Nat.div_add_mod (4294967295/q - q) L
    have:=Nat.mod_lt (4294967295/q - q) hL0
    rw[Nat.add_mul,Nat.one_mul,Nat.mul_comm]
    omega
   have e2:=Nat.div_add_mod 4294967295 q
   have e3:=Nat.mod_lt 4294967295 (show 0<q by omega)
   have e4:=Nat.mul_le_mul_left q (show 4294967295/q+1≤q+((4294967295/q - q)/L+1)*L by omega)
   rw[Nat.mul_add,Nat.mul_one]at e4
   omega
theorem anyK_good {q:Nat} (h1:1<q):∀n,n≤13→anyK q n=true→∃L,GoodQ q L
 |0,_,h=>by cases h
 |n+1,hn,h=>by
  have h':Bool.rec (anyK q n) true (tryK q (13 - n))=true:=h
  cases hb:tryK q (13 - n)with
  |true=>exact tryK_good h1 (by omega) hb
  |false=>rw[hb]at h';exact anyK_good h1 n (by omega) h'
theorem bigT_good {q:Nat} (hp:PrimeN q) (h0:252≤q) (h:bigT q=true):∃L,GoodQ q L:=by
 unfold bigT at h
 rw[prime_cop251 hp h0]at h
 exact anyK_good (by omega) 13 (Nat.le_refl _) h
theorem good_mr {q L m:Nat} (hp:PrimeN q) (h62:62≤q) (hq2:q≤65536) (hg:GoodQ q L) (hqm:q≤m) (hn:q*m<4294967296) (cop:Nat.gcd m 58644190679703485491635=1)
  (F2:2^(q*m - 1) % (q*m)=1) (F7:7^(q*m - 1) % (q*m)=1) (F61:61^(q*m - 1) % (q*m)=1):mrB (q*m)=false:=by
 obtain⟨ho,hL,⟨k,hk⟩,hr⟩:=hg
 refine no_mr hp h62 hq2 (by omega) cop ho (fun c hc=> ?_) F2 F7 F61
 have hkc:k≤c:=by
  by_cases h:k≤c
  ·exact h
  ·have:=Nat.mul_le_mul_right L (show c+1≤k by omega)
   rw[Nat.add_mul,Nat.mul_comm k L]at this
   omega
 have e:q+(c - k)*L=m:=by
  have h1:(c - k)*L+k*L=c*L:=by rw[←Nat.add_mul,Nat.sub_add_cancel hkc]
  rw[Nat.mul_comm k L]at h1
  omega
 have:=hr (c - k) (by rw[e];exact hn)
 rw[e,hc,Nat.add_sub_cancel]at this
 exact this
end Go.Proofs.YtjofnbpcanhfhaaGreatDoor
