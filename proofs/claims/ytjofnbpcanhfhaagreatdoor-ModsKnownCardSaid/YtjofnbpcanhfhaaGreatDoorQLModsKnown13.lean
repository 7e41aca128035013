/- The texts Wd. -/
import Derived.Test.YtjofnbpcanhfhaaGreatDoorQLModsKnown12
namespace Go.Proofs.YtjofnbpcanhfhaaGreatDoor
open Go.Sx
set_option linter.unusedSimpArgs false
set_option linter.unusedVariables false
set_option maxRecDepth 100000
theorem search {q m:Nat} (hp:PrimeN q) (h62:62≤q) (hq2:q≤65536) (hqm:q≤m) (hn:q*m<4294967296) (cop:Nat.gcd m 58644190679703485491635=1)
  (F2:2^(q*m - 1) % (q*m)=1) (F7:7^(q*m - 1) % (q*m)=1) (F61:61^(q*m - 1) % (q*m)=1):mrB (q*m)=false:=by
 have hg:∃L,GoodQ q L:=by
  by_cases h:q<1000
  ·exact smallQ hp h62 h
  ·refine bigT_good hp (by omega) ?_
   by_cases h2:q<33768
   ·exact bigs0 q (by omega) h2
   ·exact bigs1 q (by omega) (by omega)
 obtain⟨L,hg⟩:=hg
 exact good_mr hp h62 hq2 hg hqm hn cop F2 F7 F61
theorem small_div:∀e,e<62→2≤e→∃q∈firsts,q ∣ e:=by decide
theorem firsts_prime':∀q∈firsts,2≤q∧∀d,d<q+1→d ∣ q→d=1∨d=q:=by decide+kernel
theorem firsts_prime (q:Nat) (h:q∈firsts):PrimeN q:=
 ⟨(firsts_prime' q h).1,fun d hd=>(firsts_prime' q h).2 d (by have:=Nat.le_of_dvd (by have:=(firsts_prime' q h).1;omega) hd;omega) hd⟩
theorem trial_none {n:Nat}:∀{l:List Nat},trial n l=none→∀q∈l,n % q≠0
 |[],_,q,hq=>by cases hq
 |a::l,h,q,hq=>by
  simp only[trial]at h
  split at h
  ·cases h
  ·rcases List.mem_cons.1 hq with rfl|hq
   ·assumption
   ·exact trial_none h q hq
theorem trial_some {n:Nat} {b:Bool}:∀{l:List Nat},trial n l=some b→∃q∈l,n % q=0∧b=(n==q)
 |[],h=>by cases h
 |a::l,h=>by
  simp only[trial]at h
  split at h
  ·rename_i hz
   cases h
   exact⟨a,by simp,hz,rfl⟩
  ·obtain⟨q,h1,h2,h3⟩:=trial_some h
   exact⟨q,by simp[h1],h2,h3⟩
theorem sq_one {p z:Nat} (hp:PrimeN p) (hz:z<p) (h:z*z % p=1):z=1∨z=p - 1:=by
 rcases Nat.eq_zero_or_pos z with h0|h0
 ·subst h0;simp at h
 obtain⟨y,rfl⟩:∃y,z=y+1:=⟨z - 1,by omega⟩
 have hd:p ∣ y*(y+2):=by
  have e:(y+1)*(y+1)=y*(y+2)+1:=by
   rw[Nat.mul_add y y 2,Nat.add_mul,Nat.mul_add];omega
  have:=Nat.div_add_mod ((y+1)*(y+1)) p
  rw[h,e]at this
  exact⟨(y*(y+2)+1)/p,by omega⟩
 rcases hp.dvd_mul hd with h1|h1
 ·rcases Nat.eq_zero_or_pos y with e|e
  ·subst e;exact .inl rfl
  ·have:=Nat.le_of_dvd e h1;omega
 ·have:=Nat.le_of_dvd (by omega) h1
  exact .inr (by omega)
theorem strong_of {p y:Nat} (hp:PrimeN p):∀t,y^(2^t) % p=1→y % p=1∨∃j,j<t∧y^(2^j) % p=p - 1
 |0,h=>.inl (by simpa using h)
 |t+1,h=>by
  have e:y^(2^(t+1))=y^(2^t)*y^(2^t):=by rw[Nat.pow_succ,Nat.pow_mul,Nat.pow_two]
  rw[e,Nat.mul_mod]at h
  have:=hp.two
  rcases sq_one hp (Nat.mod_lt _ (by omega)) h with h|h
  ·rcases strong_of hp t h with h|⟨j,hj,h⟩
   ·exact .inl h
   ·exact .inr ⟨j,by omega,h⟩
  ·exact .inr ⟨t,by omega,h⟩
theorem iterF_of:∀(k x n j:Nat),1≤j→j≤k→x^(2^j) % n=n - 1→iterF k x n=true
 |0,_,_,_,h1,h2,_=>by omega
 |k+1,x,n,j,h1,h2,h=>by
  simp only[iterF,Bool.or_eq_true,beq_iff_eq]
  by_cases hj:j=1
  ·subst hj
   rw[Nat.pow_one,Nat.pow_two]at h
   exact .inl h
  ·refine .inr (iterF_of k _ n (j - 1) (by omega) (by omega) ?_)
   rw[←Nat.pow_mod,←Nat.pow_two,←Nat.pow_mul,Nat.mul_comm,←Nat.pow_succ,show(j - 1).succ=j from by omega]
   exact h
theorem wit_prime {n w t d:Nat} (hp:PrimeN n) (hd:d<2^64) (ht:n - 1=2^t*d) (hw:¬n ∣ w):witF n t w=true:=by
 have hn:=hp.two
 have hq:(n - 1)/2^t=d:=by rw[ht];exact Nat.mul_div_cancel_left _ (Nat.pow_pos (by decide))
 have o1:1 % n=1:=Nat.mod_eq_of_lt (by omega)
 have hx:powM 64 (1 % n) w d n=w^d % n:=by
  rw[powM_spec 64 _ _ _ _ hd (Nat.mod_lt _ (by omega)),o1,Nat.one_mul]
 have hf:=fermat hp hw
 rw[ht,Nat.mul_comm,Nat.pow_mul]at hf
 unfold witF
 rw[hq,hx]
 simp only[Bool.or_eq_true,beq_iff_eq]
 rcases strong_of hp t hf with h|⟨j,hj,h⟩
 ·exact .inl h
 ·by_cases h0:j=0
  ·subst h0
   rw[Nat.pow_zero,Nat.pow_one]at h
   exact .inr (.inl h)
  ·refine .inr (.inr (iterF_of _ _ _ j (by omega) (by omega) ?_))
   rw[←Nat.pow_mod];exact h
theorem primeF_iff {n:Nat} (hn:n<4294967296):primeF n=true↔PrimeN n:=by
 cases ht:trial n firsts with
 |some b=>
  obtain⟨q,hq,hm,hb⟩:=trial_some ht
  have e:primeF n=(n==q):=by simp only[primeF,ht,hb]
  rw[e,beq_iff_eq]
  constructor
  ·rintro rfl;exact firsts_prime _ hq
  ·intro hp
   rcases hp.div q (Nat.dvd_of_mod_eq_zero hm)with h|h
   ·have:=(firsts_prime q hq).two;omega
   ·exact h.symm
 |none=>
  have hnd:=trial_none ht
  have hs:∀e,2≤e→e<62→¬e ∣ n:=fun e h2 h62 hd=>by
   obtain⟨q,hq,hqe⟩:=small_div e h62 h2
   exact hnd q hq (Nat.mod_eq_zero_of_dvd (Nat.dvd_trans hqe hd))
  by_cases h2:n<2
  ·have e:primeF n=false:=by simp only[primeF,ht,h2,if_true]
   rw[e]
   exact⟨fun h=>(by cases h),fun h=>by have:=h.two;omega⟩
  ·have e:primeF n=mrB n:=by simp only[primeF,ht,h2,if_false];rfl
   have h62:62≤n:=by
    by_cases h:n<62
    ·exact absurd (Nat.dvd_refl n) (hs n (by omega) h)
    ·omega
   obtain⟨m,hm⟩:=tzF_spec 32 (n - 1) (by omega) (by omega)
   have t0:0<tzF 32 (n - 1):=by
    rcases Nat.eq_zero_or_pos (tzF 32 (n - 1))with h|h
    ·rw[h,Nat.pow_zero,Nat.one_mul]at hm
     exact absurd ⟨m+1,by omega⟩ (hs 2 (by omega) (by omega))
    ·exact h
   have hd:2*m+1<2^64:=by
    have h1:=Nat.le_mul_of_pos_left (2*m+1) (Nat.pow_pos (n:=tzF 32 (n - 1)) (show 0<2 by decide))
    rw[←hm]at h1
    have:(4294967296:Nat)<2^64:=by decide
    omega
   rw[e]
   constructor
   ·intro h
    have h':=h
    simp only[mrB,Bool.and_eq_true]at h'
    rcases split_small (by omega) hn hs with hp|⟨q,k,hp,h62',hq2,rfl,hqm,cop⟩
    ·exact hp
    ·have:=search hp h62' hq2 hqm hn cop (wit_fermat (by omega) hd hm t0 h'.1) (wit_fermat (by omega) hd hm t0 h'.2.1) (wit_fermat (by omega) hd hm t0 h'.2.2)
     rw[h]at this;cases this
   ·intro hp
    have nw:∀w,0<w→w<62→¬n ∣ w:=fun w h0 h1 hd=>by have:=Nat.le_of_dvd h0 hd;omega
    simp only[mrB,Bool.and_eq_true]
    exact⟨wit_prime hp hd hm (nw 2 (by decide) (by decide)),wit_prime hp hd hm (nw 7 (by decide) (by decide)),wit_prime hp hd hm (nw 61 (by decide) (by decide))⟩
end Go.Proofs.YtjofnbpcanhfhaaGreatDoor
