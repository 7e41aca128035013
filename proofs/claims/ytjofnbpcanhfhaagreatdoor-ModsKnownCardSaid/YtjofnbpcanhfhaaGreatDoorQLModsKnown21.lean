/- The texts Dg. -/
import Derived.Test.YtjofnbpcanhfhaaGreatDoorQLModsKnown20
namespace Go.Proofs.YtjofnbpcanhfhaaGreatDoor
open Go.Sx
set_option linter.unusedSimpArgs false
set_option linter.unusedVariables false
set_option maxRecDepth 100000
set_option maxHeartbeats 4000000
theorem eu_spec (a p:Int) (x y:Nat) (u v:Int) (h1:p ∣ a*u - x) (h2:p ∣ a*v - y):(eu x y u v).1=Nat.gcd x y∧p ∣ a*(eu x y u v).2 - (eu x y u v).1:=by
 induction y using Nat.strongRecOn generalizing x u v with
 |_ y ih=>
  rw[eu]
  split
  ·rename_i h;subst h;exact⟨by rw[Nat.gcd_zero_right],h1⟩
  ·rename_i h
   have:=ih (x % y) (Nat.mod_lt _ (Nat.pos_of_ne_zero h)) y v (u - (x/y:Nat)*v) h2 (by
    have e:a*(u - ((x/y:Nat):Int)*v) - ((x % y:Nat):Int)=(a*u - x) - ((x/y:Nat):Int)*(a*v - y):=by
     have hd:(x:Int)=(y:Int)*((x/y:Nat):Int)+((x % y:Nat):Int):=by rw[←Int.natCast_mul,←Int.natCast_add,Nat.div_add_mod]
     rw[Int.mul_sub,Int.mul_sub,Int.mul_left_comm a,Int.mul_comm ((x/y:Nat):Int) y]
     omega
    rw[e]
    exact Int.dvd_sub h1 (Int.dvd_mul_of_dvd_right h2))
   refine⟨?_,this.2⟩
   rw[this.1,Nat.gcd_comm y,←Nat.gcd_rec,Nat.gcd_comm]
theorem invF_spec {a p:Nat} (hp:p≠0):(Nat.gcd p (a % p)=1→(invF a p).2=true∧0≤(invF a p).1∧(invF a p).1<p∧(a*(invF a p).1) % (p:Int)=1 % (p:Int))∧(Nat.gcd p (a % p)≠1→invF a p=(0,false)):=by
 obtain⟨h1,h2⟩:=eu_spec a p p (a % p) 0 1 (by rw[Int.mul_zero,Int.zero_sub];exact Int.dvd_neg.2 (Int.dvd_refl _)) (by
  rw[Int.mul_one]
  have:=Nat.div_add_mod a p
  exact⟨((a/p:Nat):Int),by rw[←Int.natCast_mul];omega⟩)
 unfold invF
 rw[if_neg hp]
 simp only[]
 rw[h1]at h2 ⊢
 constructor
 ·intro hg
  rw[hg]at h2 ⊢
  rw[if_pos rfl]
  have hpp:(0:Int)<p:=by omega
  refine⟨rfl,Int.emod_nonneg _ (by omega),Int.emod_lt_of_pos _ hpp, ?_⟩
  rw[Int.mul_emod,Int.emod_emod_of_dvd _ (Int.dvd_refl _),←Int.mul_emod]
  obtain⟨c,hc⟩:=h2
  rw[show(a:Int)*(eu p (a % p) 0 1).2=1+p*c from by omega,Int.add_mul_emod_self_left]
 ·intro hg
  rw[if_neg hg]
theorem md_nat' {n p:Int} (hp:p≠0):md n p=n % p:=by simp[md,hp]
theorem md_add (x y p:Int):md (md x p+y) p=md (x+y) p:=by
 unfold md
 by_cases h:p=0
 ·simp[h]
 ·simp only[h,if_false];rw[Int.emod_add_emod]
theorem md_add' (x y p:Int):md (x+md y p) p=md (x+y) p:=by rw[Int.add_comm,md_add,Int.add_comm]
theorem md_mulL (x y p:Int):md (md x p*y) p=md (x*y) p:=by
 unfold md
 by_cases h:p=0
 ·simp[h]
 ·simp only[h,if_false];rw[Int.mul_emod,emod_cong,←Int.mul_emod]
theorem md_mulR (x y p:Int):md (x*md y p) p=md (x*y) p:=by rw[Int.mul_comm,md_mulL,Int.mul_comm]
theorem c_ModsField (a:Nat) (b c i:Int) (p:Nat) (hp:plist.getD (i % 13).toNat 0=p) (hpr:PrimeN p) (hp4:p<4294967296)
  (ha:a<4294967296) (hb:0≤b∧b<4294967296) (hc:0≤c∧c<4294967296) (hi:0≤i∧i<4294967296):
  CallOK Tryz.prog 6 [.val (.int .u32 a),.val (.int .u32 b),.val (.int .u32 c),.val (.int .u32 i)] [] (.val (.bool true)) [] []:=by
 have h2:=hpr.two
 have hp0:(p:Int)≠0:=by omega
 have k0:=c_P i hi.1
 rw[hp]at k0
 have bd:∀n:Int,0≤md n p∧md n p<4294967296:=fun n=>md_bds (by omega) (by omega)
 have A:=fun x y hx hx' hy hy'=>c_Add x y p hx hx' hy hy' (by omega) (by omega)
 have X:=fun x y hx hx' hy hy'=>c_Mul x y p hx hx' hy hy' (by omega) (by omega)
 have a0:(0:Int)≤a:=by omega
 have a1:(a:Int)<4294967296:=by omega
 have k1:=A a b a0 a1 hb.1 hb.2
 have k2:=(A b a hb.1 hb.2 a0 a1).res (d:=.val (.int .u32 (md (a+b) p))) (by rw[Int.add_comm])
 have k3:=X a b a0 a1 hb.1 hb.2
 have k4:=(X b a hb.1 hb.2 a0 a1).res (d:=.val (.int .u32 (md (a*b) p))) (by rw[Int.mul_comm])
 have k5:=(A (md (a+b) p) c (bd _).1 (bd _).2 hc.1 hc.2).res (d:=.val (.int .u32 (md (a+b+c) p))) (by rw[md_add])
 have k6:=A b c hb.1 hb.2 hc.1 hc.2
 have k7:=(A a (md (b+c) p) a0 a1 (bd _).1 (bd _).2).res (d:=.val (.int .u32 (md (a+b+c) p))) (by rw[md_add',Int.add_assoc])
 have k8:=(X (md (a*b) p) c (bd _).1 (bd _).2 hc.1 hc.2).res (d:=.val (.int .u32 (md (a*b*c) p))) (by rw[md_mulL])
 have k9:=X b c hb.1 hb.2 hc.1 hc.2
 have k10:=(X a (md (b*c) p) a0 a1 (bd _).1 (bd _).2).res (d:=.val (.int .u32 (md (a*b*c) p))) (by rw[md_mulR,Int.mul_assoc])
 have k11:=(X a (md (b+c) p) a0 a1 (bd _).1 (bd _).2).res (d:=.val (.int .u32 (md (a*b+a*c) p))) (by rw[md_mulR,Int.mul_add])
 have k12:=X a c a0 a1 hc.1 hc.2
 have k13:=(A (md (a*b) p) (md (a*c) p) (bd _).1 (bd _).2 (bd _).1 (bd _).2).res (d:=.val (.int .u32 (md (a*b+a*c) p))) (by rw[md_add,md_add'])
 have k14:=c_Sub a b p a0 a1 hb.1 hb.2 (by omega) (by omega)
 have k15:=(A (md (md a p+p - md b p) p) b (bd _).1 (bd _).2 hb.1 hb.2).res (d:=.val (.int .u32 ((a % p:Nat):Int))) (by
  rw[md_add,md_nat' hp0,md_nat' hp0,md_nat' hp0,Int.natCast_emod]
  have e1:=Int.emod_add_mul_ediv (a:Int) p
  have e2:=Int.emod_add_mul_ediv b p
  rw[show(a:Int) % p+p - b % p+b=(a:Int)+p*(1+b/p - (a:Int)/p)from by
   rw[Int.mul_sub,Int.mul_add,Int.mul_one];omega,Int.add_mul_emod_self_left])
 have k16:=(c_Sub a a p a0 a1 a0 a1 (by omega) (by omega)).res (d:=.val (.int .u32 0)) (by
  rw[show md a p+p - md a p=p from by omega,md_nat' hp0,Int.emod_self])
 have k17:=c_Inv a p ha hp4
 have k18:=c_works
 have hrem:(a:Int).tmod p=((a % p:Nat):Int):=by rw[Int.tmod_eq_emod_of_nonneg a0,Int.natCast_emod]
 have w1:IntKind.u64.wrap (IntKind.u32.wrap ((p:Int) - 1))=((p - 1:Nat):Int):=by rw[wrap_u32 (by omega) (by omega),wrap_u64 (by omega) (by omega)];omega
 have w2:IntKind.u64.wrap (IntKind.u32.wrap ((p:Int) - 2))=((p - 2:Nat):Int):=by rw[wrap_u32 (by omega) (by omega),wrap_u64 (by omega) (by omega)];omega
 obtain⟨i1,i2⟩:=invF_spec (a:=a) (p:=p) (by omega)
 by_cases hd:a % p=0
 ·have hg:Nat.gcd p (a % p)≠1:=by rw[hd,Nat.gcd_zero_right];omega
  rw[i2 hg]at k17
  have k19:=(c_Pow a p (p - 1) a0 a1 (by omega) (by omega) (by omega)).res (d:=.val (.int .u32 0)) (by
   rw[md_nat' hp0,←Int.natCast_pow,←Int.natCast_emod,Nat.pow_mod,hd,Nat.zero_pow (by omega),Nat.zero_mod];rfl)
  refine callV (Z:=[]) tabOK mixedOK Tryz.func6 rfl (by kernel_rfl) rfl rfl (by kernel_rfl) rfl ?_
  intro W0 w0 ρ0 hE
  conv=>whnf
  (repeat((first|refine step_w1 rfl rfl ?_|refine And.intro (by first|decide|omega|(simp only[tl0,dlen,List.length_replicate,List.length_set,List.length_map,List.length_zipWith,List.length_take,List.length_append,List.length_cons,List.length_nil];omega)) ?_|refine g_c (by assumption) ?_|refine g_o (op_pickF rfl (ev_ok rfl) (ev_ok rfl)) ?_|rw[bne_self_eq_false]);conv=>whnf))
  rw[hrem]
  (repeat((first|refine step_w1 rfl rfl ?_|refine step_w2 rfl rfl ?_|refine step_i (by kernel_rfl) ?_|refine And.intro (by first|decide|omega|(simp only[tl0,dlen,List.length_replicate,List.length_set,List.length_map,List.length_zipWith,List.length_take,List.length_append,List.length_cons,List.length_nil];omega)) ?_|refine g_c (by assumption) ?_|refine g_o (op_pickF rfl (ev_ok rfl) (ev_ok rfl)) ?_|rw[bne_self_eq_false]);conv=>whnf))
  rw[hrem,hd]
  (repeat(first|(refine step_w1 rfl rfl ?_;conv=>whnf)|(refine g_o (op_pickT rfl (ev_ok rfl) (ev_ok rfl)) ?_;conv=>whnf)|(rw[beq_self_eq_true];conv=>whnf)))
  rw[w1]
  (repeat(first|(refine step_w1 rfl rfl ?_;conv=>whnf)|(refine g_c (by assumption) ?_;conv=>whnf)|(refine g_o (op_pickT rfl (ev_ok rfl) (ev_ok rfl)) ?_;conv=>whnf)));exact Recast.refl _
 ·have hg:Nat.gcd p (a % p)=1:=hpr.coprime (fun h=>hd (by
   have:=Nat.le_of_dvd (by omega) h
   have:=Nat.mod_lt a (show 0<p by omega)
   omega))
  have hnd:¬p ∣ a:=fun h=>hd (Nat.mod_eq_zero_of_dvd h)
  obtain⟨j1,j2,j3,j4⟩:=i1 hg
  generalize invF a p=iv at*
  obtain⟨v,ok⟩:=iv
  simp only[]at j1 j2 j3 j4
  subst j1
  have hfer:=fermat hpr hnd
  have h11:(1:Int) % p=1:=Int.emod_eq_of_lt (by decide) (by omega)
  have k19:=(c_Pow a p (p - 1) a0 a1 (by omega) (by omega) (by omega)).res (d:=.val (.int .u32 1)) (by
   rw[md_nat' hp0,←Int.natCast_pow,←Int.natCast_emod,hfer];rfl)
  have k20:=(X a v a0 a1 j2 (by omega)).res (d:=.val (.int .u32 1)) (by rw[md_nat' hp0,j4,h11])
  have k21:=(c_Pow a p (p - 2) a0 a1 (by omega) (by omega) (by omega)).res (d:=.val (.int .u32 v)) (by
   rw[md_nat' hp0]
   have e1:(a:Int)^(p - 2)*a % p=1:=by
    have:(a:Int)^(p - 2)*a=((a^(p - 1):Nat):Int):=by
     rw[←Int.pow_succ,Int.natCast_pow,show(p - 2).succ=p - 1 from by omega]
    rw[this,←Int.natCast_emod,hfer];rfl
   have e2:(a:Int)^(p - 2) % p=((a:Int)^(p - 2)*(a*v)) % p:=by
    rw[Int.mul_emod,j4,←Int.mul_emod,Int.mul_one]
   rw[e2,←Int.mul_assoc,Int.mul_emod,e1,Int.one_mul,Int.emod_emod_of_dvd _ (Int.dvd_refl _),Int.emod_eq_of_lt j2 j3])
  have hlt:decide (v<(p:Int))=true:=decide_eq_true j3
  have hne:(((a % p:Nat):Int)==0)=false:=beq_eq_false_iff_ne.2 (fun h=>hd (Int.ofNat.inj h))
  refine callV (Z:=[]) tabOK mixedOK Tryz.func6 rfl (by kernel_rfl) rfl rfl (by kernel_rfl) rfl ?_
  intro W0 w0 ρ0 hE
  conv=>whnf
  (repeat((first|refine step_w1 rfl rfl ?_|refine And.intro (by first|decide|omega|(simp only[tl0,dlen,List.length_replicate,List.length_set,List.length_map,List.length_zipWith,List.length_take,List.length_append,List.length_cons,List.length_nil];omega)) ?_|refine g_c (by assumption) ?_|refine g_o (op_pickF rfl (ev_ok rfl) (ev_ok rfl)) ?_|rw[bne_self_eq_false]);conv=>whnf))
  rw[hrem]
  (repeat((first|refine step_w1 rfl rfl ?_|refine step_w2 rfl rfl ?_|refine step_i (by kernel_rfl) ?_|refine And.intro (by first|decide|omega|(simp only[tl0,dlen,List.length_replicate,List.length_set,List.length_map,List.length_zipWith,List.length_take,List.length_append,List.length_cons,List.length_nil];omega)) ?_|refine g_c (by assumption) ?_|refine g_o (op_pickF rfl (ev_ok rfl) (ev_ok rfl)) ?_|rw[bne_self_eq_false]);conv=>whnf))
  rw[hrem,hne]
  (repeat(first|(refine step_w1 rfl rfl ?_;conv=>whnf)|(refine step_w2 rfl rfl ?_;conv=>whnf)|(refine g_o (op_pickT rfl (ev_ok rfl) (ev_ok rfl)) ?_;conv=>whnf)))
  rw[hlt]
  (repeat((first|refine step_w1 rfl rfl ?_|refine g_c (by assumption) ?_|refine g_o (op_pickT rfl (ev_ok rfl) (ev_ok rfl)) ?_|rw[beq_self_eq_true]);conv=>whnf))
  rw[w1]
  (repeat((first|refine step_w1 rfl rfl ?_|refine g_c (by assumption) ?_|refine g_o (op_pickT rfl (ev_ok rfl) (ev_ok rfl)) ?_|rw[beq_self_eq_true]);conv=>whnf))
  rw[w2]
  (repeat((first|refine step_w1 rfl rfl ?_|refine g_c (by assumption) ?_|refine g_o (op_pickT rfl (ev_ok rfl) (ev_ok rfl)) ?_|rw[beq_self_eq_true]);conv=>whnf));exact Recast.refl _
theorem law_ModsField (a b c i:Int) (ha:0≤a∧a<4294967296) (hb:0≤b∧b<4294967296) (hc:0≤c∧c<4294967296) (hi:0≤i∧i<4294967296):
  CallOK Tryz.prog 6 [.val (.int .u32 a),.val (.int .u32 b),.val (.int .u32 c),.val (.int .u32 i)] [] (.val (.bool true)) [] []:=by
 obtain⟨a,rfl⟩:=Int.eq_ofNat_of_zero_le ha.1
 have hj:(i % 13).toNat<plist.length:=by show(i % 13).toNat<13;omega
 have hm:plist.getD (i % 13).toNat 0∈plist:=by
  rw[List.getD_eq_getElem?_getD,List.getElem?_eq_getElem hj]
  exact List.getElem_mem hj
 obtain⟨p,h1,h2,h3⟩:=plist_prime _ hm
 exact c_ModsField a b c i p h1 h2 h3 (by omega) hb hc hi
end Go.Proofs.YtjofnbpcanhfhaaGreatDoor
