/- The texts We. -/
import Derived.Test.YtjofnbpcanhfhaaGreatDoorQLModsKnown14
namespace Go.Proofs.YtjofnbpcanhfhaaGreatDoor
open Go.Sx
set_option linter.unusedSimpArgs false
set_option linter.unusedVariables false
set_option maxRecDepth 100000
set_option maxHeartbeats 4000000
theorem r6_Prime (n:Nat) (hn:n<4294967296):
  CallOK Tryz.prog 9 [.val (.int .u32 n)] [] (.val (.bool (primeF n))) [] []:=by
 refine callV (Z:=[]) tabOK mixedOK Tryz.func9 rfl (by kernel_rfl) rfl rfl (by kernel_rfl) rfl ?_
 intro W0 w0 ρ0 hE
 conv=>whnf
 refine SW_loopN hE (fun k=>k) [0,3] [] (fun m fr hp=>∃d,m=70000 - d∧2≤d∧d≤65537∧(∀e,2≤e→e<d→¬e ∣ n)∧fr=[(0,.val (.int .u32 (n:Nat))),(3,.val (.int .u64 (d:Nat)))]∧hp=[]) 69998 ?_ ?_ ?_
 ·kernel_rfl
 ·exact⟨2,rfl,by omega,by omega,fun e h0 h1=>by omega,rfl,rfl⟩
 rintro m _ _ ⟨d,rfl,hd2,hd,hT,rfl,rfl⟩
 have hdd:d*d≤65537*65537:=Nat.mul_le_mul hd hd
 have e1:IntKind.u64.wrap ((d:Int)*d)=((d*d:Nat):Int):=by rw[←Int.natCast_mul];exact wrap_u64 (by omega) (by omega)
 have e2:IntKind.u64.wrap (n:Int)=(n:Int):=wrap_u64 (by omega) (by omega)
 conv=>whnf
 rw[e1,e2]
 refine⟨fun h=> ?_,fun h=> ?_⟩
 ·have hle:d*d≤n:=by have:=of_decide_eq_true h;omega
  have hd':d≤65535:=by
   by_cases hx:d≤65535
   ·exact hx
   ·have:=Nat.mul_le_mul (show 65536≤d by omega) (show 65536≤d by omega);omega
  conv=>whnf
  rw[e2]
  refine⟨by omega, ?_⟩
  conv=>whnf
  have e3:(n:Int).tmod (d:Int)=((n % d:Nat):Int):=by rw[Int.tmod_eq_emod_of_nonneg (by omega)];rfl
  rw[e3]
  refine⟨fun h=> ?_,fun h=> ?_⟩
  ·have hz:n % d=0:=by have:=of_decide_eq_true h;omega
   conv=>whnf
   have e4:primeF n=false:=by
    cases hp:primeF n with
    |false=>rfl
    |true=>
     rcases((primeF_iff hn).1 hp).div d (Nat.dvd_of_mod_eq_zero hz)with e|e
     ·omega
     ·subst e
      have:=Nat.mul_le_mul_left d hd2
      omega
   rw[e4]
   exact Recast.refl _
  ·have hz:¬n % d=0:=by have:=of_decide_eq_false h;omega
   conv=>whnf
   rw[show IntKind.u64.wrap ((d:Int)+1)=((d+1:Nat):Int)from by rw[wrap_u64 (by omega) (by omega)];omega]
   refine⟨70000 - (d+1),fun k=>k,[0,3],[],by omega,by kernel_rfl,d+1,rfl,by omega,by omega,fun e h0 h1 hdv=> ?_,rfl,rfl⟩
   by_cases he:e=d
   ·subst he;exact hz (Nat.mod_eq_zero_of_dvd hdv)
   ·exact hT e h0 (by omega) hdv
 ·have hgt:n<d*d:=by have:=of_decide_eq_false h;omega
  conv=>whnf
  have e4:primeF n=decide ((n:Int)>1):=by
   rw[Bool.eq_iff_iff,primeF_iff hn,decide_eq_true_eq]
   constructor
   ·intro hp;have:=hp.two;omega
   ·intro h1;exact prime_of (by omega) hgt hT
  rw[e4]
  exact Recast.refl _
theorem r6_Next (n:Nat) (hn:n<4294967296):
  CallOK Tryz.prog 14 [.val (.int .u32 n)] [] (.tup [.val (.int .u32 (nextF (2147483648 - (n+1)) (n+1)).1),.val (.int .i64 (nextF (2147483648 - (n+1)) (n+1)).2)]) [] []:=by
 refine callV (Z:=[]) tabOK mixedOK Tryz.func14 rfl (by kernel_rfl) rfl rfl (by kernel_rfl) rfl ?_
 intro W0 w0 ρ0 hE
 conv=>whnf
 have e1:IntKind.u64.wrap (IntKind.u64.wrap (n:Int)+1)=((n+1:Nat):Int):=by rw[wrap_u64 (n:=(n:Int)) (by omega) (by omega),wrap_u64 (by omega) (by omega)];omega
 rw[e1]
 refine SW_loopN hE (fun k=>k) [4] [] (fun m fr hp=>∃q,m=2147483648 - q∧q≤4294967296∧nextF (2147483648 - q) q=nextF (2147483648 - (n+1)) (n+1)∧fr=[(4,.val (.int .u64 (q:Nat)))]∧hp=[]) (2147483648 - (n+1)) ?_ ?_ ?_
 ·kernel_rfl
 ·exact⟨n+1,rfl,by omega,rfl,rfl,rfl⟩
 rintro m _ _ ⟨q,rfl,hq0,hT,rfl,rfl⟩
 conv=>whnf
 refine⟨fun h=> ?_,fun h=> ?_⟩
 ·have hq:q<2147483648:=by have:=of_decide_eq_true h;omega
  rw[show 2147483648 - q=(2147483648 - (q+1))+1 from by omega]at hT
  simp only[nextF]at hT
  conv=>whnf
  have e2:IntKind.u32.wrap (q:Int)=q:=wrap_u32 (by omega) (by omega)
  rw[e2]
  refine⟨[],_,[],[],r6_Prime q (by omega),nil_fk,nil_new,nil_upd, ?_⟩
  conv=>whnf
  refine⟨fun h=> ?_,fun h=> ?_⟩
  ·rw[if_pos h]at hT
   conv=>whnf
   rw[e2,←hT]
   exact Recast.refl _
  ·rw[if_neg (by simp[h])]at hT
   conv=>whnf
   rw[show IntKind.u64.wrap ((q:Int)+1)=((q+1:Nat):Int)from by rw[wrap_u64 (by omega) (by omega)];omega]
   exact⟨2147483648 - (q+1),fun k=>k,[4],[],by omega,by kernel_rfl,q+1,rfl,by omega,hT,rfl,rfl⟩
 ·have hq:2147483648 - q=0:=by have:=of_decide_eq_false h;omega
  rw[hq]at hT
  simp only[nextF]at hT
  conv=>whnf
  rw[←hT]
  exact Recast.refl _
theorem c_ModsPrimes (n:Nat) (hn:n<4294967296):
  CallOK Tryz.prog 4 [.val (.int .u32 n)] [] (.val (.bool true)) [] []:=by
 have k1:=c_Next n hn
 have k2:=r6_Next n hn
 have k3:=c_Prime n hn
 have k4:=r6_Prime n hn
 have k5:=c_works
 generalize nextF (2147483648 - (n+1)) (n+1)=x at*
 generalize primeF n=y at*
 refine callV (Z:=[]) tabOK mixedOK Tryz.func4 rfl (by kernel_rfl) rfl rfl (by kernel_rfl) rfl ?_
 intro W0 w0 ρ0 hE
 conv=>whnf
 (repeat((first|refine step_w1 rfl rfl ?_|refine g_c (by assumption) ?_|refine g_o (op_pickT rfl (ev_ok rfl) (ev_ok rfl)) ?_|rw[beq_self_eq_true]);conv=>whnf));exact Recast.refl _
theorem law_ModsPrimes (n:Int) (w0:(Lit.int .u32 n).wf=true):
  CallOK Tryz.prog 4 [iel .u32 n] [] (.val (.bool true)) [] []:=by
 have h:=wf_u32 w0
 obtain⟨n,rfl⟩:=Int.eq_ofNat_of_zero_le h.1
 exact c_ModsPrimes n (by omega)
end Go.Proofs.YtjofnbpcanhfhaaGreatDoor
