/- The texts De. -/
import Derived.Test.YtjofnbpcanhfhaaGreatDoorQLModsKnown18
namespace Go.Proofs.YtjofnbpcanhfhaaGreatDoor
open Go.Sx
set_option linter.unusedSimpArgs false
set_option linter.unusedVariables false
set_option maxRecDepth 100000
set_option maxHeartbeats 4000000
theorem md_mul (x y p:Int):md (md x p*md y p) p=md (x*y) p:=by
 unfold md
 by_cases h:p=0
 ·simp[h]
 ·simp only[h,if_false];rw[←Int.mul_emod]
theorem md_pow (x p:Int) (n:Nat):md (md x p^n) p=md (x^n) p:=by
 unfold md
 by_cases h:p=0
 ·simp[h]
 ·simp only[h,if_false]
  exact pow_cong (emod_cong _ _) n
theorem md_bds {n p:Int} (h3:0≤p) (h4:p<4294967296):0≤md n p∧md n p<4294967296:=by
 have:=md_bd (n:=n) h3;omega
theorem ishr_u32 (m:Nat):ishr .u32 (m:Int) 1=((m/2:Nat):Int):=ishr_nat .u32 (s:=1) (by decide)
theorem c_ModsPowers (a b p:Int) (m n:Nat) (ha:0≤a) (ha':a<4294967296) (hb:0≤b) (hb':b<4294967296) (h3:0≤p) (h4:p<4294967296) (hm:m<4294967296) (hn:n<4294967296):
  CallOK Tryz.prog 7 [.val (.int .u32 a),.val (.int .u32 b),.val (.int .u32 p),.val (.int .u32 m),.val (.int .u32 n)] [] (.val (.bool true)) [] []:=by
 have e1:IntKind.u64.wrap ((m/2:Nat):Int)=((m/2:Nat):Int):=wrap_u64 (by omega) (by omega)
 have e2:IntKind.u64.wrap ((n/2:Nat):Int)=((n/2:Nat):Int):=wrap_u64 (by omega) (by omega)
 have hx:m/2<2147483648:=by omega
 have hy:n/2<2147483648:=by omega
 have f1:=ishr_u32 m
 have f2:=ishr_u32 n
 generalize m/2=x at*
 generalize n/2=y at*
 have e3:IntKind.u64.wrap ((x:Int)+y)=((x+y:Nat):Int):=wrap_u64 (by omega) (by omega)
 have hxy:x*y<4611686018427387904:=by
  have:=Nat.mul_le_mul (show x≤2147483647 by omega) (show y≤2147483647 by omega);omega
 have e4:IntKind.u64.wrap ((x:Int)*y)=((x*y:Nat):Int):=by rw[←Int.natCast_mul];exact wrap_u64 (by omega) (by omega)
 have b1:=md_bds (n:=a^x) h3 h4
 have b2:=md_bds (n:=a^y) h3 h4
 have b3:=md_bds (n:=b^x) h3 h4
 have b4:=md_bds (n:=a*b) h3 h4
 have k1:=(c_Pow a p (x+y) ha ha' (by omega) h3 h4)
 have k2:=c_Pow a p x ha ha' (by omega) h3 h4
 have k3:=c_Pow a p y ha ha' (by omega) h3 h4
 have k4:=(c_Mul (md (a^x) p) (md (a^y) p) p b1.1 b1.2 b2.1 b2.2 h3 h4).res (d:=.val (.int .u32 (md (a^(x+y)) p))) (by rw[md_mul,Int.pow_add])
 have k5:=c_Mul a b p ha ha' hb hb' h3 h4
 have k6:=(c_Pow (md (a*b) p) p x b4.1 b4.2 (by omega) h3 h4).res (d:=.val (.int .u32 (md ((a*b)^x) p))) (by rw[md_pow])
 have k7:=c_Pow b p x hb hb' (by omega) h3 h4
 have k8:=(c_Mul (md (a^x) p) (md (b^x) p) p b1.1 b1.2 b3.1 b3.2 h3 h4).res (d:=.val (.int .u32 (md ((a*b)^x) p))) (by rw[md_mul,Int.mul_pow])
 have k9:=(c_Pow (md (a^x) p) p y b1.1 b1.2 (by omega) h3 h4).res (d:=.val (.int .u32 (md (a^(x*y)) p))) (by rw[md_pow,Int.pow_mul])
 have k10:=(c_Pow a p (x*y) ha ha' (by omega) h3 h4)
 have k11:=c_works
 refine callV (Z:=[]) tabOK mixedOK Tryz.func7 rfl (by kernel_rfl) rfl rfl (by kernel_rfl) rfl ?_
 intro W0 w0 ρ0 hE
 conv=>whnf
 (repeat(first|(refine And.intro (by first|decide|omega|(simp only[tl0,dlen,List.length_replicate,List.length_set,List.length_map,List.length_zipWith,List.length_take,List.length_append,List.length_cons,List.length_nil];omega)) ?_;conv=>whnf)))
 rw[f1,f2,e1,e2,e3]
 (repeat((first|refine step_w1 rfl rfl ?_|refine g_c (by assumption) ?_|refine g_o (op_pickT rfl (ev_ok rfl) (ev_ok rfl)) ?_|rw[beq_self_eq_true]);conv=>whnf))
 rw[e4]
 (repeat((first|refine step_w1 rfl rfl ?_|refine g_c (by assumption) ?_|refine g_o (op_pickT rfl (ev_ok rfl) (ev_ok rfl)) ?_|rw[beq_self_eq_true]);conv=>whnf));exact Recast.refl _
theorem law_ModsPowers (a b p m n:Int) (ha:0≤a∧a<4294967296) (hb:0≤b∧b<4294967296) (hp:0≤p∧p<4294967296) (hm:0≤m∧m<4294967296) (hn:0≤n∧n<4294967296):
  CallOK Tryz.prog 7 [.val (.int .u32 a),.val (.int .u32 b),.val (.int .u32 p),.val (.int .u32 m),.val (.int .u32 n)] [] (.val (.bool true)) [] []:=by
 obtain⟨m,rfl⟩:=Int.eq_ofNat_of_zero_le hm.1
 obtain⟨n,rfl⟩:=Int.eq_ofNat_of_zero_le hn.1
 exact c_ModsPowers a b p m n ha.1 ha.2 hb.1 hb.2 hp.1 hp.2 (by omega) (by omega)
end Go.Proofs.YtjofnbpcanhfhaaGreatDoor
