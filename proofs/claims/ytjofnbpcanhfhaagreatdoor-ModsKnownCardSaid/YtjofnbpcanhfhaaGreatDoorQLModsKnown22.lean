/- The texts Fb, Dh, Ub, Ud. -/
import Derived.Test.YtjofnbpcanhfhaaGreatDoorQLModsKnown21
namespace Go.Proofs.YtjofnbpcanhfhaaGreatDoor
open Go.Sx
set_option linter.unusedSimpArgs false
set_option linter.unusedVariables false
set_option maxRecDepth 100000
set_option maxHeartbeats 4000000
variable {M:Nat}
theorem c_fFrom (ok:NatOK M) (n:Int) (d:Nat) (h1:sz n.natAbs≤M) (h2:sz d≤M) (hd:d≠0):CallOK Tryz.prog 49 [.int n,.nat d] [] (.tup [.frac (mkRat n d),.val (.int .i64 0)]) [] []:=by
 have k1:=c_lowest ok n d h1 h2 hd
 refine callV (Z:=[]) tabOK mixedOK Tryz.func49 rfl (by kernel_rfl) rfl rfl (by kernel_rfl) rfl ?_
 intro W0 w0 ρ0 hE
 conv=>whnf
 skip
 refine⟨_,op_eqAgg tabOK goodOK rfl (ev_ok rfl) (ev_ok rfl) rfl rfl rfl rfl (eqTy_nat d 0) guard_nat, ?_⟩
 rw[decide_eq_false hd]
 conv=>whnf
 (repeat(first|(refine step_w2 rfl rfl ?_;conv=>whnf)|(refine g_c (by assumption) ?_;conv=>whnf)));exact Recast.refl _
theorem c_Made (ok:NatOK M) (xs:List Int) (hl:xs.length<1099511627776) (hx:W32 xs) (hM:32*xs.length+33≤M):
  CallOK Tryz.prog 60 [ivec .u32 xs] [] (.nat (valI xs xs.length).toNat) [] []:=by
 refine callV (Z:=[]) tabOK mixedOK Tryz.func60 rfl (by kernel_rfl) rfl rfl (by kernel_rfl) rfl ?_
 intro W0 w0 ρ0 hE
 conv=>whnf
 have e0:Hid (IntKind.i64.wrap ((xs.length:Int) - 1)=(xs.length:Int) - 1):=show IntKind.i64.wrap ((xs.length:Int) - 1)=(xs.length:Int) - 1 from wrap_i64 (by omega) (by omega)
 (repeat(first|(refine g_o (op_lenM rfl rfl rfl (ev_ok rfl) (tgt rfl) rfl) ?_;conv=>whnf)|(rw[e0.out];conv=>whnf)))
 refine SW_loopN hE (fun k=>k) [0,2,3,4] [2,3] (fun j fr hp=>∃(o:Nat),j≤xs.length∧(o:Int)*4294967296^j+valI xs j=valI xs xs.length∧sz o≤32*(xs.length - j)∧
  fr=[(0,ivec .u32 xs),(2,.ptr 2 0 0 0),(3,.ptr 3 0 0 0),(4,.val (.int .i64 ((j:Int) - 1)))]∧hp=[(2,⟨51,true,.one [.nat 0]⟩),(3,⟨51,true,.one [.nat o]⟩)]) xs.length ?_ ?_ ?_
 ·kernel_rfl
 ·exact⟨0,Nat.le_refl _,by simp,by rw[sz_zero];omega,rfl,rfl⟩
 rintro j _ _ ⟨o,hj,hval,ho,rfl,rfl⟩
 by_cases h0:j=0
 ·subst h0
  have t1:Hid (decide (((0:Nat):Int) - 1≥0)=false):=show decide (((0:Nat):Int) - 1≥0)=false from rfl
  have e:(valI xs xs.length).toNat=o:=by rw[←hval,Int.pow_zero,valI];omega
  rw[e]
  conv=>whnf
  (repeat(first|(refine step_w2 rfl rfl ?_;conv=>whnf)))
  exact Recast.refl _
 ·obtain⟨k,rfl⟩:∃k,j=k+1:=⟨j - 1,by omega⟩
  obtain⟨w,hw⟩:=Int.eq_ofNat_of_zero_le (hx k).1
  have hw2:=(hx k).2
  have t1:Hid (decide (((k+1:Nat):Int) - 1≥0)=true):=show decide (((k+1:Nat):Int) - 1≥0)=true from decide_eq_true (by omega)
  have i1:Hid (((k+1:Nat):Int) - 1=(k:Int)):=show((k+1:Nat):Int) - 1=(k:Int)from by omega
  have i3:Hid (xs.getD k 0=(w:Int)):=show xs.getD k 0=(w:Int)from hw
  have i4:Hid (IntKind.u64.wrap (w:Int)=(w:Int)):=show IntKind.u64.wrap (w:Int)=(w:Int)from wu64 (by omega)
  have i5:Hid (IntKind.i64.wrap ((k:Int) - 1)=(k:Int) - 1):=show IntKind.i64.wrap ((k:Int) - 1)=(k:Int) - 1 from wrap_i64 (by omega) (by omega)
  have s33:sz 4294967296=33:=by kernel_rfl
  have k1:=c_nOf 4294967296 (by decide)
  have k2:=ok.mul o 4294967296 (by omega)
  have k3:=c_nOf w (by omega)
  have hs:sz (o*4294967296+w)≤32*(xs.length - k):=by
   refine sz_le.2 ?_
   have h1:=sz_le.1 ho
   have h2:2^(32*(xs.length - k))=2^(32*(xs.length - (k+1)))*4294967296:=by rw[show 32*(xs.length - k)=32*(xs.length - (k+1))+32 from by omega,Nat.pow_add]
   omega
  have k4:=ok.add (o*4294967296) w (by omega)
  conv=>whnf
  (repeat((first|refine step_w1 rfl rfl ?_|refine step_i (by kernel_rfl) ?_|refine g_c (by assumption) ?_|refine g_o (op_loadA rfl (ev_ok rfl) (tgt rfl) rfl (Nat.succ_ne_zero _) rfl) ?_|refine g_o (op_indexM (α:=Int) (d:=0) rfl (ev_ok rfl) (ev_ok rfl) (tgt rfl) rfl (tgt rfl) rfl (by omega)) ?_|rw[t1.out]|rw[i1.out]|rw[i3.out]|rw[i4.out]|rw[Int.toNat_natCast]);conv=>whnf))
  rw[i5.out]
  refine⟨k,fun k=>k,[0,2,3,4],[2,3],by omega,by kernel_rfl,o*4294967296+w,by omega, ?_,hs,rfl,rfl⟩
  rw[valI,hw,Int.pow_succ]at hval
  rw[←hval,Int.natCast_add,Int.natCast_mul]
  generalize (4294967296:Int)^k=P
  generalize valI xs k=v
  grind
abbrev zV:Bool×List Int→SV:=ag2 bel (ivec .u32)
def zI (z:Bool×List Int):Int:=signed z.1 (valI z.2 z.2.length).toNat
abbrev gV:(Bool×List Int)×List Int→SV:=ag2 zV (ivec .u32)
def gQ (g:(Bool×List Int)×List Int):Rat:=mkRat (zI g.1) ((valI g.2 g.2.length).toNat+1)
structure Words (M:Nat) (xs:List Int):Prop where
 w32:W32 xs
 len:xs.length<1099511627776
 fit:32*xs.length+33≤M
theorem c_ZOf (ok:NatOK M) (z:Bool×List Int) (h:Words M z.2):CallOK Tryz.prog 32 [zV z] [] (.int (zI z)) [] []:=by
 have k1:=c_Made ok z.2 h.len h.w32 h.fit
 have k2:=c_From z.1 (valI z.2 z.2.length).toNat
 refine callV (Z:=[]) tabOK mixedOK Tryz.func32 rfl (by kernel_rfl) rfl rfl (by kernel_rfl) rfl ?_
 intro W0 w0 ρ0 hE
 conv=>whnf
 (repeat(first|(refine step_i (by kernel_rfl) ?_;conv=>whnf)|(refine g_c (by assumption) ?_;conv=>whnf)))
 exact Recast.refl _
theorem sz_val {xs:List Int} (hx:W32 xs) (n:Nat):sz (valI xs n).toNat≤32*n:=by
 refine sz_le.2 ?_
 have h1:=valI_lt hx n
 have h2:=valI_nonneg hx n
 rw[←natPowW]at h1
 rw[Nat.pow_mul]
 have:(2:Nat)^32=4294967296:=rfl
 rw[this]
 omega
theorem sz_zI {z:Bool×List Int} (h:W32 z.2):sz (zI z).natAbs≤32*z.2.length:=by rw[zI,signed_abs];exact sz_val h _
theorem c_gden (g:(Bool×List Int)×List Int):CallOK Tryz.prog 52 [gV g] [] (zV (false,g.2)) [] []:=by
 refine callF (Z:=[]) tabOK mixedOK Tryz.func52 rfl (by kernel_rfl) (by first|rfl|(simp[keylessL,keyless,keylessL_map, *];done)) (by first|rfl|(simp[keylessL,keyless,keylessL_map, *];done)) (by kernel_rfl) rfl ?_
 intro w0 ρ0 hE
 conv=>whnf
 skip;(first|exact Recast.refl _|exact Frz.recast (Recast.refl _) rfl|(refine Frz.one rfl rfl ?_;skip)|(refine Frz.tup ?_;skip))
theorem c_GreatOf (ok:NatOK M) (g:(Bool×List Int)×List Int) (h1:Words M g.1.2) (h2:Words M g.2):CallOK Tryz.prog 28 [gV g] [] (.frac (gQ g)) [] []:=by
 have s1:=sz_zI h1.w32
 have s2:=sz_val h2.w32 g.2.length
 have f1:=h1.fit
 have f2:=h2.fit
 have k1:=c_ZOf ok g.1 h1
 have k2:=c_gden g
 have k3:=c_ZOf ok (false,g.2) h2
 have k4:=c_Abs (zI (false,g.2))
 rw[show(zI (false,g.2)).natAbs=(valI g.2 g.2.length).toNat from signed_abs _ _]at k4
 have k5:=c_nOf 1 (by decide)
 have hs1:sz ((valI g.2 g.2.length).toNat+1)≤M:=Nat.le_trans (sz_add (k:=32*g.2.length+1) (by omega) (by rw[sz_one];omega)) (by omega)
 have k6:=ok.add (valI g.2 g.2.length).toNat 1 hs1
 have k7:=c_fFrom ok (zI g.1) ((valI g.2 g.2.length).toNat+1) (by omega) hs1 (Nat.succ_ne_zero _)
 refine callV (Z:=[]) tabOK mixedOK Tryz.func28 rfl (by kernel_rfl) rfl rfl (by kernel_rfl) rfl ?_
 intro W0 w0 ρ0 hE
 conv=>whnf
 (repeat(first|(refine step_i (by kernel_rfl) ?_;conv=>whnf)|(refine g_c (by assumption) ?_;conv=>whnf)))
 exact Recast.refl _
end Go.Proofs.YtjofnbpcanhfhaaGreatDoor
namespace Go.Proofs.YtjofnbpcanhfhaaGreatDoor
open Go.Sx
set_option linter.unusedSimpArgs false
set_option linter.unusedVariables false
set_option maxRecDepth 100000
set_option maxHeartbeats 4000000
theorem gcd_mod_r (p a:Nat):Nat.gcd p (a % p)=Nat.gcd p a:=by rw[Nat.gcd_comm,←Nat.gcd_rec]
theorem ofFrac_spec {q:Rat} {p:Nat} (hp:p≠0):(Nat.gcd p q.den=1→(ofFracF q p).2=true∧0≤(ofFracF q p).1∧(ofFracF q p).1<p∧(p:Int) ∣ (ofFracF q p).1*q.den - q.num)∧(Nat.gcd p q.den≠1→ofFracF q p=(0,false)):=by
 have hm:mdN q.den p=q.den % p:=by simp[mdN,hp]
 obtain⟨h1,h2⟩:=invF_spec (a:=q.den % p) hp
 have hg:Nat.gcd p (q.den % p % p)=Nat.gcd p q.den:=by rw[gcd_mod_r,gcd_mod_r]
 rw[hg]at h1 h2
 have hpI:(p:Int)≠0:=by omega
 unfold ofFracF
 rw[hm]
 constructor
 ·intro h
  obtain⟨i1,i2,i3,i4⟩:=h1 h
  rw[if_pos i1]
  have hb:=md_lt (n:=md q.num p*(invF (q.den % p) p).1) (p:=p) (by omega) hpI
  refine⟨rfl,hb.1,hb.2, ?_⟩
  refine Int.dvd_of_emod_eq_zero ?_
  show(md (md q.num p*(invF (q.den % p) p).1) p*(q.den:Int) - q.num) % p=0
  rw[md_mulL,md_nat' hpI]
  generalize (invF (q.den % p) p).1=v at*
  rw[Int.sub_emod,Int.mul_emod,emod_cong,←Int.mul_emod,Int.mul_assoc]
  have e:(v*(q.den:Int)) % p=1 % p:=by
   have:((q.den % p:Nat):Int)=(q.den:Int) % p:=by simp
   rw[this]at i4
   rw[Int.mul_comm,←i4]
   exact mul_cong (emod_cong _ _).symm rfl
  rw[mul_cong (x:=q.num) (x':=q.num) rfl e,Int.mul_one,Int.sub_self];rfl
 ·intro h
  rw[h2 h];rfl
theorem coprime_dvd {p a b:Nat} (h:Nat.gcd p b=1) (hd:a ∣ b):Nat.gcd p a=1:=by
 have h1:Nat.gcd p a ∣ Nat.gcd p b:=Nat.gcd_dvd_gcd_of_dvd_right p hd
 rw[h]at h1
 exact Nat.dvd_one.1 h1
theorem coprime_mul {p a b:Nat} (h:Nat.gcd p a=1) (h':Nat.gcd p b=1):Nat.gcd p (a*b)=1:=Nat.Coprime.mul_right (show Nat.Coprime p a from h) h'
theorem ofFrac_unique {q:Rat} {p:Nat} (hp:p≠0) {v N:Int} {D:Nat} (hg:Nat.gcd p q.den=1) (hD:Nat.gcd p D=1) (hq:q.num*D=N*q.den) (h0:0≤v) (h1:v<p) (hv:(p:Int) ∣ v*D - N):(ofFracF q p).1=v:=by
 obtain⟨_,w0,w1,w2⟩:=(ofFrac_spec (q:=q) hp).1 hg
 generalize (ofFracF q p).1=w at*
 have hd:(p:Int) ∣ (w - v)*((D*q.den:Nat):Int):=by
  have h2:(w - v)*((D*q.den:Nat):Int)=(w*q.den - q.num)*D - (v*D - N)*q.den:=by
   rw[Int.natCast_mul]
   have:=hq
   grind
  rw[h2]
  exact Int.dvd_sub (Int.dvd_mul_of_dvd_left w2) (Int.dvd_mul_of_dvd_left hv)
 have hc:=coprime_mul hD hg
 have hd2:p ∣ (w - v).natAbs:=by
  have h3:=Int.natAbs_dvd_natAbs.2 hd
  rw[Int.natAbs_mul,Int.natAbs_natCast,Int.natAbs_natCast]at h3
  exact(show Nat.Coprime p (D*q.den)from hc).dvd_of_dvd_mul_right h3
 rcases Nat.eq_zero_or_pos (w - v).natAbs with h4|h4
 ·omega
 ·have:=Nat.le_of_dvd h4 hd2
  omega
theorem num_den_mkRat {N:Int} {D:Nat} (hD:D≠0):(mkRat N D).num*D=N*(mkRat N D).den∧(mkRat N D).den ∣ D:=by
 refine⟨?_, ?_⟩
 ·have:=(Rat.mkRat_eq_iff hD (mkRat N D).den_nz).1 (Rat.mkRat_self (mkRat N D)).symm
  exact this.symm
 ·rw[den_mkRat hD]
  exact Nat.div_dvd_of_dvd (Nat.gcd_dvd_right _ _)
theorem ofFrac_add {a b:Rat} {p:Nat} (hp:p≠0) (ha:(ofFracF a p).2=true) (hb:(ofFracF b p).2=true):(ofFracF (a+b) p).2=true∧(ofFracF (a+b) p).1=md ((ofFracF a p).1+(ofFracF b p).1) p:=by
 have ga:Nat.gcd p a.den=1:=Classical.byContradiction fun h=>by rw[(ofFrac_spec hp).2 h]at ha;cases ha
 have gb:Nat.gcd p b.den=1:=Classical.byContradiction fun h=>by rw[(ofFrac_spec hp).2 h]at hb;cases hb
 obtain⟨_,_,_,a3⟩:=(ofFrac_spec (q:=a) hp).1 ga
 obtain⟨_,_,_,b3⟩:=(ofFrac_spec (q:=b) hp).1 gb
 obtain⟨e1,e2⟩:=num_den_mkRat (N:=a.num*b.den+b.num*a.den) (Nat.mul_ne_zero a.den_nz b.den_nz)
 rw[←Rat.add_def']at e1 e2
 have gm:=coprime_mul ga gb
 have gs:=coprime_dvd gm e2
 have hpI:(p:Int)≠0:=by omega
 refine⟨((ofFrac_spec hp).1 gs).1, ?_⟩
 have hbd:=md_lt (n:=(ofFracF a p).1+(ofFracF b p).1) (p:=p) (by omega) hpI
 refine ofFrac_unique hp gs gm e1 hbd.1 hbd.2 ?_
 rw[md_nat' hpI]
 generalize (ofFracF a p).1=r at*
 generalize (ofFracF b p).1=s at*
 obtain⟨u,hu⟩:=a3
 obtain⟨w,hw⟩:=b3
 have hm:=Int.mul_ediv_add_emod (r+s) p
 refine⟨u*b.den+w*a.den - ((r+s)/p)*(a.den*b.den), ?_⟩
 rw[Int.natCast_mul]
 generalize (r+s)/(p:Int)=t at*
 generalize (r+s) % (p:Int)=m at*
 grind
theorem ofFrac_mul {a b:Rat} {p:Nat} (hp:p≠0) (ha:(ofFracF a p).2=true) (hb:(ofFracF b p).2=true):(ofFracF (a*b) p).2=true∧(ofFracF (a*b) p).1=md ((ofFracF a p).1*(ofFracF b p).1) p:=by
 have ga:Nat.gcd p a.den=1:=Classical.byContradiction fun h=>by rw[(ofFrac_spec hp).2 h]at ha;cases ha
 have gb:Nat.gcd p b.den=1:=Classical.byContradiction fun h=>by rw[(ofFrac_spec hp).2 h]at hb;cases hb
 obtain⟨_,_,_,a3⟩:=(ofFrac_spec (q:=a) hp).1 ga
 obtain⟨_,_,_,b3⟩:=(ofFrac_spec (q:=b) hp).1 gb
 obtain⟨e1,e2⟩:=num_den_mkRat (N:=a.num*b.num) (Nat.mul_ne_zero a.den_nz b.den_nz)
 rw[←Rat.mul_def']at e1 e2
 have gm:=coprime_mul ga gb
 have gs:=coprime_dvd gm e2
 have hpI:(p:Int)≠0:=by omega
 refine⟨((ofFrac_spec hp).1 gs).1, ?_⟩
 have hbd:=md_lt (n:=(ofFracF a p).1*(ofFracF b p).1) (p:=p) (by omega) hpI
 refine ofFrac_unique hp gs gm e1 hbd.1 hbd.2 ?_
 rw[md_nat' hpI]
 generalize (ofFracF a p).1=r at*
 generalize (ofFracF b p).1=s at*
 obtain⟨u,hu⟩:=a3
 obtain⟨w,hw⟩:=b3
 have hm:=Int.mul_ediv_add_emod (r*s) p
 refine⟨u*(s*b.den)+w*a.num - ((r*s)/p)*(a.den*b.den), ?_⟩
 rw[Int.natCast_mul]
 generalize (r*s)/(p:Int)=t at*
 generalize (r*s) % (p:Int)=m at*
 grind
theorem ofFrac_p0 (q:Rat):ofFracF q 0=(0,false):=by simp[ofFracF,invF]
end Go.Proofs.YtjofnbpcanhfhaaGreatDoor
namespace Go.Proofs.YtjofnbpcanhfhaaGreatDoor
open Go.Sx
set_option linter.unusedSimpArgs false
set_option linter.unusedVariables false
set_option maxRecDepth 100000
set_option maxHeartbeats 4000000
theorem r6_Of (n p:Int) (h1:0≤n) (h3:0≤p) (h4:p<4294967296):
  CallOK Tryz.prog 18 [.val (.int .u64 n),.val (.int .u32 p)] [] (.val (.int .u32 (md n p))) [] []:=by
 refine callV (Z:=[]) tabOK mixedOK Tryz.func18 rfl (by kernel_rfl) rfl rfl (by kernel_rfl) rfl ?_
 intro W0 w0 ρ0 hE
 conv=>whnf
 refine⟨fun h=> ?_,fun h=> ?_⟩
 ·conv=>whnf
  have h:p=0:=by simpa using h
  simp only[md,h,if_true]
  exact Recast.refl _
 ·conv=>whnf
  have h:p≠0:=by simpa using h
  have e1:IntKind.u64.wrap p=p:=wrap_u64 h3 (by omega)
  refine⟨by rw[e1];exact h, ?_⟩
  conv=>whnf
  rw[e1,Int.tmod_eq_emod_of_nonneg h1,wrap_u32 (Int.emod_nonneg _ h) (by have:=Int.emod_lt_of_pos n (show 0<p by omega);omega)]
  simp only[md,h,if_false]
  exact Recast.refl _
theorem md_subs (a b p:Int) (h3:0≤p):md (a - b) p=if md b p≤md a p then md a p - md b p else p - md b p+md a p:=by
 unfold md
 by_cases h:p=0
 ·simp[h]
 ·simp only[h,if_false]
  have a1:=Int.emod_nonneg a h
  have a2:=Int.emod_lt_of_pos a (show 0<p by omega)
  have b1:=Int.emod_nonneg b h
  have b2:=Int.emod_lt_of_pos b (show 0<p by omega)
  rw[Int.sub_emod]
  generalize a % p=x at*
  generalize b % p=y at*
  split
  ·exact Int.emod_eq_of_lt (by omega) (by omega)
  ·rw[show x - y=(p - y+x) - p from by omega,Int.sub_emod_right]
   exact Int.emod_eq_of_lt (by omega) (by omega)
theorem r6_Sub (a b p:Int) (ha:0≤a) (ha':a<4294967296) (hb:0≤b) (hb':b<4294967296) (h3:0≤p) (h4:p<4294967296):
  CallOK Tryz.prog 20 [.val (.int .u32 a),.val (.int .u32 b),.val (.int .u32 p)] [] (.val (.int .u32 (md (a - b) p))) [] []:=by
 have k1:=r6_Of a p ha h3 h4
 have k2:=r6_Of b p hb h3 h4
 have a1:=md_bd (n:=a) h3
 have b1:=md_bd (n:=b) h3
 rw[md_subs a b p h3]
 have e1:IntKind.u64.wrap a=a:=wrap_u64 ha (by omega)
 have e2:IntKind.u64.wrap b=b:=wrap_u64 hb (by omega)
 have e0:IntKind.u64.wrap p=p:=wrap_u64 h3 (by omega)
 generalize md a p=x at*
 generalize md b p=y at*
 by_cases h:y≤x
 ·have t1:decide (x≥y)=true:=decide_eq_true h
  rw[if_pos h]
  have e3:IntKind.u32.wrap (x - y)=x - y:=wrap_u32 (by omega) (by omega)
  refine callV (Z:=[]) tabOK mixedOK Tryz.func20 rfl (by kernel_rfl) rfl rfl (by kernel_rfl) rfl ?_
  intro W0 w0 ρ0 hE
  conv=>whnf
  (repeat((first|refine step_w1 rfl rfl ?_|refine g_c (by assumption) ?_|rw[t1]|rw[e1]|rw[e2]|rw[e3]);conv=>whnf));(first|exact Recast.refl _|exact Frz.recast (Recast.refl _) rfl|(refine Frz.one rfl rfl ?_;skip)|(refine Frz.tup ?_;skip))
 ·have t1:decide (x≥y)=false:=decide_eq_false h
  rw[if_neg h]
  have e3:IntKind.u64.wrap y=y:=wrap_u64 (by omega) (by omega)
  have e4:IntKind.u64.wrap x=x:=wrap_u64 (by omega) (by omega)
  have e5:IntKind.u64.wrap (p - y)=p - y:=wrap_u64 (by omega) (by omega)
  have e6:IntKind.u64.wrap (p - y+x)=p - y+x:=wrap_u64 (by omega) (by omega)
  have e7:IntKind.u32.wrap (p - y+x)=p - y+x:=wrap_u32 (by omega) (by omega)
  refine callV (Z:=[]) tabOK mixedOK Tryz.func20 rfl (by kernel_rfl) rfl rfl (by kernel_rfl) rfl ?_
  intro W0 w0 ρ0 hE
  conv=>whnf
  (repeat((first|refine step_w2 rfl rfl ?_|refine g_c (by assumption) ?_|rw[t1]|rw[e0]|rw[e1]|rw[e2]|rw[e3]|rw[e4]|rw[e5]|rw[e6]|rw[e7]);conv=>whnf));(first|exact Recast.refl _|exact Frz.recast (Recast.refl _) rfl|(refine Frz.one rfl rfl ?_;skip)|(refine Frz.tup ?_;skip))
theorem invF_unique {a p:Nat} (hp:p≠0) {v:Int} (hg:Nat.gcd p (a % p)=1) (h0:0≤v) (h1:v<p) (hv:(p:Int) ∣ a*v - 1):invF a p=(v,true):=by
 obtain⟨w2,w0,w1,w3⟩:=(invF_spec (a:=a) hp).1 hg
 have hw:(p:Int) ∣ a*(invF a p).1 - 1:=by
  refine Int.dvd_of_emod_eq_zero ?_
  rw[Int.sub_emod,w3,Int.sub_self];rfl
 generalize invF a p=iv at*
 obtain⟨w,b⟩:=iv
 simp only[]at w0 w1 w2 w3 hw
 have hd:(p:Int) ∣ v - w:=by
  have e:v - w=w*(a*v - 1) - v*(a*w - 1):=by grind
  rw[e]
  exact Int.dvd_sub (Int.dvd_mul_of_dvd_right hv) (Int.dvd_mul_of_dvd_right hw)
 have:v - w=0:=Int.eq_zero_of_dvd_of_natAbs_lt_natAbs hd (by omega)
 rw[show w=v from by omega,w2]
theorem bit_u64 {Q:Nat} (hq:Q<18446744073709551616):IntKind.u64.wrap ((Q:Int).tmod 2)=((Q % 2:Nat):Int)∧(Q:Int).tmod 2=((Q % 2:Nat):Int):=by
 have e:(Q:Int).tmod 2=((Q % 2:Nat):Int):=by rw[Int.tmod_eq_emod_of_nonneg (by omega)];rfl
 refine⟨?_,e⟩
 rw[e]
 exact wrap_u64 (by omega) (by omega)
theorem md_sq (a p:Int) (n:Nat):md (md (a^n) p*md (a^n) p) p=md (a^(2*n)) p:=by
 rw[md_mul,←Int.pow_add,Nat.two_mul]
theorem md_step (a p:Int) (n:Nat):md (md (a^n) p*md a p) p=md (a^(n+1)) p:=by
 rw[md_mul,Int.pow_succ]
theorem r6_Pow (a p:Int) (n:Nat) (ha:0≤a) (ha':a<4294967296) (hn:n<18446744073709551616) (h3:0≤p) (h4:p<4294967296):
  CallOK Tryz.prog 23 [.val (.int .u32 a),.val (.int .u64 n),.val (.int .u32 p)] [] (.val (.int .u32 (md (a^n) p))) [] []:=by
 have k0:=r6_Of 1 p (by omega) h3 h4
 have k1:=r6_Of a p ha h3 h4
 have e1:IntKind.u64.wrap a=a:=wrap_u64 ha (by omega)
 have z0:md 1 p=md (a^(n/2^64)) p:=by rw[show n/2^64=0 from Nat.div_eq_of_lt hn,Int.pow_zero]
 rw[z0]at k0
 refine callV (Z:=[]) tabOK mixedOK Tryz.func23 rfl (by kernel_rfl) rfl rfl (by kernel_rfl) rfl ?_
 intro W0 w0 ρ0 hE
 conv=>whnf
 (repeat(first|(refine g_c (by assumption) ?_;conv=>whnf)))
 refine SW_loopN hE (fun k=>k) [0,1,2,7,8] [] (fun m fr hp=>m≤64∧fr=[(0,.val (.int .u32 a)),(1,.val (.int .u64 n)),(2,.val (.int .u32 p)),(7,.val (.int .u32 (md (a^(n/2^m)) p))),(8,.val (.int .i64 ((m:Int) - 1)))]∧hp=[]) 64 ?_ ?_ ?_
 ·kernel_rfl
 ·exact⟨Nat.le_refl _,rfl,rfl⟩
 rintro m _ _ ⟨hm,rfl,rfl⟩
 conv=>whnf
 by_cases h0:m=0
 ·subst h0
  have t1:decide (((0:Nat):Int) - 1≥0)=false:=rfl
  have e:md (a^n) p=md (a^(n/2^0)) p:=by rw[Nat.pow_zero,Nat.div_one]
  rw[e]
  (repeat(first|(refine step_w2 rfl rfl ?_;conv=>whnf)));(first|exact Recast.refl _|exact Frz.recast (Recast.refl _) rfl|(refine Frz.one rfl rfl ?_;skip)|(refine Frz.tup ?_;skip))
 ·obtain⟨i,rfl⟩:∃i,m=i+1:=⟨m - 1,by omega⟩
  have ei:(((i+1:Nat):Int) - 1)=(i:Int):=by omega
  rw[ei]
  have t1:decide ((i:Int)≥0)=true:=decide_eq_true (by omega)
  have e2:ishr .u64 (n:Int) (i:Int)=((n/2^i:Nat):Int):=ishr_nat .u64 (x:=n) (s:=i) (by show i≤64;omega)
  have hst:n/2^i=2*(n/2^(i+1))+n/2^i % 2:=by
   have:n/2^(i+1)=n/2^i/2:=by rw[Nat.div_div_eq_div_mul,Nat.pow_succ]
   omega
  have hq:n/2^i<18446744073709551616:=Nat.lt_of_le_of_lt (Nat.div_le_self _ _) hn
  have b0:=md_bds (n:=a^(n/2^(i+1))) h3 h4
  have b1:=md_bds (n:=a) h3 h4
  have b2:=md_bds (n:=a^(2*(n/2^(i+1)))) h3 h4
  have s0:=md_sq a p (n/2^(i+1))
  have s1:=md_step a p (2*(n/2^(i+1)))
  have e9:IntKind.i64.wrap ((i:Int) - 1)=(i:Int) - 1:=wrap_i64 (by omega) (by omega)
  have hfin0:n/2^i % 2=0→md (a^(2*(n/2^(i+1)))) p=md (a^(n/2^i)) p:=fun h=>by
   have h2:n/2^i=2*(n/2^(i+1)):=by omega
   rw[h2]
  have hfin1:n/2^i % 2=1→md (a^(2*(n/2^(i+1))+1)) p=md (a^(n/2^i)) p:=fun h=>by
   have h2:n/2^i=2*(n/2^(i+1))+1:=by omega
   rw[h2]
  clear hst
  have e3:IntKind.u64.wrap (((n/2^i:Nat):Int).tmod 2)=((n/2^i % 2:Nat):Int):=(bit_u64 hq).1
  have e3':((n/2^i:Nat):Int).tmod 2=((n/2^i % 2:Nat):Int):=(bit_u64 hq).2
  have hbit:n/2^i % 2<2:=Nat.mod_lt _ (by decide)
  have hlast:md (a^(n/2^i)) p=md (a^(n/2^i)) p:=rfl
  generalize n/2^i % 2=bit at*
  generalize md (a^(n/2^(i+1))) p=x at*
  generalize md a p=y at*
  generalize md (a^(2*(n/2^(i+1)))) p=xx at*
  generalize md (a^(2*(n/2^(i+1))+1)) p=xy at*
  have m0:0≤x*x:=Int.mul_nonneg b0.1 b0.1
  have m1:x*x≤4294967295*4294967295:=Int.mul_le_mul (by omega) (by omega) b0.1 (by omega)
  have m2:0≤xx*y:=Int.mul_nonneg b2.1 b1.1
  have m3:xx*y≤4294967295*4294967295:=Int.mul_le_mul (by omega) (by omega) b1.1 (by omega)
  have k2:=r6_Of (x*x) p m0 h3 h4
  rw[s0]at k2
  have k3:=r6_Of (xx*y) p m2 h3 h4
  rw[s1]at k3
  have e4:IntKind.u64.wrap x=x:=wrap_u64 b0.1 (by omega)
  have e5:IntKind.u64.wrap (x*x)=x*x:=wrap_u64 m0 (by omega)
  have e6:IntKind.u64.wrap xx=xx:=wrap_u64 b2.1 (by omega)
  have e7:IntKind.u64.wrap y=y:=wrap_u64 b1.1 (by omega)
  have e8:IntKind.u64.wrap (xx*y)=xx*y:=wrap_u64 m2 (by omega)
  clear m0 m1 m2 m3 s0 s1
  by_cases hb:bit=1
  ·have t2:(((bit:Nat):Int)==1)=true:=beq_iff_eq.2 (by omega)
   have hf:=hfin1 hb
   clear hfin0 hfin1
   (repeat((first|refine step_w1 rfl rfl ?_|refine step_oM (by first|omega|decide|(simp only[tl0,dlen,List.length_replicate,List.length_set,List.length_map,List.length_zipWith,List.length_take,List.length_append,List.length_cons,List.length_nil];omega)) ?_|refine step_oN (by first|omega|decide|(simp only[tl0,dlen,List.length_replicate,List.length_set,List.length_map,List.length_zipWith,List.length_take,List.length_append,List.length_cons,List.length_nil];omega)) ?_|refine g_c (by assumption) ?_|rw[t1]|rw[e4]|rw[e5]|rw[e2]|rw[e3']|rw[t2]|rw[e6]|rw[e1]|rw[e7]|rw[e8]|rw[e9]);conv=>whnf))
   exact⟨i,fun k=>k,[0,1,2,7,8],[],by omega,by kernel_rfl,by omega,by rw[hf];rfl,rfl⟩
  ·have t2:(((bit:Nat):Int)==1)=false:=beq_false_of_ne (by omega)
   have hf:=hfin0 (by omega)
   clear hfin0 hfin1
   (repeat((first|refine step_w1 rfl rfl ?_|refine step_w2 rfl rfl ?_|refine step_oM (by first|omega|decide|(simp only[tl0,dlen,List.length_replicate,List.length_set,List.length_map,List.length_zipWith,List.length_take,List.length_append,List.length_cons,List.length_nil];omega)) ?_|refine step_oN (by first|omega|decide|(simp only[tl0,dlen,List.length_replicate,List.length_set,List.length_map,List.length_zipWith,List.length_take,List.length_append,List.length_cons,List.length_nil];omega)) ?_|refine g_c (by assumption) ?_|rw[t1]|rw[e4]|rw[e5]|rw[e2]|rw[e3']|rw[t2]|rw[e9]);conv=>whnf))
   exact⟨i,fun k=>k,[0,1,2,7,8],[],by omega,by kernel_rfl,by omega,by rw[hf];rfl,rfl⟩
theorem r6_OfInt (z p:Int) (hz:(td z.natAbs).length<134217728) (h3:0≤p) (h4:p<4294967296):
  CallOK Tryz.prog 33 [zZ z,.val (.int .u32 p)] [] (.val (.int .u32 (md z p))) [] []:=by
 by_cases h0:p=0
 ·subst h0
  have t1:((0:Int)==0)=true:=rfl
  rw[show md z 0=0 from rfl]
  refine callV (Z:=[]) tabOK mixedOK Tryz.func33 rfl (by kernel_rfl) rfl rfl (by kernel_rfl) rfl ?_
  intro W0 w0 ρ0 hE
  conv=>whnf
  (repeat(first|(refine step_w1 rfl rfl ?_;conv=>whnf)));(first|exact Recast.refl _|exact Frz.recast (Recast.refl _) rfl|(refine Frz.one rfl rfl ?_;skip)|(refine Frz.tup ?_;skip))
 have t1:(p==0)=false:=beq_false_of_ne h0
 have e1:IntKind.i64.wrap p=p:=wrap_i64 (by omega) (by omega)
 have k1:=r2_Of p (by omega) (by omega)
 have hpl:(td p.natAbs).length<134217728:=Nat.lt_of_le_of_lt (tlen_le (k:=3) (by omega)) (by decide)
 have k2:=r2_Div z p h0 hz hpl
 have b0:=Int.emod_nonneg z h0
 have b1:=Int.emod_lt_of_pos z (show 0<p by omega)
 rw[md_nat' h0]
 generalize z % p=R at*
 obtain⟨r,rfl⟩:=Int.eq_ofNat_of_zero_le b0
 have hrl:(td r).length≤3:=tlen_le (by omega)
 have er:(Int.natAbs (r:Int))=r:=Int.natAbs_natCast r
 refine callV (Z:=[2]) tabOK mixedOK Tryz.func33 rfl (by kernel_rfl) rfl rfl (by kernel_rfl) rfl ?_
 intro W0 w0 ρ0 hE
 conv=>whnf
 have e2:IntKind.i64.wrap (((td r).length:Int) - 1)=((td r).length:Int) - 1:=wrap_i64 (by omega) (by omega)
 (repeat((first|refine step_w2 rfl rfl ?_|refine step_i (by kernel_rfl) ?_|refine g_c (by assumption) ?_|refine g_o (op_lenM rfl rfl rfl (ev_ok rfl) (tgt rfl) rfl) ?_|refine g_o (op_loadA rfl (ev_ok rfl) (tgt rfl) rfl (Nat.succ_ne_zero _) rfl) ?_|rw[t1]|rw[e1]|rw[e2]|rw[er]|rw[Nat.zero_add]);conv=>whnf))
 refine SW_loopN hE (fun k=>k) [1,6,7,8] [5,6] (fun m fr hp=>m≤(td r).length∧fr=[(1,.val (.int .u32 p)),(6,.ptr 6 0 0 0),(7,.val (.int .u64 ((r/10000^m:Nat):Int))),(8,.val (.int .i64 ((m:Int) - 1)))]∧hp=[(5,⟨63,true,.one [.val (.bool (decide (z/p<0))),nN (z/p).natAbs]⟩),(6,⟨63,true,.one [.val (.bool (decide ((r:Int)<0))),nN r]⟩)]) (td r).length ?_ ?_ ?_
 ·kernel_rfl
 ·refine⟨Nat.le_refl _, ?_,rfl⟩
  rw[Nat.div_eq_of_lt (tlt_len r)];rfl
 rintro m _ _ ⟨hm,rfl,rfl⟩
 conv=>whnf
 by_cases hz0:m=0
 ·subst hz0
  have t2:decide (((0:Nat):Int) - 1≥0)=false:=rfl
  have e3:IntKind.u32.wrap ((r/10000^0:Nat):Int)=(r:Int):=by rw[Nat.pow_zero,Nat.div_one];exact wrap_u32 (by omega) (by omega)
  (repeat(first|(refine step_w2 rfl rfl ?_;conv=>whnf)|(rw[e3];conv=>whnf)));(first|exact Recast.refl _|exact Frz.recast (Recast.refl _) rfl|(refine Frz.one rfl rfl ?_;skip)|(refine Frz.tup ?_;skip))
 ·obtain⟨i,rfl⟩:∃i,m=i+1:=⟨m - 1,by omega⟩
  have ei:(((i+1:Nat):Int) - 1)=(i:Int):=by omega
  rw[ei]
  have hst:=div_pow_step r i
  have hdig:(td r).getD i 0=((r/10000^i % 10000:Nat):Int):=td_get r i
  have hdlt:r/10000^i % 10000<10000:=Nat.mod_lt _ (by decide)
  have hle:r/10000^(i+1)≤r:=Nat.div_le_self _ _
  have t2:decide ((i:Int)≥0)=true:=decide_eq_true (by omega)
  generalize r/10000^i % 10000=d at*
  generalize r/10000^(i+1)=q at*
  have e3:IntKind.u64.wrap ((q:Int)*10000)=(q:Int)*10000:=wrap_u64 (by omega) (by omega)
  have e4:IntKind.u64.wrap (d:Int)=(d:Int):=wrap_u64 (by omega) (by omega)
  have e5:IntKind.u64.wrap ((q:Int)*10000+d)=((10000*q+d:Nat):Int):=by rw[wrap_u64 (by omega) (by omega)];omega
  have e6:IntKind.i64.wrap ((i:Int) - 1)=(i:Int) - 1:=wrap_i64 (by omega) (by omega)
  (repeat((first|refine step_w1 rfl rfl ?_|refine g_o (op_loadA rfl (ev_ok rfl) (tgt rfl) rfl (Nat.succ_ne_zero _) rfl) ?_|refine g_o (op_indexN (α:=Int) (d:=0) rfl (ev_ok rfl) (ev_ok rfl) (tgt rfl) rfl (tgt rfl) rfl (by omega)) ?_|rw[t2]|rw[hdig]|rw[e3]|rw[e4]|rw[e5]|rw[e6]|rw[Nat.zero_add]);conv=>whnf))
  exact⟨i,fun k=>k,[1,6,7,8],[5,6],by omega,by kernel_rfl,by omega,by rw[hst];rfl,rfl⟩
theorem r6_Inv (a p:Nat) (ha:a<4294967296) (hp:p<4294967296):
  CallOK Tryz.prog 16 [.val (.int .u32 a),.val (.int .u32 p)] [] (.tup [.val (.int .u32 (invF a p).1),.val (.bool (invF a p).2)]) [] []:=by
 by_cases h0:p=0
 ·subst h0
  have t1:(((0:Nat):Int)==0)=true:=rfl
  have e:invF a 0=(0,false):=by simp[invF]
  rw[e]
  refine callV (Z:=[]) tabOK mixedOK Tryz.func16 rfl (by kernel_rfl) rfl rfl (by kernel_rfl) rfl ?_
  intro W0 w0 ρ0 hE
  conv=>whnf
  (repeat(first|(refine step_w1 rfl rfl ?_;conv=>whnf)));(first|exact Recast.refl _|exact Frz.recast (Recast.refl _) rfl|(refine Frz.one rfl rfl ?_;skip)|(refine Frz.tup ?_;skip))
 have t1:((p:Int)==0)=false:=beq_false_of_ne (by omega)
 by_cases h1:p=1
 ·subst h1
  have t2:(((1:Nat):Int)==1)=true:=rfl
  have e:invF a 1=(0,true):=invF_unique (by decide) (Nat.gcd_one_left _) (by decide) (by decide) ⟨(a:Int)*0 - 1,by simp⟩
  rw[e]
  refine callV (Z:=[]) tabOK mixedOK Tryz.func16 rfl (by kernel_rfl) rfl rfl (by kernel_rfl) rfl ?_
  intro W0 w0 ρ0 hE
  conv=>whnf
  (repeat(first|(refine step_w1 rfl rfl ?_;conv=>whnf)|(refine step_w2 rfl rfl ?_;conv=>whnf)));(first|exact Recast.refl _|exact Frz.recast (Recast.refl _) rfl|(refine Frz.one rfl rfl ?_;skip)|(refine Frz.tup ?_;skip))
 have t2:((p:Int)==1)=false:=beq_false_of_ne (by omega)
 have hm:md (a:Int) p=((a % p:Nat):Int):=by rw[md_nat' (by omega)];rfl
 have k1:=r6_Of (a:Int) p (by omega) (by omega) (by omega)
 rw[hm]at k1
 have hlt:a % p<p:=Nat.mod_lt _ (by omega)
 have hd:=Nat.div_add_mod a p
 obtain⟨g1,g2,g3,g4⟩:=gqF_spec (p+1) ((a % p:Nat):Int) p (by omega) (by omega) (by omega)
 have hgg:Int.gcd ((a % p:Nat):Int) (p:Int)=Nat.gcd p (a % p):=Nat.gcd_comm (a % p) p
 rw[hgg]at g1
 have k4:=r2_Gcd (p+1) ((a % p:Nat):Int) p (by omega) (by omega) (by omega) (by omega) (by omega)
 have hI:Nat.gcd p (a % p)=1→∀v:Int,v=(gqF (p+1) ((a % p:Nat):Int) p).2.1→invF a p=(md v p,true):=by
  intro hg v hv
  rw[hg]at g1
  rw[g1,←hv]at g2
  rw[md_nat' (by omega)]
  refine invF_unique h0 hg (Int.emod_nonneg _ (by omega)) (Int.emod_lt_of_pos _ (by omega)) ?_
  have hx:=Int.mul_ediv_add_emod v p
  refine⟨((a/p:Nat):Int)*v - (gqF (p+1) ((a % p:Nat):Int) p).2.2 - a*(v/p), ?_⟩
  generalize (gqF (p+1) ((a % p:Nat):Int) p).2.2=y at*
  have hd':(p:Int)*((a/p:Nat):Int)+((a % p:Nat):Int)=a:=by rw[←Int.natCast_mul,←Int.natCast_add,hd]
  generalize v/(p:Int)=vq at*
  generalize v % (p:Int)=vr at*
  generalize ((a/p:Nat):Int)=aq at*
  generalize ((a % p:Nat):Int)=ar at*
  generalize (a:Int)=A at*
  generalize (p:Int)=P at*
  clear k1 k4 g3 g4 hm hv
  grind
 have hgl:Nat.gcd p (a % p)≤p:=Nat.le_of_dvd (by omega) (Nat.gcd_dvd_left _ _)
 have hN:=(invF_spec (a:=a) h0).2
 generalize hgn:Nat.gcd p (a % p)=gn at*
 generalize gqF (p+1) ((a % p:Nat):Int) p=gg at*
 obtain⟨g,x,y⟩:=gg
 simp only[]at g1 g2 g3 g4 hI
 subst g1
 have e1:IntKind.u64.wrap (a:Int)=a:=wrap_u64 (by omega) (by omega)
 have e2:IntKind.i64.wrap ((a % p:Nat):Int)=((a % p:Nat):Int):=wrap_i64 (by omega) (by omega)
 have e3:IntKind.i64.wrap (p:Int)=p:=wrap_i64 (by omega) (by omega)
 have k2:=r2_Of ((a % p:Nat):Int) (by omega) (by omega)
 have k3:=r2_Of (p:Int) (by omega) (by omega)
 have k5:=r2_Of 1 (by decide) (by decide)
 have hl:(td gn).length<536870912:=Nat.lt_of_le_of_lt (tlen_le (k:=3) (by omega)) (by decide)
 have k6:=r2_Cmp (gn:Int) 1 hl (by decide)
 have hxl:(td x.natAbs).length<134217728:=Nat.lt_of_le_of_lt (tlen_le (k:=3) (by omega)) (by decide)
 have k7:=r6_OfInt x p hxl (by omega) (by omega)
 by_cases hg:gn=1
 ·have t3:(((gn:Int) - 1).sign != 0)=false:=by subst hg;rfl
  rw[hI hg x rfl]
  generalize a % p=ar at*
  clear hI hN
  refine callV (Z:=[]) tabOK mixedOK Tryz.func16 rfl (by kernel_rfl) rfl rfl (by kernel_rfl) rfl ?_
  intro W0 w0 ρ0 hE
  conv=>whnf
  (repeat((first|refine step_w2 rfl rfl ?_|refine step_i (by kernel_rfl) ?_|refine g_c (by assumption) ?_|rw[t1]|rw[t2]|rw[e1]|rw[e2]|rw[e3]|rw[t3]);conv=>whnf));(first|exact Recast.refl _|exact Frz.recast (Recast.refl _) rfl|(refine Frz.one rfl rfl ?_;skip)|(refine Frz.tup ?_;skip))
 ·have t3:(((gn:Int) - 1).sign != 0)=true:=bne_iff_ne.2 (fun h=>hg (by have:=Int.sign_eq_zero_iff_zero.1 h;omega))
  rw[hN hg]
  generalize a % p=ar at*
  clear hI hN
  refine callV (Z:=[]) tabOK mixedOK Tryz.func16 rfl (by kernel_rfl) rfl rfl (by kernel_rfl) rfl ?_
  intro W0 w0 ρ0 hE
  conv=>whnf
  (repeat((first|refine step_w1 rfl rfl ?_|refine step_w2 rfl rfl ?_|refine step_i (by kernel_rfl) ?_|refine g_c (by assumption) ?_|rw[t1]|rw[t2]|rw[e1]|rw[e2]|rw[e3]|rw[t3]);conv=>whnf));(first|exact Recast.refl _|exact Frz.recast (Recast.refl _) rfl|(refine Frz.one rfl rfl ?_;skip)|(refine Frz.tup ?_;skip))
theorem r6_OfFrac (q:Rat) (p:Nat) (hq:fs q<100000000) (hp:p<4294967296):
  CallOK Tryz.prog 29 [fF q,.val (.int .u32 p)] [] (.tup [.val (.int .u32 (ofFracF q p).1),.val (.bool (ofFracF q p).2)]) [] []:=by
 obtain⟨a1,a2⟩:=tl_fs (q:=q) (Nat.le_refl _)
 have k1:=r3_Den q (by omega)
 have k2:=r2_From' (neg:=false) (n:=q.den) (z:=(q.den:Int)) rfl (by omega)
 have k3:=r6_OfInt q.den p (by rw[Int.natAbs_natCast];omega) (by omega) (by omega)
 rw[md_nat]at k3
 have k4:=r6_Inv (mdN q.den p) p (mdN_le hp) hp
 have k5:=r6_OfInt q.num p (by omega) (by omega) (by omega)
 obtain⟨b1,b2⟩:=invF_bd (a:=mdN q.den p) hp
 have h5:=md_bd (n:=q.num) (p:=p) (by omega)
 have hr:ofFracF q p=if (invF (mdN q.den p) p).2 then(md (md q.num p*(invF (mdN q.den p) p).1) p,true)else(0,false):=rfl
 rw[hr]
 generalize invF (mdN q.den p) p=iv at*
 obtain⟨v,b⟩:=iv
 simp only[]at b1 b2
 generalize md q.num p=x at*
 have h6:0≤x*v:=Int.mul_nonneg h5.1 b1
 have h7:x*v≤4294967295*4294967295:=Int.mul_le_mul (by omega) (by omega) b1 (by omega)
 have k6:=r6_Of (x*v) p h6 (by omega) (by omega)
 have e1:IntKind.u64.wrap x=x:=wrap_u64 h5.1 (by omega)
 have e2:IntKind.u64.wrap v=v:=wrap_u64 b1 (by omega)
 have e3:IntKind.u64.wrap (x*v)=x*v:=wrap_u64 h6 (by omega)
 clear h6 h7
 refine callV (Z:=[2]) tabOK mixedOK Tryz.func29 rfl (by kernel_rfl) rfl rfl (by kernel_rfl) rfl ?_
 intro W0 w0 ρ0 hE
 conv=>whnf
 cases b
 ·(repeat(first|(refine step_w1 rfl rfl ?_;conv=>whnf)|(refine g_c (by assumption) ?_;conv=>whnf)|(refine g_o (op_loadA rfl (ev_ok rfl) (tgt rfl) rfl (Nat.succ_ne_zero _) rfl) ?_;conv=>whnf)));(first|exact Recast.refl _|exact Frz.recast (Recast.refl _) rfl|(refine Frz.one rfl rfl ?_;skip)|(refine Frz.tup ?_;skip))
 ·(repeat((first|refine step_w2 rfl rfl ?_|refine g_c (by assumption) ?_|refine g_o (op_loadA rfl (ev_ok rfl) (tgt rfl) rfl (Nat.succ_ne_zero _) rfl) ?_|refine g_o (op_fieldA rfl (ev_ok rfl) (tgt rfl) rfl rfl (Nat.succ_ne_zero _) rfl) ?_|rw[e1]|rw[e2]|rw[e3]);conv=>whnf));(first|exact Recast.refl _|exact Frz.recast (Recast.refl _) rfl|(refine Frz.one rfl rfl ?_;skip)|(refine Frz.tup ?_;skip))
end Go.Proofs.YtjofnbpcanhfhaaGreatDoor
namespace Go.Proofs.YtjofnbpcanhfhaaGreatDoor
open Go.Sx
set_option linter.unusedSimpArgs false
set_option linter.unusedVariables false
set_option maxRecDepth 100000
set_option maxHeartbeats 4000000
theorem md_sub (a b p:Int):md (md a p+p - md b p) p=md (a - b) p:=by
 unfold md
 by_cases h:p=0
 ·simp[h]
 ·simp only[h,if_false]
  rw[show a % p+p - b % p=(a % p - b % p)+p from by omega,Int.add_emod_right,←Int.sub_emod]
theorem c_ModsSums (a b p n:Nat) (ha:a<4294967296) (hb:b<4294967296) (hp:p<4294967296) (hn:n<18446744073709551616):
  CallOK Tryz.prog 5 [.val (.int .u32 a),.val (.int .u32 b),.val (.int .u32 p),.val (.int .u64 n)] [] (.val (.bool true)) [] []:=by
 have k1:=c_Inv a p ha hp
 have k2:=r6_Inv a p ha hp
 have k3:=c_Add a b p (by omega) (by omega) (by omega) (by omega) (by omega) (by omega)
 have k4:=r6_Of ((a:Int)+b) p (by omega) (by omega) (by omega)
 have k5:=c_Sub a b p (by omega) (by omega) (by omega) (by omega) (by omega) (by omega)
 rw[md_sub]at k5
 have k6:=r6_Sub a b p (by omega) (by omega) (by omega) (by omega) (by omega) (by omega)
 have k7:=c_Mul a b p (by omega) (by omega) (by omega) (by omega) (by omega) (by omega)
 have h6:0≤(a:Int)*b:=Int.mul_nonneg (by omega) (by omega)
 have h7:(a:Int)*b≤4294967295*4294967295:=Int.mul_le_mul (by omega) (by omega) (by omega) (by omega)
 have k8:=r6_Of ((a:Int)*b) p h6 (by omega) (by omega)
 have k9:=c_Pow a p n (by omega) (by omega) hn (by omega) (by omega)
 have k10:=r6_Pow a p n (by omega) (by omega) hn (by omega) (by omega)
 have kw:=c_works
 have e1:IntKind.u64.wrap (a:Int)=a:=wrap_u64 (by omega) (by omega)
 have e2:IntKind.u64.wrap (b:Int)=b:=wrap_u64 (by omega) (by omega)
 have e3:IntKind.u64.wrap ((a:Int)+b)=(a:Int)+b:=wrap_u64 (by omega) (by omega)
 have e4:IntKind.u64.wrap ((a:Int)*b)=(a:Int)*b:=wrap_u64 h6 (by omega)
 generalize invF a p=iv at*
 obtain⟨v,o⟩:=iv
 generalize md ((a:Int)+b) p=s1 at*
 generalize md ((a:Int) - b) p=s2 at*
 generalize md ((a:Int)*b) p=s3 at*
 generalize md ((a:Int)^n) p=s4 at*
 clear h6 h7
 have t1:(s1==s1)=true:=beq_self_eq_true _
 have t2:(s2==s2)=true:=beq_self_eq_true _
 have t3:(s3==s3)=true:=beq_self_eq_true _
 have t4:(s4==s4)=true:=beq_self_eq_true _
 have t5:(v==v)=true:=beq_self_eq_true _
 have t6:(o==o)=true:=beq_self_eq_true _
 refine callV (Z:=[]) tabOK mixedOK Tryz.func5 rfl (by kernel_rfl) rfl rfl (by kernel_rfl) rfl ?_
 intro W0 w0 ρ0 hE
 conv=>whnf
 (repeat((first|refine step_w1 rfl rfl ?_|refine g_c (by assumption) ?_|refine g_o (op_pickT rfl (ev_ok rfl) (ev_ok rfl)) ?_|rw[beq_self_eq_true]|rw[e1]|rw[e2]|rw[e3]|rw[e4]);conv=>whnf));(first|exact Recast.refl _|exact Frz.recast (Recast.refl _) rfl|(refine Frz.one rfl rfl ?_;skip)|(refine Frz.tup ?_;skip))
theorem law_ModsSums (a b p n:Int) (w0:(Lit.int .u32 a).wf=true) (w1:(Lit.int .u32 b).wf=true) (w2:(Lit.int .u32 p).wf=true) (w3:(Lit.int .u64 n).wf=true):
  CallOK Tryz.prog 5 [iel .u32 a,iel .u32 b,iel .u32 p,iel .u64 n] [] (.val (.bool true)) [] []:=by
 obtain⟨a0,a1⟩:=wf_u32 w0
 obtain⟨b0,b1⟩:=wf_u32 w1
 obtain⟨p0,p1⟩:=wf_u32 w2
 obtain⟨n0,n1⟩:=wf_u64 w3
 obtain⟨a,rfl⟩:=Int.eq_ofNat_of_zero_le a0
 obtain⟨b,rfl⟩:=Int.eq_ofNat_of_zero_le b0
 obtain⟨p,rfl⟩:=Int.eq_ofNat_of_zero_le p0
 obtain⟨n,rfl⟩:=Int.eq_ofNat_of_zero_le n0
 exact c_ModsSums a b p n (by omega) (by omega) (by omega) (by omega)
end Go.Proofs.YtjofnbpcanhfhaaGreatDoor
