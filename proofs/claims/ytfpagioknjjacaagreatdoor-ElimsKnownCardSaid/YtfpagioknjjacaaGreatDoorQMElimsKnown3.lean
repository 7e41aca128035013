/- The texts Cg, Da, Db, Ch, Ck, Cm, Cl, Ea, Eb, Ec, Ed, Ee, Ef, Eg, Eh, Ei, Fa. -/
import Derived.Laws.Externs
import Derived.Shelf.Abstract
import Derived.Test.YtfpagioknjjacaaGreatDoorQMElimsKnown2
namespace Go.Proofs.YtfpagioknjjacaaGreatDoor
open Go.Sx
set_option linter.unusedSimpArgs false
set_option linter.unusedVariables false
set_option maxRecDepth 100000
theorem pC:Tryz.prog.eqGuardType Tryz.prog.depth 46=false:=av
theorem EJ:Tryz.prog.eqGuardType Tryz.prog.depth 48=false:=av
theorem rX (a b:Nat):vG A7 ez 10 46 (bR a) (bR b)=some (decide (a=b)):=by
 rw[←nB,←Bool.and_true (low a==low b&&_),Bool.and_assoc]
 rfl
theorem Hy (a b:Nat):vG A7 ez 10 48 (bR a) (bR b)=some (decide (a=b)):=by
 have:vG A7 ez 10 48 (bR a) (bR b)=some (((low a==low b)&&(((qg a).toList==(qg b).toList)&&true))&&true):=rfl
 rw[this,Bool.and_true,Bool.and_true,nB]
theorem Gb (n:Nat) (hn:n<18446744073709551616):ab Tryz.prog 176 [.val (.int .u64 n)] [] (.nat n) [] []:=by
 refine bT [] Tryz.func176 ?_
 intro W0 w0 ρ0 hE
 conv=>whnf
 exact fj (l:=bR n) (by rw[kB hn];rfl) rfl (fun _ h=>by cases h)
theorem vS (n:Nat):ab Tryz.prog 279 [.nat n] [] (.val (.bool (decide (n=0)))) [] []:=by
 refine bT [] Tryz.func279 ?_
 intro W0 w0 ρ0 hE
 conv=>whnf
 refine⟨_,fh aJ cy rfl (ak rfl) (ak rfl) rfl rfl rfl rfl (rX n 0) pC, ?_⟩
 conv=>whnf
 exact au.refl _
theorem Gc (n:Nat):ab Tryz.prog 276 [.nat n] [] (.val (.bool (decide (n=0)))) [] []:=by
 refine bT [] Tryz.func276 ?_
 intro W0 w0 ρ0 hE
 conv=>whnf
 refine⟨_,fh aJ cy rfl (ak rfl) (ak rfl) rfl rfl rfl rfl (Hy n 0) EJ, ?_⟩
 conv=>whnf
 exact au.refl _
theorem JN (z:Int):ab Tryz.prog 179 [.int z] [] (.nat z.natAbs) [] []:=by
 refine bT [] Tryz.func179 ?_
 intro W0 w0 ρ0 hE
 conv=>whnf
 exact fj (l:=bR z.natAbs) rfl rfl (fun _ h=>by cases h)
theorem dq (n:Nat):((qg n).toList==(ByteArray.mk #[]).toList)=decide (n<18446744073709551616):=by
 rw[Bool.eq_iff_iff,show(ByteArray.mk #[]).toList=[]from by rw[ByteArray.toList_eq]]
 simp[mL]
def signed (neg:Bool) (n:Nat):Int:=if neg then -(n:Int)else n
theorem ml (neg:Bool) (n:Nat):ab Tryz.prog 177 [.val (.bool neg),.nat n] [] (.int (signed neg n)) [] []:=by
 refine bT [] Tryz.func177 ?_
 intro W0 w0 ρ0 hE
 cases neg
 ·conv=>whnf
  refine⟨(fun h=>by cases h),fun _=> ?_⟩
  conv=>whnf
  refine⟨(fun h=>by cases h),fun _=> ?_⟩
  conv=>whnf
  refine⟨(fun h=>by cases h),fun _=> ?_⟩
  conv=>whnf
  refine⟨.val (.bool false),[],[],[],l7 rfl (ak rfl) (fun hb=>by cases hb) (fun _=>ak rfl) rfl (c1:=.any),aM,aA,ar, ?_⟩
  conv=>whnf
  refine⟨av, ?_⟩
  conv=>whnf
  refine fj (l:=dW (signed false n)) ?_ rfl (fun _ h=>by cases h)
  have e1:(signed false n).natAbs=n:=by simp[signed]
  have e2:decide (signed false n<0)=false:=by simp[signed]
  rw[dW,e1,e2]
  rfl
 ·conv=>whnf
  refine⟨fun _=> ?_,fun h=>by cases h⟩
  conv=>whnf
  refine⟨fun _=> ?_,fun h=>by cases h⟩
  conv=>whnf
  refine⟨[],_,[],[],Gc n,aM,aA,ar, ?_⟩
  conv=>whnf
  refine⟨fun _=> ?_,fun h=>by cases h⟩
  conv=>whnf
  refine⟨.val (.bool (!decide (n=0))),[],[],[],l7 rfl (ak rfl) (fun _=>ak rfl) (fun hb=>by cases hb) rfl (c2:=.any),aM,aA,ar, ?_⟩
  conv=>whnf
  refine⟨av, ?_⟩
  conv=>whnf
  refine fj (l:=dW (signed true n)) ?_ rfl (fun _ h=>by cases h)
  have e1:(signed true n).natAbs=n:=by simp[signed]
  have e2:decide (signed true n<0)= !decide (n=0):=by rw[Bool.eq_iff_iff];simp[signed];omega
  rw[dW,e1,e2]
  rfl
theorem JO (z:Int):ab Tryz.prog 174 [.int z] [] (.val (.int .i64 z.sign)) [] []:=by
 refine bT [] Tryz.func174 ?_
 intro W0 w0 ρ0 hE
 conv=>whnf
 refine⟨[],_,[],[],Gc z.natAbs,aM,aA,ar, ?_⟩
 conv=>whnf
 refine⟨fun h=> ?_,fun h=> ?_⟩
 ·have hz:z=0:=by have:=of_decide_eq_true h;omega
  conv=>whnf
  subst hz
  exact au.refl _
 ·have hz:z≠0:=by have:=of_decide_eq_false h;omega
  conv=>whnf
  refine⟨fun h=> ?_,fun h=> ?_⟩
  ·have hz:z.sign= -1:=Int.sign_eq_neg_one_of_neg (of_decide_eq_true h)
   conv=>whnf
   rw[hz]
   exact au.refl _
  ·have hz:z.sign=1:=Int.sign_eq_one_of_pos (by have:=of_decide_eq_false h;omega)
   conv=>whnf
   rw[hz]
   exact au.refl _
theorem abF (z:Int):ab Tryz.prog 236 [.int z] [] (.int (-z)) [] []:=by
 refine bT [] Tryz.func236 ?_
 intro W0 w0 ρ0 hE
 conv=>whnf
 refine⟨[],_,[],[],ml (!decide (z<0)) z.natAbs,aM,aA,ar, ?_⟩
 have e:signed (!decide (z<0)) z.natAbs= -z:=by
  unfold signed
  by_cases h:z<0<;>simp[h]<;>omega
 rw[e]
 conv=>whnf
 exact au.refl _
theorem abG (z:Int) (h0: -9223372036854775808≤z) (h1:z<9223372036854775808):ab Tryz.prog 105 [.val (.int .i64 z)] [] (.int z) [] []:=by
 refine bT [] Tryz.func105 ?_
 intro W0 w0 ρ0 hE
 conv=>whnf
 refine⟨fun h=> ?_,fun h=> ?_⟩
 ·have hz:=of_decide_eq_true h
  conv=>whnf
  have e1:IntKind.u64.wrap (0 - IntKind.u64.wrap z)=((z.natAbs:Nat):Int):=by rw[pA,pA];omega
  rw[e1]
  refine⟨[],_,[],[],Gb z.natAbs aa,aM,aA,ar, ?_⟩
  conv=>whnf
  refine⟨[],_,[],[],ml true z.natAbs,aM,aA,ar, ?_⟩
  have e:signed true z.natAbs=z:=by simp[signed];omega
  rw[e]
  conv=>whnf
  exact au.refl _
 ·have hz:=of_decide_eq_false h
  conv=>whnf
  have e1:IntKind.u64.wrap z=((z.natAbs:Nat):Int):=by rw[pA];omega
  rw[e1]
  refine⟨[],_,[],[],Gb z.natAbs aa,aM,aA,ar, ?_⟩
  conv=>whnf
  refine⟨[],_,[],[],ml false z.natAbs,aM,aA,ar, ?_⟩
  have e:signed false z.natAbs=z:=by simp[signed];omega
  rw[e]
  conv=>whnf
  exact au.refl _
set_option maxHeartbeats 2000000
structure mR (M:Nat):Prop where
 qg:64≤M
 cmp:∀a b,sz a≤M→sz b≤M→ab Tryz.prog 182 [.nat a,.nat b] [] (.val (.int .i64 ((a:Int) - b).sign)) [] []
 add:∀a b,sz (a+b)≤M→ab Tryz.prog 297 [.nat a,.nat b] [] (.nat (a+b)) [] []
 sub:∀a b,sz a≤M→b≤a→ab Tryz.prog 296 [.nat a,.nat b] [] (.ck [.nat (a - b),.val (.bool true)]) [] []
 X9:∀a b,sz b≤M→a<b→ab Tryz.prog 296 [.nat a,.nat b] [] (.ck [.nat 0,.val (.bool false)]) [] []
 mul:∀a b,sz a+sz b≤M→ab Tryz.prog 209 [.nat a,.nat b] [] (.nat (a*b)) [] []
 div:∀a b,sz a≤M→sz b≤M→b≠0→ab Tryz.prog 280 [.nat a,.nat b] [] (.ck [.nat (a/b),.nat (a % b),.val (.bool true)]) [] []
 abH:∀a,ab Tryz.prog 280 [.nat a,.nat 0] [] (.ck [.nat 0,.nat 0,.val (.bool false)]) [] []
 gcd:∀a b,sz a≤M→sz b≤M→ab Tryz.prog 178 [.nat a,.nat b] [] (.nat (Nat.gcd a b)) [] []
variable {M:Nat}
theorem kI (s:Bool) (n:Nat):(signed s n).natAbs=n:=by cases s<;>simp[signed]
theorem Ya (ok:mR M) (a b:Int) (ha:sz a.natAbs<M) (hb:sz b.natAbs<M):
  ab Tryz.prog 283 [.int a,.int b] [] (.int (a+b)) [] []:=by
 have hs:sz (a.natAbs+b.natAbs)≤M:=by
  have:=xi (k:=M - 1) (show sz a.natAbs≤M - 1 by omega) (show sz b.natAbs≤M - 1 by omega)
  omega
 refine bT [] Tryz.func283 ?_
 intro W0 w0 ρ0 hE
 conv=>whnf
 refine⟨fun h1=> ?_,fun h1=> ?_⟩
 ·have h1:decide (a<0)=decide (b<0):=by simpa using h1
  conv=>whnf
  refine⟨[],_,[],[],(ok.add _ _ hs),aM,aA,ar, ?_⟩;conv=>whnf
  have e:signed (decide (a<0)) (a.natAbs+b.natAbs)=a+b:=by
   have:=decide_eq_decide.1 h1
   unfold signed
   by_cases h:a<0<;>simp[h]<;>omega
  have:=ml (decide (a<0)) (a.natAbs+b.natAbs)
  rw[e]at this
  refine⟨[],_,[],[],(this),aM,aA,ar, ?_⟩;conv=>whnf
  (repeat(first|(refine aq av ?_;conv=>whnf)));exact au.refl _
 ·have h1:¬(a<0↔b<0):=by
   intro h2
   simp[h2]at h1
  conv=>whnf
  by_cases rY:b.natAbs≤a.natAbs
  ·refine⟨[],_,[],[],(ok.sub a.natAbs b.natAbs aa rY),aM,aA,ar, ?_⟩;conv=>whnf
   (repeat(first|(refine ag rfl rfl ?_;conv=>whnf)))
   have e:signed (decide (a<0)) (a.natAbs - b.natAbs)=a+b:=by
    unfold signed
    by_cases h:a<0<;>simp[h]<;>omega
   have:=ml (decide (a<0)) (a.natAbs - b.natAbs)
   rw[e]at this
   refine⟨[],_,[],[],(this),aM,aA,ar, ?_⟩;conv=>whnf
   skip;exact au.refl _
  ·refine⟨[],_,[],[],(ok.X9 a.natAbs b.natAbs aa aa),aM,aA,ar, ?_⟩;conv=>whnf
   (repeat(first|(refine ae rfl rfl ?_;conv=>whnf)))
   refine⟨[],_,[],[],(ok.sub b.natAbs a.natAbs aa aa),aM,aA,ar, ?_⟩;conv=>whnf
   have e:signed (decide (b<0)) (b.natAbs - a.natAbs)=a+b:=by
    unfold signed
    by_cases h:b<0<;>simp[h]<;>omega
   have:=ml (decide (b<0)) (b.natAbs - a.natAbs)
   rw[e]at this
   refine⟨[],_,[],[],(this),aM,aA,ar, ?_⟩;conv=>whnf
   skip;exact au.refl _
theorem JP (f:FuncId) (a b c:Int) (hc:ab Tryz.prog f [.int a,.int b] [] (.int c) [] []):
  ab Tryz.prog 270 [.clo f [] [],.int a,.int b] [] (.int c) [] []:=by
 refine bT [] Tryz.func270 ?_
 intro W0 w0 ρ0 hE
 conv=>whnf
 refine⟨[],_,[],[],(hc),aM,aA,ar, ?_⟩;conv=>whnf
 skip;exact au.refl _
theorem EK (ok:mR M) (a b:Int) (ha:sz a.natAbs<M) (hb:sz b.natAbs<M):
  ab Tryz.prog 181 [.int a,.int b] [] (.int (a+b)) [] []:=by
 refine bT [] Tryz.func181 ?_
 intro W0 w0 ρ0 hE
 conv=>whnf
 refine⟨[],_,[],[],(JP _ a b _ (Ya ok a b ha hb)),aM,aA,ar, ?_⟩;conv=>whnf
 skip;exact au.refl _
theorem xq (a b:Int):signed (decide (a<0) != decide (b<0)) (a.natAbs*b.natAbs)=a*b:=by
 unfold signed
 rw[Int.natCast_mul]
 by_cases h1:a<0<;>by_cases h2:b<0
 ·rw[show(a.natAbs:Int)= -a from aa,show(b.natAbs:Int)= -b from by omega];simp[h1,h2,Int.neg_mul_neg]
 ·rw[show(a.natAbs:Int)= -a from aa,show(b.natAbs:Int)=b from by omega];simp[h1,h2,Int.neg_mul]
 ·rw[show(a.natAbs:Int)=a from aa,show(b.natAbs:Int)= -b from by omega];simp[h1,h2,Int.mul_neg]
 ·rw[show(a.natAbs:Int)=a from aa,show(b.natAbs:Int)=b from by omega];simp[h1,h2]
theorem ND (ok:mR M) (a b:Int) (h:sz a.natAbs+sz b.natAbs≤M):
  ab Tryz.prog 271 [.int a,.int b] [] (.int (a*b)) [] []:=by
 refine bT [] Tryz.func271 ?_
 intro W0 w0 ρ0 hE
 conv=>whnf
 refine⟨[],_,[],[],(ok.mul _ _ h),aM,aA,ar, ?_⟩;conv=>whnf
 have:=ml (decide (a<0) != decide (b<0)) (a.natAbs*b.natAbs)
 rw[xq]at this
 refine⟨[],_,[],[],(this),aM,aA,ar, ?_⟩;conv=>whnf
 (repeat(first|(refine aq av ?_;conv=>whnf)));exact au.refl _
theorem xr (ok:mR M) (a b:Int) (h:sz a.natAbs+sz b.natAbs≤M):
  ab Tryz.prog 169 [.int a,.int b] [] (.int (a*b)) [] []:=by
 refine bT [] Tryz.func169 ?_
 intro W0 w0 ρ0 hE
 conv=>whnf
 refine⟨[],_,[],[],(JP _ a b _ (ND ok a b h)),aM,aA,ar, ?_⟩;conv=>whnf
 skip;exact au.refl _
end Go.Proofs.YtfpagioknjjacaaGreatDoor
namespace Go.Proofs.YtfpagioknjjacaaGreatDoor
open Go.Sx
set_option linter.unusedSimpArgs false
set_option linter.unusedVariables false
set_option maxRecDepth 100000
set_option maxHeartbeats 2000000
def q8 (q:Rat):Nat:=max (sz q.num.natAbs) (sz q.den)
theorem dZ (q:Rat):sz q.num.natAbs≤q8 q:=Nat.le_max_left _ _
theorem dQ (q:Rat):sz q.den≤q8 q:=Nat.le_max_right _ _
theorem EL {q:Rat} {k:Nat} (h1:sz q.num.natAbs≤k) (h2:sz q.den≤k):q8 q≤k:=Nat.max_le.2 ⟨h1,h2⟩
theorem num_mkRat {n:Int} {d:Nat} (hd:d≠0):(mkRat n d).num=n/(Nat.gcd n.natAbs d:Nat):=by
 rw[←Rat.normalize_eq_mkRat hd,Rat.num_normalize]
theorem den_mkRat {n:Int} {d:Nat} (hd:d≠0):(mkRat n d).den=d/Nat.gcd n.natAbs d:=by
 rw[←Rat.normalize_eq_mkRat hd,Rat.den_normalize]
theorem zK {n:Int} {d:Nat} {k:Nat} (hd:d≠0) (h1:sz n.natAbs≤k) (h2:sz d≤k):q8 (mkRat n d)≤k:=by
 refine EL ?_ ?_
 ·rw[num_mkRat hd]
  refine Nat.le_trans (fK ?_) h1
  rw[Int.natAbs_ediv_of_dvd (Int.ofNat_dvd_left.2 (Nat.gcd_dvd_left _ _)),Int.natAbs_natCast]
  exact Nat.div_le_self _ _
 ·rw[den_mkRat hd]
  exact Nat.le_trans (Jy _ _) h2
theorem Gd {a b:Rat}:q8 (a+b)≤q8 a+q8 b+1:=by
 have ha:=dZ a;have ha':=dQ a;have hb:=dZ b;have gu:=dQ b
 rw[Rat.add_def']
 refine zK (Nat.mul_ne_zero a.den_nz b.den_nz) ?_ ?_
 ·have h1:=fX a.num.natAbs b.den
  have h2:=fX b.num.natAbs a.den
  refine Nat.le_trans (fK (Int.natAbs_add_le _ _)) (xi ?_ ?_)
  ·rw[Int.natAbs_mul,Int.natAbs_natCast];omega
  ·rw[Int.natAbs_mul,Int.natAbs_natCast];omega
 ·have:=fX a.den b.den
  omega
theorem NF {a b:Rat}:q8 (a*b)≤q8 a+q8 b:=by
 have ha:=dZ a;have ha':=dQ a;have hb:=dZ b;have gu:=dQ b
 rw[Rat.mul_def']
 refine zK (Nat.mul_ne_zero a.den_nz b.den_nz) ?_ ?_
 ·have h1:=fX a.num.natAbs b.num.natAbs
  rw[Int.natAbs_mul];omega
 ·have:=fX a.den b.den
  omega
theorem Ge (a:Rat):q8 (-a)=q8 a:=by simp[q8]
theorem NG {a b:Rat}:q8 (a - b)≤q8 a+q8 b+1:=by
 rw[Rat.sub_eq_add_neg,←Ge b];exact Gd
theorem xu (q:Rat):q.den - 1+1=q.den:=by have:=q.den_pos;omega
theorem uu (n:Nat) (h:n≠0):1≤sz n:=Jz h
variable {M:Nat}
theorem xv (ok:mR M) (q:Rat) (h:sz q.den≤M):ab Tryz.prog 207 [.frac q] [] (.nat q.den) [] []:=by
 refine bT [] Tryz.func207 ?_
 intro W0 w0 ρ0 hE
 conv=>whnf
 refine⟨[],_,[],[],(Gb 1 aI),aM,aA,ar, ?_⟩;conv=>whnf
 have:=ok.add (q.den - 1) 1 (by rw[xu];exact h)
 rw[xu]at this
 refine⟨[],_,[],[],(this),aM,aA,ar, ?_⟩;conv=>whnf
 (repeat(first|(refine aq av ?_;conv=>whnf)));exact au.refl _
theorem oN {x:Int} {y:Nat} {q:Rat} (hx:x=q.num) (hy:y=q.den - 1):au (.agg [.int x,.nat y]) (.frac q):=by
 subst hx hy
 exact fj (l:=bD q) rfl rfl (fun _ h=>by cases h)
theorem mS (ok:mR M) (n:Int) (d:Nat) (h1:sz n.natAbs≤M) (h2:sz d≤M) (hd:d≠0):
  ab Tryz.prog 206 [.int n,.nat d] [] (.frac (mkRat n d)) [] []:=by
 have hb:=ok.qg
 have hg:Nat.gcd n.natAbs d≠0:=fun h=>hd (Nat.gcd_eq_zero_iff.1 h).2
 have hgs:sz (Nat.gcd n.natAbs d)≤M:=Nat.le_trans (JA hd) h2
 have hq:d/Nat.gcd n.natAbs d≠0:=Nat.div_ne_zero_iff.2 ⟨hg,Nat.le_of_dvd aa (Nat.gcd_dvd_right _ _)⟩
 refine bT [] Tryz.func206 ?_
 intro W0 w0 ρ0 hE
 conv=>whnf
 refine⟨[],_,[],[],(JN n),aM,aA,ar, ?_⟩;conv=>whnf
 refine⟨[],_,[],[],(ok.gcd n.natAbs d h1 h2),aM,aA,ar, ?_⟩;conv=>whnf
 (repeat(first|(refine aq av ?_;conv=>whnf)))
 refine⟨[],_,[],[],(JN n),aM,aA,ar, ?_⟩;conv=>whnf
 refine⟨[],_,[],[],(ok.div n.natAbs _ h1 hgs hg),aM,aA,ar, ?_⟩;conv=>whnf
 (repeat(first|(refine aq av ?_;conv=>whnf)))
 refine⟨[],_,[],[],(ok.div d _ h2 hgs hg),aM,aA,ar, ?_⟩;conv=>whnf
 skip
 refine⟨[],_,[],[],(Gb 1 aI),aM,aA,ar, ?_⟩;conv=>whnf
 refine⟨[],_,[],[],(ok.sub _ 1 (Nat.le_trans (Jy _ _) h2) (Nat.pos_of_ne_zero hq)),aM,aA,ar, ?_⟩;conv=>whnf
 (repeat(first|(refine aq av ?_;conv=>whnf)))
 refine⟨[],_,[],[],(JO n),aM,aA,ar, ?_⟩;conv=>whnf
 have e:signed (decide (n.sign<0)) (n.natAbs/Nat.gcd n.natAbs d)=(mkRat n d).num:=by
  rw[num_mkRat hd]
  have Qq:Nat.gcd n.natAbs d ∣ n.natAbs:=Nat.gcd_dvd_left _ _
  unfold signed
  by_cases hn:n<0
  ·rw[Int.sign_eq_neg_one_of_neg hn]
   simp only[show decide ((-1:Int)<0)=true from rfl,if_true]
   have:n= -(n.natAbs:Int):=aa
   rw[Int.natCast_ediv,←Int.neg_ediv_of_dvd (Int.natCast_dvd_natCast.2 Qq),←this]
  ·have:¬n.sign<0:=fun h=>hn (Int.sign_neg_iff.1 h)
   rw[decide_eq_false this]
   simp only[Bool.false_eq_true,if_false]
   have:n=(n.natAbs:Int):=aa
   rw[Int.natCast_ediv,←this]
 have hf:=ml (decide (n.sign<0)) (n.natAbs/Nat.gcd n.natAbs d)
 rw[e]at hf
 refine⟨[],_,[],[],(hf),aM,aA,ar, ?_⟩;conv=>whnf
 (repeat(first|(refine aq av ?_;conv=>whnf)))
 exact oN rfl (by rw[den_mkRat hd])
theorem Bg (n:Int):ab Tryz.prog 104 [.int n] [] (.frac n) [] []:=by
 refine bT [] Tryz.func104 ?_
 intro W0 w0 ρ0 hE
 conv=>whnf
 skip
 exact oN rfl rfl
theorem dI (n:Int) (h0: -9223372036854775808≤n) (h1:n<9223372036854775808):ab Tryz.prog 18 [.val (.int .i64 n)] [] (.frac n) [] []:=by
 refine bT [] Tryz.func18 ?_
 intro W0 w0 ρ0 hE
 conv=>whnf
 refine⟨[],_,[],[],(abG n h0 h1),aM,aA,ar, ?_⟩;conv=>whnf
 refine⟨[],_,[],[],(Bg n),aM,aA,ar, ?_⟩;conv=>whnf
 skip;exact au.refl _
theorem rZ (q:Rat):ab Tryz.prog 168 [.frac q] [] (.val (.bool (decide (q.den=1)))) [] []:=by
 refine bT [] Tryz.func168 ?_
 intro W0 w0 ρ0 hE
 conv=>whnf
 skip
 refine⟨_,fh aJ cy rfl (ak rfl) (ak rfl) rfl rfl rfl rfl (rX (q.den - 1) 0) pC, ?_⟩
 have:=q.den_pos
 rw[show decide (q.den - 1=0)=decide (q.den=1)from decide_eq_decide.2 aa]
 conv=>whnf
 skip;exact au.refl _
theorem fM (q:Rat):ab Tryz.prog 90 [.frac q] [] (.val (.int .i64 q.num.sign)) [] []:=by
 refine bT [] Tryz.func90 ?_
 intro W0 w0 ρ0 hE
 conv=>whnf
 skip
 refine⟨[],_,[],[],(JO q.num),aM,aA,ar, ?_⟩;conv=>whnf
 skip;exact au.refl _
theorem Bh (q:Rat):ab Tryz.prog 130 [.frac q] [] (.frac (-q)) [] []:=by
 refine bT [] Tryz.func130 ?_
 intro W0 w0 ρ0 hE
 conv=>whnf
 skip
 refine⟨[],_,[],[],(abF q.num),aM,aA,ar, ?_⟩;conv=>whnf
 (repeat(first|(refine aq av ?_;conv=>whnf)))
 exact oN rfl rfl
theorem r8 (ok:mR M) (q:Rat) (h:sz q.den≤M):ab Tryz.prog 208 [.frac q] [] (.int q.den) [] []:=by
 refine bT [] Tryz.func208 ?_
 intro W0 w0 ρ0 hE
 conv=>whnf
 refine⟨[],_,[],[],(xv ok q h),aM,aA,ar, ?_⟩;conv=>whnf
 refine⟨[],_,[],[],(ml false q.den),aM,aA,ar, ?_⟩;conv=>whnf
 rw[show signed false q.den=(q.den:Int)from rfl]
 skip;exact au.refl _
theorem nI {q:Rat} (h:q.den=1):q=(q.num:Rat):=Rat.ext rfl h
theorem EM (ok:mR M) (a b:Rat) (h:q8 a+q8 b≤M):ab Tryz.prog 81 [.frac a,.frac b] [] (.frac (a*b)) [] []:=by
 have ha:=dZ a;have ha':=dQ a;have hb:=dZ b;have gu:=dQ b
 have gen:ab Tryz.prog 81 [.frac a,.frac b] [] (.frac (mkRat (a.num*b.num) (a.den*b.den))) [] []→ab Tryz.prog 81 [.frac a,.frac b] [] (.frac (a*b)) [] []:=by rw[Rat.mul_def'];exact id
 have hw:a.den=1→b.den=1→((a.num*b.num:Int):Rat)=a*b:=by
  intro h1 h2
  rw[nI h1,nI h2,Rat.intCast_mul];rfl
 have EN:=mS ok (a.num*b.num) (a.den*b.den) (by rw[Int.natAbs_mul];have:=fX a.num.natAbs b.num.natAbs;omega) (by have:=fX a.den b.den;omega) (Nat.mul_ne_zero a.den_nz b.den_nz)
 rw[←Rat.mul_def']at EN
 have wa:=rZ a
 have wb:=rZ b
 have k1:=xr ok a.num b.num aa
 have k2:=xv ok a aa
 have k3:=xv ok b aa
 have k4:=ok.mul a.den b.den aa
 have k5:=Bg (a.num*b.num)
 refine bT [] Tryz.func81 ?_
 intro W0 w0 ρ0 hE
 conv=>whnf
 by_cases h1:a.den=1
 ·rw[decide_eq_true h1]at wa
  by_cases h2:b.den=1
  ·rw[decide_eq_true h2]at wb
   rw[hw h1 h2]at k5
   (repeat(first|(refine ag rfl rfl ?_;conv=>whnf)|(refine aS (by assumption) ?_;conv=>whnf)|(refine ah dO ?_;conv=>whnf)));exact au.refl _
  ·rw[decide_eq_false h2]at wb
   (repeat((first|refine ag rfl rfl ?_|refine ae rfl rfl ?_|refine aq av ?_|refine aS (by assumption) ?_|refine ah dO ?_);conv=>whnf));exact au.refl _
 ·rw[decide_eq_false h1]at wa
  (repeat((first|refine ae rfl rfl ?_|refine aq av ?_|refine aS (by assumption) ?_|refine ah dP ?_);conv=>whnf));exact au.refl _
theorem Gf (b:Rat):q8 b⁻¹≤q8 b:=by
 have h1:=dZ b
 have h2:=dQ b
 by_cases h:b.num=0
 ·rw[Rat.num_eq_zero]at h
  subst h
  rw[Rat.inv_zero];exact Nat.le_refl _
 ·refine EL ?_ ?_
  ·rw[Rat.num_inv,Int.natAbs_mul,Int.natAbs_natCast]
   refine Nat.le_trans (fK ?_) h2
   have:b.num.sign.natAbs=1:=by rw[Int.natAbs_sign];simp[h]
   rw[this,Nat.one_mul];exact Nat.le_refl _
  ·rw[Rat.den_inv,if_neg h];exact h1
theorem zN {b:Rat} (h:b.num≠0):mkRat (signed (decide (b.num.sign<0)) b.den) b.num.natAbs=b⁻¹:=by
 have hd:b.num.natAbs≠0:=aa
 have hg:Nat.gcd (signed (decide (b.num.sign<0)) b.den).natAbs b.num.natAbs=1:=by rw[kI];exact b.reduced.symm
 refine Rat.ext ?_ ?_
 ·rw[num_mkRat hd,hg,Rat.num_inv]
  rcases Int.lt_or_gt_of_ne h with h'|h'
  ·rw[Int.sign_eq_neg_one_of_neg h'];simp[signed]
  ·rw[Int.sign_eq_one_of_pos h'];simp[signed]
 ·rw[den_mkRat hd,hg,Rat.den_inv,if_neg h];simp
theorem JQ (ok:mR M) (a b:Rat) (hb:b≠0) (h:q8 a+q8 b≤M):ab Tryz.prog 141 [.frac a,.frac b] [] (.ck [.frac (a/b),.val (.int .i64 0)]) [] []:=by
 have hn:b.num≠0:=fun h=>hb (Rat.num_eq_zero.1 h)
 have h1:=dZ b
 have h2:=dQ b
 have k1:=fM b
 have k2:=xv ok b aa
 have k3:=ml (decide (b.num.sign<0)) b.den
 have k4:=JN b.num
 have k5:=mS ok (signed (decide (b.num.sign<0)) b.den) b.num.natAbs (by rw[kI];omega) aa aa
 rw[zN hn]at k5
 have k6:=EM ok a b⁻¹ (by have:=Gf b;omega)
 rw[←Rat.div_def]at k6
 have hs:(b.num.sign==0)=false:=by simpa using hn
 refine bT [] Tryz.func141 ?_
 intro W0 w0 ρ0 hE
 conv=>whnf
 refine⟨[],_,[],[],(k1),aM,aA,ar, ?_⟩;conv=>whnf
 rw[hs]
 (repeat(first|(refine ae rfl rfl ?_;conv=>whnf)|(refine aq av ?_;conv=>whnf)|(refine aS (by assumption) ?_;conv=>whnf)));exact au.refl _
theorem Yb {n:Int} (h0: -9223372036854775808≤n) (h1:n<9223372036854775808):sz n.natAbs≤64:=fo.2 aa
theorem NH {n:Int} {k:Nat} (h:sz n.natAbs≤k) (hk:1≤k):q8 (n:Rat)≤k:=EL h hk
theorem abI (ok:mR M) (n d:Int) (hM:q8 (n:Rat)+q8 (d:Rat)≤M) (h0: -9223372036854775808≤n) (h1:n<9223372036854775808) (h2: -9223372036854775808≤d) (h3:d<9223372036854775808) (hd:d≠0):
  ab Tryz.prog 150 [.val (.int .i64 n),.val (.int .i64 d)] [] (.ck [.frac ((n:Rat)/(d:Rat)),.val (.int .i64 0)]) [] []:=by
 have k1:=dI n h0 h1
 have k2:=dI d h2 h3
 have k3:=JQ ok (n:Rat) (d:Rat) (fun h=>hd (by simpa using h)) hM
 refine bT [] Tryz.func150 ?_
 intro W0 w0 ρ0 hE
 conv=>whnf
 (repeat(first|(refine aS (by assumption) ?_;conv=>whnf)));exact au.refl _
end Go.Proofs.YtfpagioknjjacaaGreatDoor
namespace Go.Proofs.YtfpagioknjjacaaGreatDoor
open Go.Sx
set_option linter.unusedSimpArgs false
set_option linter.unusedVariables false
set_option maxRecDepth 100000
theorem Gg (x y:Nat) (hx:x<18446744073709551616) (hy:y<18446744073709551616):
  ab Tryz.prog 342 [.val (.int .u64 x),.val (.int .u64 y),.val (.int .u64 0)] [] (.ck [.val (.int .u64 ((x+y) % 18446744073709551616:Nat)),.val (.int .u64 ((x+y)/18446744073709551616:Nat))]) [] []:=by
 refine .inr fun ρ w z hz hp=> ?_
 simp only[aw,aL]at hz
 obtain⟨_,_,rfl,⟨rfl,_⟩,_,_,rfl,⟨rfl,_⟩,_,_,rfl,⟨rfl,_⟩,rfl⟩:=hz
 refine⟨.tuple #[.int .u64 ((x+y) % 18446744073709551616:Nat),.int .u64 ((x+y)/18446744073709551616:Nat)],ρ,w, ?_,.pure ?_⟩
 ·show(callFunc 342 #[.int .u64 x,.int .u64 y,.int .u64 0]).run Tryz.prog w=_
  rw[run_callFunc_extern Tryz.func342 av av av (e:=add64Entry) av,run_add64 x y 0 aa aa aa aa]
  simp only[Result.andThen]
  congr 5<;>omega
 ·simp only[Has,aw,aL]
  exact⟨_,⟨_,_,rfl,⟨rfl,rfl⟩,_,_,rfl,⟨rfl,rfl⟩,rfl⟩,rfl⟩
theorem JR (a b:Nat) (ha:a<18446744073709551616) (hb:b<18446744073709551616):
  ab Tryz.prog 182 [.nat a,.nat b] [] (.val (.int .i64 ((a:Int) - b).sign)) [] []:=by
 refine bT [] Tryz.func182 ?_
 intro W0 w0 ρ0 hE
 conv=>whnf
 rw[dq,decide_eq_true ha]
 refine⟨fun _=> ?_,fun h=>by cases h⟩
 conv=>whnf
 refine⟨fun _=> ?_,fun h=>by cases h⟩
 conv=>whnf
 refine⟨fun _=> ?_,fun h=>by cases h⟩
 conv=>whnf
 rw[dq,decide_eq_true hb]
 refine⟨.val (.bool true),[],[],[],l7 rfl (ak rfl) (fun _=>ak rfl) (fun hb=>by cases hb) rfl (c2:=.any),aM,aA,ar, ?_⟩
 conv=>whnf
 refine⟨fun _=> ?_,fun h=>by cases h⟩
 conv=>whnf
 rw[cu ha,cu hb]
 refine⟨fun h=> ?_,fun h=> ?_⟩
 ·have hz:((a:Int) - b).sign= -1:=Int.sign_eq_neg_one_of_neg (by have:=of_decide_eq_true h;omega)
  conv=>whnf
  rw[hz]
  exact au.refl _
 ·have h1:=of_decide_eq_false h
  conv=>whnf
  rw[cu ha,cu hb]
  refine⟨fun h=> ?_,fun h=> ?_⟩
  ·have hz:((a:Int) - b).sign=1:=Int.sign_eq_one_of_pos (by have:=of_decide_eq_true h;omega)
   conv=>whnf
   rw[hz]
   exact au.refl _
  ·have hz:((a:Int) - b).sign=0:=by rw[Int.sign_eq_zero_iff_zero];have:=of_decide_eq_false h;omega
   conv=>whnf
   rw[hz]
   exact au.refl _
theorem r9 {x:Int} {n:Nat} {s:ByteArray} (hx:x=n) (hs:s=ByteArray.empty) (hn:n<18446744073709551616):∀ρ y,aL ρ (.agg [.val (.int .u64 x),.val (.string s)]) y→aL ρ (.nat n) y:=
 Hu (l:=bR n) (by rw[kB hn,hx,hs];rfl) rfl (fun _ h=>by cases h)
theorem xw {n:Nat} (hn:n<18446744073709551616):au (.agg [.val (.int .u64 n),.val (.string .empty)]) (.nat n):=
 fj (l:=bR n) (by rw[kB hn];rfl) rfl (fun _ h=>by cases h)
theorem abJ (a b:Nat) (h:a+b<18446744073709551616):
  ab Tryz.prog 297 [.nat a,.nat b] [] (.nat (a+b)) [] []:=by
 have ha:a<18446744073709551616:=aa
 have hb:b<18446744073709551616:=aa
 refine bT [] Tryz.func297 ?_
 intro W0 w0 ρ0 hE
 conv=>whnf
 rw[dq,decide_eq_true ha]
 refine⟨fun _=> ?_,fun h=>by cases h⟩
 conv=>whnf
 refine⟨fun _=> ?_,fun h=>by cases h⟩
 conv=>whnf
 refine⟨fun _=> ?_,fun h=>by cases h⟩
 conv=>whnf
 rw[dq,decide_eq_true hb]
 refine⟨.val (.bool true),[],[],[],l7 rfl (ak rfl) (fun _=>ak rfl) (fun hb=>by cases hb) rfl (c2:=.any),aM,aA,ar, ?_⟩
 conv=>whnf
 refine⟨fun _=> ?_,fun h=>by cases h⟩
 conv=>whnf
 rw[cu ha,cu hb]
 refine⟨[],_,[],[],Gg a b ha hb,aM,aA,ar, ?_⟩
 rw[Nat.mod_eq_of_lt h,Nat.div_eq_of_lt h]
 conv=>whnf
 refine⟨fun _=> ?_,fun h=>by cases h⟩
 conv=>whnf
 exact xw h
theorem abK (a b:Nat) (ha:a<18446744073709551616) (h:b≤a):
  ab Tryz.prog 296 [.nat a,.nat b] [] (.ck [.nat (a - b),.val (.bool true)]) [] []:=by
 have hb:b<18446744073709551616:=aa
 refine bT [] Tryz.func296 ?_
 intro W0 w0 ρ0 hE
 conv=>whnf
 refine⟨[],_,[],[],JR a b ha hb,aM,aA,ar, ?_⟩
 have hs:decide (((a:Int) - b).sign<0)=false:=by
  rw[decide_eq_false_iff_not,Int.not_lt]
  exact Int.sign_nonneg_iff.2 aa
 conv=>whnf
 rw[hs]
 refine⟨fun h=>(by cases h),fun _=> ?_⟩
 conv=>whnf
 rw[dq,decide_eq_true ha]
 refine⟨fun _=> ?_,fun h=>by cases h⟩
 conv=>whnf
 refine CR (r9 ?_ rfl aa) rfl (fun _ _ h=>h) rfl
 rw[cu ha,cu hb,wrap_u64 aa aa]
 omega
theorem abL (a b:Nat) (ha:a<18446744073709551616) (hb:b<18446744073709551616) (h0:b≠0):
  ab Tryz.prog 280 [.nat a,.nat b] [] (.ck [.nat (a/b),.nat (a % b),.val (.bool true)]) [] []:=by
 refine bT [] Tryz.func280 ?_
 intro W0 w0 ρ0 hE
 conv=>whnf
 refine⟨[],_,[],[],vS b,aM,aA,ar, ?_⟩
 rw[decide_eq_false h0]
 conv=>whnf
 refine⟨fun h=>(by cases h),fun _=> ?_⟩
 conv=>whnf
 refine⟨[],_,[],[],JR a b ha hb,aM,aA,ar, ?_⟩
 conv=>whnf
 refine⟨fun h=> ?_,fun h=> ?_⟩
 ·have aE:a<b:=by
   have h:=of_decide_eq_true h
   have:=Int.sign_neg_iff.1 h
   omega
  conv=>whnf
  refine⟨av, ?_⟩
  conv=>whnf
  rw[Nat.div_eq_of_lt aE,Nat.mod_eq_of_lt aE]
  exact au.refl _
 ·have hle:b≤a:=by
   have h:=of_decide_eq_false h
   have:=Int.sign_nonneg_iff.1 (Int.not_lt.1 h)
   omega
  conv=>whnf
  rw[dq,decide_eq_true ha]
  refine⟨fun _=> ?_,fun h=>by cases h⟩
  conv=>whnf
  rw[cu hb]
  refine⟨aa, ?_⟩
  conv=>whnf
  refine⟨by rw[cu hb];omega, ?_⟩
  conv=>whnf
  refine⟨av, ?_⟩
  conv=>whnf
  have hd:a/b≤a:=Nat.div_le_self a b
  have hm:a % b≤a:=Nat.mod_le a b
  refine vf (r9 ?_ rfl aa) rfl (r9 ?_ rfl aa) rfl (fun _ _ h=>h) rfl
  ·rw[cu ha,show(a:Int).tdiv (b:Int)=((a/b:Nat):Int)from rfl,wrap_u64 (Int.natCast_nonneg _) (by exact Int.ofNat_lt.2 (Nat.lt_of_le_of_lt hd ha))]
  ·rw[cu ha,cu hb];rfl
theorem JS (a:Nat):ab Tryz.prog 280 [.nat a,.nat 0] [] (.ck [.nat 0,.nat 0,.val (.bool false)]) [] []:=by
 refine bT [] Tryz.func280 ?_
 intro W0 w0 ρ0 hE
 conv=>whnf
 refine⟨[],_,[],[],vS 0,aM,aA,ar, ?_⟩
 conv=>whnf
 refine⟨fun _=> ?_,fun h=>by cases h⟩
 conv=>whnf
 exact au.refl _
set_option maxHeartbeats 2000000
theorem JT (xs:List Int) (n:Nat) (hn:n≤xs.length) (hl:xs.length<4611686018427387904) (K:Nat) (wr:Bool):
  ab Tryz.prog 315 [.aO K 1 0 n] [(K,⟨23,wr,.ints .u32 xs⟩)] (.aO K 1 0 (gZ xs n)) [] []:=by
 refine ab.rN ?_
 refine gh (Z:=[]) aJ bO Tryz.func315 rfl av (args:=[.aO 0 1 0 n]) (fk:=[(0,⟨23,false,.ints .u32 xs⟩)]) (c:=.aO 0 1 0 (gZ xs n)) (new:=[]) (upd:=[]) ?_ rfl (fun _=>K) ?_ ?_
 ·exact⟨rfl,rfl,rfl,rfl,rfl,(fun _ _ h=>by cases h),(fun k b h hw=>by simp at h;rw[h.2]at hw;cases hw),rfl,rfl,rfl,rfl⟩
 ·exact⟨(fun q q' b b' h h' bW=>by simp at h h';omega),(fun _ _ h=>by simp[az]at h),(fun _ _ h=>by simp[az]at h)⟩
 intro W0 w0 ρ0 hE
 conv=>whnf
 refine aj hE (fun k=>k) [0] [0] (fun m fr hp=>m≤n∧gZ xs m=gZ xs n∧fr=[(0,.aO 0 1 0 m)]∧hp=[(0,⟨23,false,.ints .u32 xs⟩)]) n ?_ ?_ ?_
 ·kernel_rfl
 ·exact⟨aa,rfl,rfl,rfl⟩
 rintro m _ _ ⟨hm,hc,rfl,rfl⟩
 conv=>whnf
 refine⟨fun h=> ?_,fun h=> ?_⟩
 ·have h0:0<m:=by have:=of_decide_eq_true h;omega
  obtain⟨m,rfl⟩:∃k,m=k+1:=⟨m - 1,aa⟩
  have hd:decide (((m+1:Nat):Int)>0)=true:=decide_eq_true aa
  have hw:IntKind.i64.wrap (((m+1:Nat):Int) - 1)=(m:Int):=by rw[wrap_i64 aa aa];omega
  rw[hd]
  conv=>whnf
  refine⟨fun _=> ?_,fun h=>by cases h⟩
  conv=>whnf
  refine⟨fun _=> ?_,fun h=>by cases h⟩
  conv=>whnf
  refine⟨fun _=> ?_,fun h=>by cases h⟩
  conv=>whnf
  refine⟨fun _=> ?_,fun h=>by cases h⟩
  conv=>whnf
  rw[hw]
  refine⟨⟨aa,aa⟩, ?_⟩
  conv=>whnf
  refine⟨fun _=> ?_,fun h=>by cases h⟩
  conv=>whnf
  refine⟨aa, ?_⟩
  conv=>whnf
  rw[show 0+(m:Int).toNat=m from by omega]
  refine⟨fun _=> ?_,fun h=>by cases h⟩
  conv=>whnf
  refine⟨.val (.bool (xs.getD m 0==0)),[],[],[],l7 rfl (ak rfl) (fun _=>ak rfl) (fun hb=>by cases hb) rfl (c2:=.any),aM,aA,ar, ?_⟩
  conv=>whnf
  refine⟨fun h=> ?_,fun h=> ?_⟩
  ·have hx:xs.getD m 0=0:=by simpa using h
   conv=>whnf
   rw[hw]
   refine⟨aa, ?_⟩
   conv=>whnf
   rw[show((m:Int) - 0).toNat=m from by omega]
   refine⟨m,fun k=>k,[0],[0],aa,av,aa, ?_,rfl,rfl⟩
   rw[←hc,gZ,if_pos hx]
  ·have hx:¬xs.getD m 0=0:=by simpa using h
   conv=>whnf
   rw[←hc,gZ,if_neg hx]
   exact⟨au.refl _,(fun _ _ h=>by cases h),(fun _ _ h=>by cases h)⟩
 ·have h0:m=0:=by have:=of_decide_eq_false h;omega
  subst h0
  rw[show decide (((0:Nat):Int)>0)=false from rfl]
  conv=>whnf
  iterate 6
   refine⟨fun h=>(by cases h),fun _=> ?_⟩
   conv=>whnf
  refine⟨.val (.bool false),[],[],[],l7 rfl (ak rfl) (fun hb=>by cases hb) (fun _=>ak rfl) rfl (c1:=.any),aM,aA,ar, ?_⟩
  conv=>whnf
  refine⟨fun h=>(by cases h),fun _=> ?_⟩
  conv=>whnf
  rw[←hc]
  exact⟨au.refl _,(fun _ _ h=>by cases h),(fun _ _ h=>by cases h)⟩
theorem JU (xs:List Int) (hx:fL xs) (i:Nat) (hi:i<2):
  D7 .u64 (aB xs i) (jJ .u64 (IntKind.u64.wrap (xs.getD i 0)) ((32*i:Nat):Int))=aB xs (i+1):=by
 obtain⟨a0,a1⟩:=hx 0
 obtain⟨b0,b1⟩:=hx 1
 have hc:i=0∨i=1:=aa
 rcases hc with rfl|rfl
 ·obtain⟨w,hw⟩:=Int.eq_ofNat_of_zero_le a0
  have e:jJ .u64 (IntKind.u64.wrap (xs.getD 0 0)) ((32*0:Nat):Int)=(w:Int):=by
   rw[hw,wrap_u64 aa aa]
   show IntKind.u64.wrap ((w:Int)*1)=w
   rw[Int.mul_one,wrap_u64 aa aa]
  rw[e,show aB xs 0=((0:Nat):Int)from rfl,vQ aa aa,Nat.zero_or]
  simp only[aB,hw,Int.pow_zero,Int.mul_one,Int.zero_add]
 ·obtain⟨w,hw⟩:=Int.eq_ofNat_of_zero_le b0
  obtain⟨v,hv⟩:=Int.eq_ofNat_of_zero_le a0
  have e:jJ .u64 (IntKind.u64.wrap (xs.getD 1 0)) ((32*1:Nat):Int)=((4294967296*w:Nat):Int):=by
   rw[hw,wrap_u64 aa aa]
   show IntKind.u64.wrap ((w:Int)*4294967296)=_
   rw[wrap_u64 aa aa]
   omega
  have e1:aB xs 1=(v:Int):=by simp only[aB,hv,Int.pow_zero,Int.mul_one,Int.zero_add]
  have e2:aB xs (1+1)=((v+w*4294967296:Nat):Int):=by
   simp only[aB,hv,hw,Int.pow_zero,Int.mul_one,Int.zero_add,Int.pow_succ,Int.one_mul];omega
  rw[e,e1,e2,vQ aa aa,Nat.or_comm]
  have:=Nat.two_pow_add_eq_or_of_lt (i:=32) (b:=v) aa w
  rw[show 4294967296*w=2^32*w from rfl,←this]
  omega
def fy (xs:List Int):List Int:=xs.flatMap fun x=>(bH x.toNat).map fun b=>((b.toNat:Nat):Int)
theorem xx (xs:List Int):(fy xs).length=4*xs.length:=by
 induction xs with
 |nil=>rfl
 |cons x xs ih=>
  rw[fy,List.flatMap_cons,List.length_append,←fy,ih]
  simp[bH];omega
theorem CZ {xs:List Int} {i:Nat} (h:i<xs.length):fy (xs.take (i+1))=fy (xs.take i)++fy [xs.getD i 0]:=by
 rw[List.take_add_one,fy,List.flatMap_append]
 have:xs[i]? =some (xs.getD i 0):=by rw[List.getD_eq_getElem?_getD,List.getElem?_eq_getElem h];rfl
 rw[this];rfl
theorem NI (n:Nat):IntKind.u8.wrap (n:Int)=((n % 256:Nat):Int):=by simp[IntKind.wrap,IntKind.bits,IntKind.signed]
theorem EO {x:Int} (h0:0≤x):fy [x]=[IntKind.u8.wrap x,IntKind.u8.wrap (jK .u32 x 8),IntKind.u8.wrap (jK .u32 x 16),IntKind.u8.wrap (jK .u32 x 24)]:=by
 obtain⟨n,rfl⟩:=Int.eq_ofNat_of_zero_le h0
 have s8:jK .u32 (n:Int) 8=((n/256:Nat):Int):=jm .u32 (s:=8) aI
 have s16:jK .u32 (n:Int) 16=((n/65536:Nat):Int):=jm .u32 (s:=16) aI
 have s24:jK .u32 (n:Int) 24=((n/16777216:Nat):Int):=jm .u32 (s:=24) aI
 rw[s8,s16,s24,NI,NI,NI,NI]
 simp only[fy,bH,List.flatMap_cons,List.flatMap_nil,List.map_cons,List.map_nil,List.append_nil,Int.toNat_natCast,UInt8.toNat_ofNat']
theorem C0 {xs:List Int} (h:fL xs):(fy xs).map (fun v=>UInt8.ofNat v.toNat)=(xs.map Int.toNat).flatMap bH:=by
 induction xs with
 |nil=>rfl
 |cons x xs ih=>
  have hw:fL xs:=fun i=>by have:=h (i+1);simpa using this
  rw[fy,List.flatMap_cons,List.map_append,←fy,ih hw,List.map_cons,List.flatMap_cons]
  congr 1
  rw[List.map_map]
  have:((fun v:Int=>UInt8.ofNat v.toNat)∘fun b:UInt8=>((b.toNat:Nat):Int))=id:=by funext b;simp
  rw[this,List.map_id]
theorem Yc {xs:List Int} {k:Nat} (hx:fL xs) (hk:k≤xs.length) (h2:2<k) (ht:xs.getD (k - 1) 0≠0):
  bR (aB xs k).toNat=[.int .u64 0,.string ⟨((fy (xs.take k)).map (fun v=>UInt8.ofNat v.toNat)).toArray⟩]:=by
 have h1:=xn k xs hx hk (.inr ht)
 obtain⟨j,rfl⟩:∃j,k=j+1:=⟨k - 1,aa⟩
 have IC:=rP hx (k:=j) (by simpa using ht)
 have hp:(4294967296:Int)^2≤4294967296^j:=by
  have:(4294967296:Nat)^2≤4294967296^j:=Nat.pow_le_pow_right aI aa
  rw[←cX,←cX];exact Int.ofNat_le.2 this
 have uv:¬(aB xs (j+1)).toNat<18446744073709551616:=by
  have:(4294967296:Int)^2=18446744073709551616:=aI
  omega
 have hw:fL (xs.take (j+1)):=fun i=>by
  rw[getD_take]
  split
  ·exact hx i
  ·decide
 simp only[bR,low,qg,uv,if_false]
 rw[C0 hw,←h1,af,List.map_map]
 have:(Int.toNat∘Int.ofNat)=id:=by funext n;rfl
 rw[this,List.map_id]
theorem uw (xs:List Int) (n:Nat) (hn:n≤xs.length) (hl:xs.length<1099511627776) (hx:fL xs) (K:Nat) (wr:Bool):
  ab Tryz.prog 299 [.aO K 1 0 n] [(K,⟨23,wr,.ints .u32 xs⟩)] (.nat (aB xs n).toNat) [] []:=by
 refine ab.rN ?_
 refine gh (Z:=[]) aJ bO Tryz.func299 rfl av (args:=[.aO 0 1 0 n]) (fk:=[(0,⟨23,false,.ints .u32 xs⟩)]) (c:=.nat (aB xs n).toNat) (new:=[]) (upd:=[]) ?_ rfl (fun _=>K) ?_ ?_
 ·exact⟨rfl,rfl,rfl,rfl,rfl,(fun _ _ h=>by cases h),(fun k b h hw=>by simp at h;rw[h.2]at hw;cases hw),rfl,rfl,rfl,rfl⟩
 ·exact⟨(fun q q' b b' h h' bW=>by simp at h h';omega),(fun _ _ h=>by simp[az]at h),(fun _ _ h=>by simp[az]at h)⟩
 intro W0 w0 ρ0 hE
 conv=>whnf
 refine⟨_,_,[],[],JT xs n hn aa 0 false,dh rfl,aA,ar, ?_⟩
 have hle:=Bf xs n
 have xy:=xm xs n
 rw[←rO xs n]
 generalize gZ xs n=k at*
 conv=>whnf
 by_cases hk:k≤2
 ·have t1:decide ((k:Int)≤2)=true:=by simp;omega
  rw[t1]
  (repeat(first|(refine ag rfl rfl ?_;conv=>whnf)))
  refine aj hE (fun k=>k) [2,3,14,15,16] [0,2] (fun m fr hp=>∃i,m=k - i∧i≤k∧fr=[(2,.ptr 2 0 0 0),(3,.val (.int .u64 (aB xs i))),(14,.aO 0 1 0 k),(15,.val (.int .i64 k)),(16,.val (.int .i64 (i:Nat)))]∧hp=[(0,⟨23,false,.ints .u32 xs⟩),(2,⟨46,true,.one [.nat 0]⟩)]) k ?_ ?_ ?_
  ·kernel_rfl
  ·exact⟨0,rfl,aa,rfl,rfl⟩
  rintro m _ _ ⟨i,rfl,hi,rfl,rfl⟩
  conv=>whnf
  refine⟨fun h=> ?_,fun h=> ?_⟩
  ·have jx:i<k:=by have:=of_decide_eq_true h;omega
   conv=>whnf
   have hw:IntKind.i64.wrap (32*(i:Int))=((32*i:Nat):Int):=by rw[wrap_i64 aa aa];omega
   have Qr:IntKind.i64.wrap ((i:Int)+1)=((i+1:Nat):Int):=by rw[wrap_i64 aa aa];omega
   (repeat(first|(refine And.intro Q6 ?_;conv=>whnf)|(rw[hw];conv=>whnf)))
   rw[show 0+(i:Int).toNat=i from aa,Qr,JU xs hx i aa]
   exact⟨k - (i+1),fun k=>k,[2,3,14,15,16],[0,2],aa,av,i+1,rfl,aa,rfl,rfl⟩
  ·have jx:i=k:=by have:=of_decide_eq_false h;omega
   subst jx
   conv=>whnf
   have hb:=gy hx i
   have h0:=b8 hx i
   have gu:(4294967296:Int)^i≤18446744073709551616:=by
    have:i=0∨i=1∨i=2:=aa
    rcases this with rfl|rfl|rfl<;>decide
   obtain⟨v,hv⟩:=Int.eq_ofNat_of_zero_le h0
   rw[hv]at hb ⊢
   exact⟨xw aa,(fun _ _ h=>by cases h),(fun _ _ h=>by cases h)⟩
 ·have t1:decide ((k:Int)≤2)=false:=by simp;omega
  have e1:IntKind.i64.wrap (4*(k:Int))=((4*k:Nat):Int):=by rw[wrap_i64 aa aa];omega
  (repeat((first|refine ae rfl rfl ?_|refine And.intro Q6 ?_|rw[t1]|rw[e1]);conv=>whnf))
  refine aj hE (fun k=>k) [2,6,35,36,37] [0,2,34] (fun m fr hp=>∃i,m=k - i∧i≤k∧fr=[(2,.ptr 2 0 0 0),(6,.aO 34 1 0 (4*i)),(35,.aO 0 1 0 k),(36,.val (.int .i64 k)),(37,.val (.int .i64 (i:Nat)))]∧hp=[(0,⟨23,false,.ints .u32 xs⟩),(2,⟨46,true,.one [.nat 0]⟩),(34,⟨5,true,.ints .u8 (fy (xs.take i))⟩)]) k ?_ ?_ ?_
  ·kernel_rfl
  ·exact⟨0,rfl,aa,rfl,rfl⟩
  rintro m _ _ ⟨i,rfl,hi,rfl,rfl⟩
  conv=>whnf
  refine⟨fun h=> ?_,fun h=> ?_⟩
  ·have jx:i<k:=by have:=of_decide_eq_true h;omega
   conv=>whnf
   have hb:=hx i
   have hlen:(fy (xs.take i)).length=4*i:=by rw[xx,List.length_take];omega
   have Qr:IntKind.i64.wrap ((i:Int)+1)=((i+1:Nat):Int):=by rw[wrap_i64 aa aa];omega
   have hs:=CZ (xs:=xs) (i:=i) aa
   rw[EO hb.1]at hs
   (repeat(first|(refine And.intro Q6 ?_;conv=>whnf)|(rw[show 0+(i:Int).toNat=i from by omega];conv=>whnf)))
   (repeat(first|(rw[Qr];conv=>whnf)))
   refine⟨k - (i+1),cE [(54,34)],[2,6,35,36,37],[0,2,54],aa,av,i+1,rfl,aa,rfl, ?_⟩
   rw[hs]
   conv=>lhs;whnf
   rw[←hlen,List.take_length]
   rfl
  ·have jx:i=k:=by have:=of_decide_eq_false h;omega
   subst jx
   conv=>whnf
   have hlen:(fy (xs.take i)).length=4*i:=by rw[xx,List.length_take];omega
   refine⟨_,[(34,⟨5,true,.ints .u8 (fy (xs.take i))⟩)],[],CF (P:=Tryz.prog) (i:=0) (n:=4*i) rfl (ak rfl) (aJ.get (t:=61) rfl) rfl (aJ.get (t:=5) rfl) rfl (aJ.get (t:=9) rfl) rfl (List.mem_cons_self ..) aa,dh rfl,aA, ?_⟩
   rw[List.drop_zero,←hlen,List.take_length]
   conv=>whnf
   skip
   refine⟨fj (l:=bR (aB xs i).toNat) ?_ rfl (fun _ h=>by cases h),(fun _ _ h=>by cases h),(fun _ _ h=>by cases h)⟩
   rw[Yc hx aa aa (xy.resolve_left aa)]
   rfl
theorem abM (n:Nat):n&&& 4294967295=n % 4294967296:=by
 have:=Nat.and_two_pow_sub_one_eq_mod n 32
 simpa using this
theorem Bi {n:Nat} (h:n<18446744073709551616):Ek .u64 (n:Int) 4294967295=((n % 4294967296:Nat):Int):=by
 have:=Jx (x:=n) (y:=4294967295) h aI
 rw[abM]at this
 exact this
theorem fN (n:Nat):jK .u64 (n:Int) 32=((n/4294967296:Nat):Int):=jm .u64 (s:=32) aI
theorem Yd (x y:Nat):
  x/4294967296*(y/4294967296)+(x/4294967296*(y % 4294967296)+x % 4294967296*(y % 4294967296)/4294967296)/4294967296+((x/4294967296*(y % 4294967296)+x % 4294967296*(y % 4294967296)/4294967296) % 4294967296+x % 4294967296*(y/4294967296))/4294967296=x*y/18446744073709551616:=by
 have e1:x*y=(x/4294967296*(y/4294967296))*18446744073709551616+(x/4294967296*(y % 4294967296))*4294967296+(x % 4294967296*(y/4294967296))*4294967296+x % 4294967296*(y % 4294967296):=by
  have qt:x=4294967296*(x/4294967296)+x % 4294967296:=aa
  have Eo:y=4294967296*(y/4294967296)+y % 4294967296:=aa
  generalize x/4294967296=a at*
  generalize x % 4294967296=b at*
  generalize y/4294967296=c at*
  generalize y % 4294967296=d at*
  rw[qt,Eo,Nat.add_mul,Nat.mul_add,Nat.mul_add,Nat.mul_mul_mul_comm,Nat.mul_assoc 4294967296 a d,Nat.mul_left_comm b 4294967296 c]
  omega
 generalize x/4294967296*(y/4294967296)=A at*
 generalize x/4294967296*(y % 4294967296)=B at*
 generalize x % 4294967296*(y/4294967296)=C at*
 generalize x % 4294967296*(y % 4294967296)=D at*
 omega
theorem NJ (x y:Nat) (hx:x<18446744073709551616) (hy:y<18446744073709551616):
  ab Tryz.prog 298 [.val (.int .u64 x),.val (.int .u64 y)] [] (.ck [.val (.int .u64 (x*y/18446744073709551616:Nat)),.val (.int .u64 (x*y % 18446744073709551616:Nat))]) [] []:=by
 refine bT [] Tryz.func298 ?_
 intro W0 w0 ρ0 hE
 conv=>whnf
 iterate 5
  refine⟨aI, ?_⟩
  conv=>whnf
 have hh:=Yd x y
 have elo:IntKind.u64.wrap ((x:Int)*y)=((x*y % 18446744073709551616:Nat):Int):=by rw[pA,←Int.natCast_mul];omega
 rw[elo,fN x,fN y,Bi hx,Bi hy]
 have ba:x/4294967296≤4294967295:=aa
 have bb:x % 4294967296≤4294967295:=aa
 have bc:y/4294967296≤4294967295:=aa
 have bd:y % 4294967296≤4294967295:=aa
 generalize x/4294967296=a at*
 generalize x % 4294967296=b at*
 generalize y/4294967296=c at*
 generalize y % 4294967296=d at*
 have pac:=Nat.mul_le_mul ba bc
 have pad:=Nat.mul_le_mul ba bd
 have pbc:=Nat.mul_le_mul bb bc
 have pbd:=Nat.mul_le_mul bb bd
 have wu:∀{n:Nat},n<18446744073709551616→IntKind.u64.wrap (n:Int)=n:=fun h=>wrap_u64 aa aa
 rw[←Int.natCast_mul,←Int.natCast_mul,←Int.natCast_mul,←Int.natCast_mul,wu (n:=a*c) aa,wu (n:=a*d) aa,wu (n:=b*d) aa,wu (n:=b*c) aa,fN (b*d),←Int.natCast_add,wu (n:=a*d+b*d/4294967296) aa,fN,Bi aa,←Int.natCast_add,←Int.natCast_add,wu (n:=a*c+(a*d+b*d/4294967296)/4294967296) aa,wu (n:=(a*d+b*d/4294967296) % 4294967296+b*c) aa,fN,←Int.natCast_add,hh,wu aa]
 exact au.refl _
set_option maxHeartbeats 4000000
theorem ep {n:Nat} (h:n<18446744073709551616):IntKind.u64.wrap (n:Int)=n:=wrap_u64 aa aa
theorem oh {n:Nat} (h:n<4294967296):IntKind.u32.wrap (n:Int)=n:=wrap_u32 aa aa
theorem oO (n:Nat):IntKind.u32.wrap (n:Int)=((n % 4294967296:Nat):Int):=by rw[wrap_u32'];omega
theorem ma (x y c:Nat) (hx:x<4294967296) (hy:y<4294967296) (hc:c≤1):
  ab Tryz.prog 343 [.val (.int .u32 x),.val (.int .u32 y),.val (.int .u32 c)] [] (.ck [.val (.int .u32 ((x+y+c) % 4294967296:Nat)),.val (.int .u32 ((x+y+c)/4294967296:Nat))]) [] []:=by
 have e1:IntKind.u64.wrap (IntKind.u64.wrap (IntKind.u64.wrap (x:Int)+IntKind.u64.wrap (y:Int))+IntKind.u64.wrap (c:Int))=((x+y+c:Nat):Int):=by
  rw[ep (n:=x) aa,ep (n:=y) aa,ep (n:=c) aa,←Int.natCast_add,ep aa,←Int.natCast_add,ep aa]
 have e2:IntKind.u32.wrap (jK .u64 ((x+y+c:Nat):Int) 32)=(((x+y+c)/4294967296:Nat):Int):=by rw[fN,oh aa]
 refine bT [] Tryz.func343 ?_
 intro W0 w0 ρ0 hE
 conv=>whnf
 (repeat(first|(refine And.intro Q6 ?_;conv=>whnf)))
 rw[e1,e2,oO]
 exact au.refl _
theorem vT {x y:Nat} (hx:x<4294967296) (hy:y<4294967296):D7 .u32 x y=((x|||y:Nat):Int):=by
 have:x|||y<4294967296:=Nat.or_lt_two_pow (n:=32) hx hy
 have e1:(BitVec.ofInt IntKind.u32.bits (x:Int)).toNat=x:=by simp[BitVec.toNat_ofInt,IntKind.bits];omega
 have e2:(BitVec.ofInt IntKind.u32.bits (y:Int)).toNat=y:=by simp[BitVec.toNat_ofInt,IntKind.bits];omega
 rw[D7,BitVec.toNat_or,e1,e2]
 exact oh this
theorem xz {x y:Nat} (hx:x<4294967296) (hy:y<4294967296):yT .u32 x y=((x^^^y:Nat):Int):=by
 have:x^^^y<4294967296:=Nat.xor_lt_two_pow (n:=32) hx hy
 have e1:(BitVec.ofInt IntKind.u32.bits (x:Int)).toNat=x:=by simp[BitVec.toNat_ofInt,IntKind.bits];omega
 have e2:(BitVec.ofInt IntKind.u32.bits (y:Int)).toNat=y:=by simp[BitVec.toNat_ofInt,IntKind.bits];omega
 rw[yT,BitVec.toNat_xor,e1,e2]
 exact oh this
theorem abN {n:Nat} (h:n<4294967296):n/2147483648=if n.testBit 31 then 1 else 0:=by
 rw[Nat.testBit_eq_decide_div_mod_eq]
 simp only[Nat.reducePow,decide_eq_true_eq]
 split<;>omega
theorem Gh {n:Nat} (h:n<4294967296):n.testBit 31=decide (2147483648≤n):=by
 rw[Nat.testBit_eq_decide_div_mod_eq,decide_eq_decide]
 simp only[Nat.reducePow]
 omega
theorem borrow (x y c:Nat) (hx:x<4294967296) (hy:y<4294967296) (hc:c≤1):
  ((((4294967295^^^x)&&& y)|||((4294967295^^^(x^^^y))&&& ((x+4294967296 - y - c) % 4294967296)))/2147483648:Nat)=if x<y+c then 1 else 0:=by
 have hd:(x+4294967296 - y - c) % 4294967296<4294967296:=Nat.mod_lt _ aI
 rw[abN (Nat.or_lt_two_pow (n:=32) (Nat.and_lt_two_pow (n:=32) _ hy) (Nat.and_lt_two_pow (n:=32) _ hd)),Nat.testBit_or,Nat.testBit_and,Nat.testBit_and,Nat.testBit_xor,Nat.testBit_xor,Nat.testBit_xor,Gh hx,Gh hy,Gh hd,Gh (n:=4294967295) aI]
 by_cases h1:2147483648≤x<;>by_cases h2:2147483648≤y<;>simp[h1,h2]<;>(try split)<;>(try split)<;>omega
theorem Bj (x y c:Nat) (hx:x<4294967296) (hy:y<4294967296) (hc:c≤1):
  ab Tryz.prog 341 [.val (.int .u32 x),.val (.int .u32 y),.val (.int .u32 c)] [] (.ck [.val (.int .u32 ((x+4294967296 - y - c) % 4294967296:Nat)),.val (.int .u32 ((if x<y+c then 1 else 0:Nat)))]) [] []:=by
 have hd:(x+4294967296 - y - c) % 4294967296<4294967296:=Nat.mod_lt _ aI
 have e1:IntKind.u32.wrap (IntKind.u32.wrap ((x:Int) - y) - c)=(((x+4294967296 - y - c) % 4294967296:Nat):Int):=by rw[wrap_u32',wrap_u32'];omega
 have hb:=borrow x y c hx hy hc
 have e2:yT .u32 (if IntKind.u32.signed=true then -1 else IntKind.u32.max) (x:Int)=((4294967295^^^x:Nat):Int):=xz (x:=4294967295) aI hx
 have EP:x^^^y<4294967296:=Nat.xor_lt_two_pow (n:=32) hx hy
 have e3:yT .u32 (x:Int) y=((x^^^y:Nat):Int):=xz hx hy
 have e4:yT .u32 (if IntKind.u32.signed=true then -1 else IntKind.u32.max) ((x^^^y:Nat):Int)=((4294967295^^^(x^^^y):Nat):Int):=xz (x:=4294967295) aI EP
 have hnx:4294967295^^^x<4294967296:=Nat.xor_lt_two_pow (n:=32) aI hx
 have adM:4294967295^^^(x^^^y)<4294967296:=Nat.xor_lt_two_pow (n:=32) aI EP
 have e5:Ek .u32 ((4294967295^^^x:Nat):Int) y=(((4294967295^^^x)&&& y:Nat):Int):=CS hnx hy
 have e6:Ek .u32 ((4294967295^^^(x^^^y):Nat):Int) (((x+4294967296 - y - c) % 4294967296:Nat):Int)=(((4294967295^^^(x^^^y))&&& ((x+4294967296 - y - c) % 4294967296):Nat):Int):=CS adM hd
 have e7:=vT (Nat.and_lt_two_pow (n:=32) (4294967295^^^x) hy) (Nat.and_lt_two_pow (n:=32) (4294967295^^^(x^^^y)) hd)
 have e8:∀n:Nat,jK .u32 (n:Int) 31=((n/2147483648:Nat):Int):=fun n=>jm .u32 (s:=31) aI
 refine bT [] Tryz.func341 ?_
 intro W0 w0 ρ0 hE
 conv=>whnf
 (repeat(first|(refine And.intro Q6 ?_;conv=>whnf)))
 rw[e1,e2,e3,e4,e5,e6,e7,e8,hb]
 exact au.refl _
theorem NK (h l y:Nat) (hh:h<y) (hl:l<4294967296) (hy:y<4294967296):
  ab Tryz.prog 351 [.val (.int .u32 h),.val (.int .u32 l),.val (.int .u32 y)] [] (.ck [.val (.int .u32 ((h*4294967296+l)/y:Nat)),.val (.int .u32 ((h*4294967296+l) % y:Nat))]) [] []:=by
 have t1:(((y:Nat):Int) != 0)=true:=by simp;omega
 have t2:decide ((y:Int)≤(h:Int))=false:=by simp;omega
 have e1:jJ .u64 (IntKind.u64.wrap (h:Int)) 32=((h*4294967296:Nat):Int):=by
  rw[ep aa]
  show IntKind.u64.wrap ((h:Int)*4294967296)=_
  rw[show(h:Int)*4294967296=((h*4294967296:Nat):Int)from aa,ep aa]
 have e2:D7 .u64 ((h*4294967296:Nat):Int) (l:Int)=((h*4294967296+l:Nat):Int):=by
  rw[vQ aa aa,Nat.mul_comm,←Nat.two_pow_add_eq_or_of_lt (i:=32) (b:=l) aa h]
 have hq:(h*4294967296+l)/y<4294967296:=Nat.div_lt_of_lt_mul (by
  have:=Nat.mul_le_mul_right 4294967296 (show h+1≤y by omega)
  rw[Nat.mul_comm y];omega)
 have hr:(h*4294967296+l) % y<y:=Nat.mod_lt _ aa
 have e3:((h*4294967296+l:Nat):Int).tdiv (y:Int)=(((h*4294967296+l)/y:Nat):Int):=rfl
 have e4:((h*4294967296+l:Nat):Int).tmod (y:Int)=(((h*4294967296+l) % y:Nat):Int):=rfl
 refine bT [] Tryz.func351 ?_
 intro W0 w0 ρ0 hE
 conv=>whnf
 (repeat((first|refine ag rfl rfl ?_|refine ae rfl rfl ?_|refine aq av ?_|refine And.intro Q6 ?_|refine ah dO ?_|rw[t1]|rw[t2]|rw[e1]|rw[ep (n:=l) aa]|rw[ep (n:=y) aa]|rw[e2]|rw[e3]|rw[e4]|rw[ep (n:=(h*4294967296+l)/y) aa]|rw[oh hq]|rw[oh (n:=(h*4294967296+l) % y) aa]);conv=>whnf));exact au.refl _
theorem abO {n k:Nat} (h0:2^k≤n) (h1:n<2^(k+1)):sz n=k+1:=by
 have:=fo.2 h1
 have h2:¬sz n≤k:=fun h=>by have:=fo.1 h;omega
 omega
theorem xA {n k:Nat} (h:0<n/2^k):sz n=sz (n/2^k)+k:=by
 generalize hm:n/2^k=m at*
 have Zp:m≠0:=aa
 obtain⟨j,hj⟩:∃j,sz m=j+1:=⟨sz m - 1,by have:=Jz Zp;omega⟩
 have h1:m<2^(j+1):=fo.1 aa
 have h2:2^j≤m:=by
  refine Nat.le_of_not_lt fun h=> ?_
  have:=fo.2 h
  omega
 have hd:=Nat.div_add_mod n (2^k)
 have hl:=Nat.mod_lt n (Nat.two_pow_pos k)
 rw[hm]at hd
 rw[hj,abO (n:=n) (k:=j+k)]
 ·omega
 ·rw[Nat.pow_add]
  have:=Nat.mul_le_mul_left (2^k) h2
  rw[Nat.mul_comm (2^j)];omega
 ·rw[show j+k+1=k+(j+1)from aa,Nat.pow_add]
  have:=Nat.mul_le_mul_left (2^k) (show m+1≤2^(j+1)from h1)
  rw[Nat.mul_add,Nat.mul_one]at this
  omega
def Bk (s:ByteArray):Bool:=decide (s.size=256)&&(List.range 256).all (fun j=>s.data.getD j 0==UInt8.ofNat (sz j))
theorem pD {s:ByteArray} {j:Nat} (hj:j<256) (hs:Bk s=true):(0≤(j:Int)∧(j:Int)<(s.size:Int)):=by
 simp only[Bk,Bool.and_eq_true,decide_eq_true_eq]at hs
 omega
theorem Qs:∀j,j<256→sz j<256:=fun j hj=>Nat.lt_of_le_of_lt (fo.2 (show j<2^8 from hj)) aI
theorem vU {s:ByteArray} {j:Nat} (hj:j<256) (hs:Bk s=true):(s.data.getD (j:Int).toNat 0).toNat=sz j:=by
 simp only[Bk,Bool.and_eq_true,decide_eq_true_eq,List.all_eq_true,List.mem_range,beq_iff_eq]at hs
 rw[Int.toNat_natCast,hs.2 j hj]
 have:=Qs j hj
 simp only[UInt8.toNat_ofNat']
 omega
theorem wu8 {n:Nat} (h:n<256):IntKind.u8.wrap (n:Int)=n:=by simp[IntKind.wrap,IntKind.bits,IntKind.signed];omega
theorem abP {n:Nat} (h:n<9223372036854775808):IntKind.i64.wrap (n:Int)=n:=wrap_i64 aa aa
theorem NL (x:Nat) (hx:x<4294967296):
  ab Tryz.prog 362 [.val (.int .u32 x)] [] (.val (.int .i64 (sz x))) [] []:=by
 have s16:jK .u32 (x:Int) 16=((x/65536:Nat):Int):=jm .u32 (s:=16) aI
 have s8:∀y:Nat,jK .u32 (y:Int) 8=((y/256:Nat):Int):=fun y=>jm .u32 (s:=8) aI
 have fin:∀(j:Nat) (k:Int),j<256→(sz x:Int)=sz j+k→0≤k→k≤24→IntKind.i64.wrap (k+IntKind.i64.wrap ((sz j:Nat):Int))=(sz x:Nat):=fun j k hj h hk nu=>by
  have:=Qs j hj
  rw[abP (n:=sz j) aa,wrap_i64 aa aa];omega
 refine bT [] Tryz.func362 ?_
 intro W0 w0 ρ0 hE
 conv=>whnf
 by_cases h1:65536≤x
 ·have t1:decide ((x:Int)≥65536)=true:=by simp;omega
  by_cases h2:256≤x/65536
  ·have t2:decide (((x/65536:Nat):Int)≥256)=true:=by simp;omega
   (repeat((first|refine ag rfl rfl ?_|refine And.intro Q6 ?_|rw[t1]|rw[s16]|rw[t2]|rw[s8]|rw[wu8 (n:=x/65536/256) aa]);conv=>whnf))
   refine⟨pD aa av, ?_⟩
   conv=>whnf
   skip
   rw[vU (j:=x/65536/256) aa,show IntKind.i64.wrap (IntKind.i64.wrap (16+8)+IntKind.i64.wrap ((sz (x/65536/256):Nat):Int))=IntKind.i64.wrap (24+IntKind.i64.wrap ((sz (x/65536/256):Nat):Int))from rfl,fin (x/65536/256) 24 aa ?_ aa aa]
   ·exact au.refl _
   ·rw[xA (n:=x) (k:=24) aa,Nat.div_div_eq_div_mul];rfl
   ·kernel_rfl
  ·have t2:decide (((x/65536:Nat):Int)≥256)=false:=by simp;omega
   (repeat((first|refine ag rfl rfl ?_|refine ae rfl rfl ?_|refine And.intro Q6 ?_|rw[t1]|rw[s16]|rw[t2]|rw[wu8 (n:=x/65536) aa]);conv=>whnf))
   refine⟨pD aa av, ?_⟩
   conv=>whnf
   skip
   rw[vU (j:=x/65536) aa,fin (x/65536) 16 aa ?_ aa aa]
   ·exact au.refl _
   ·rw[xA (n:=x) (k:=16) aa];rfl
   ·kernel_rfl
 ·have t1:decide ((x:Int)≥65536)=false:=by simp;omega
  by_cases h2:256≤x
  ·have t2:decide ((x:Int)≥256)=true:=by simp;omega
   (repeat((first|refine ag rfl rfl ?_|refine ae rfl rfl ?_|refine And.intro Q6 ?_|rw[t1]|rw[t2]|rw[s8]|rw[wu8 (n:=x/256) aa]);conv=>whnf))
   refine⟨pD aa av, ?_⟩
   conv=>whnf
   skip
   rw[vU (j:=x/256) aa,show IntKind.i64.wrap (0+8)=8 from rfl,fin (x/256) 8 aa ?_ aa aa]
   ·exact au.refl _
   ·rw[xA (n:=x) (k:=8) aa];rfl
   ·kernel_rfl
  ·have t2:decide ((x:Int)≥256)=false:=by simp;omega
   (repeat((first|refine ae rfl rfl ?_|rw[t1]|rw[t2]|rw[wu8 (n:=x) aa]);conv=>whnf))
   refine⟨pD aa av, ?_⟩
   conv=>whnf
   skip
   rw[vU (j:=x) aa,fin x 0 aa aa aa aa]
   ·exact au.refl _
   ·kernel_rfl
theorem Ye (x:Nat) (hx:x<4294967296):
  ab Tryz.prog 358 [.val (.int .u32 x)] [] (.val (.int .i64 ((32 - sz x:Nat)))) [] []:=by
 have k1:=NL x hx
 have:=fo.2 (show x<2^32 from hx)
 have e:IntKind.i64.wrap (32 - ((sz x:Nat):Int))=((32 - sz x:Nat):Int):=by rw[wrap_i64 aa aa];omega
 refine bT [] Tryz.func358 ?_
 intro W0 w0 ρ0 hE
 conv=>whnf
 (repeat(first|(refine aS (by assumption) ?_;conv=>whnf)|(rw[e];conv=>whnf)))
 exact au.refl _
def cA (n:Nat):List Int:=if n<18446744073709551616 then[((n % 4294967296:Nat):Int),((n/4294967296:Nat):Int)]else af n
theorem cF (n:Nat):(af n).length≤(cA n).length:=by
 unfold cA
 split
 ·rename_i h
  exact gL (k:=2) (by simpa using h)
 ·exact Nat.le_refl _
theorem ER {n:Nat} (h:n<18446744073709551616):cA n=[((n % 4294967296:Nat):Int),((n/4294967296:Nat):Int)]:=by rw[cA,if_pos h]
theorem mT (n:Nat):fL (cA n):=by
 unfold cA
 split
 ·refine Be fun x hx=> ?_
  simp only[List.mem_cons,List.not_mem_nil,or_false]at hx
  rcases hx with rfl|rfl<;>omega
 ·exact bh n
theorem Hz {n:Nat} (h:n<18446744073709551616):gZ [((n % 4294967296:Nat):Int),((n/4294967296:Nat):Int)] 2=(af n).length:=by
 have e1:∀m:Nat,m<4294967296→m≠0→af m=[(m:Int)]:=fun m hm h0=>by
  rw[gE h0,Nat.mod_eq_of_lt hm,Nat.div_eq_of_lt hm,gD]
 by_cases h1:n/4294967296=0
 ·by_cases h2:n=0
  ·subst h2;rfl
  ·rw[e1 n aa h2]
   have:n % 4294967296≠0:=aa
   simp[gZ,h1];omega
 ·have hn:n≠0:=aa
  rw[gE hn,e1 _ aa h1]
  simp[gZ];omega
theorem C1 {n:Nat} (h:n<18446744073709551616) (hn:n≠0):af n=if n/4294967296=0 then[((n % 4294967296:Nat):Int)]else[((n % 4294967296:Nat):Int),((n/4294967296:Nat):Int)]:=by
 rw[gE hn]
 split
 ·rename_i h1;rw[h1,gD]
 ·rename_i h1
  rw[gE h1,Nat.div_eq_of_lt (a:=n/4294967296) aa,gD,Nat.mod_eq_of_lt (a:=n/4294967296) aa]
theorem eb {n i:Nat} (hi:i<(af n).length):(cA n).getD i 0=(af n).getD i 0:=by
 unfold cA
 split
 ·rename_i h
  have hn:n≠0:=fun h0=>by subst h0;simp[gD]at hi
  rw[C1 h hn]at hi ⊢
  split at hi
  ·rename_i h1
   obtain rfl:i=0:=by simpa using hi
   rw[if_pos h1];rfl
  ·rename_i h1
   rw[if_neg h1]
 ·rfl
theorem xB (n:Nat):aB (cA n) (af n).length=n:=by
 rw[qE (ys:=af n) (fun i hi=>eb hi),eM]
theorem HA (n:Nat) (K:Nat) (h:n<18446744073709551616):
  ab Tryz.prog 285 [.nat n] [] (.aO K 1 0 (af n).length) [(K,⟨23,true,.ints .u32 (cA n)⟩)] []:=by
 rw[ER h]
 refine gh (Z:=[]) aJ bO Tryz.func285 rfl av (args:=[.nat n]) (fk:=[]) (c:=.aO 16 1 0 (af n).length) (new:=[(16,⟨23,true,.ints .u32 [((n % 4294967296:Nat):Int),((n/4294967296:Nat):Int)]⟩)]) (upd:=[]) ?_ rfl (fun _=>K) ?_ ?_
 ·exact⟨rfl,rfl,rfl,rfl,rfl,(fun _ _ h=>by cases h),(fun k b h hw=>by cases h),rfl,rfl,rfl,rfl⟩
 ·exact⟨(fun q q' b b' h h' bW=>by cases h),(fun m m' h1 h2 bW=>by simp[az]at h1 h2;omega),(fun _ _ h1 h2=>by simp[az]at h2)⟩
 intro W0 w0 ρ0 hE
 conv=>whnf
 rw[dq,decide_eq_true h]
 have e1:IntKind.u32.wrap (n:Int)=((n % 4294967296:Nat):Int):=oO n
 have e2:IntKind.u32.wrap (jK .u64 (n:Int) 32)=((n/4294967296:Nat):Int):=by rw[fN,oh aa]
 (repeat((first|refine ag rfl rfl ?_|refine And.intro Q6 ?_|rw[cu h]|rw[e1]|rw[e2]);conv=>whnf))
 refine⟨_,_,[],[],JT [((n % 4294967296:Nat):Int),((n/4294967296:Nat):Int)] 2 (Nat.le_refl 2) (by simp) 16 true,dh rfl,aA,ar, ?_⟩
 rw[Hz h]
 conv=>whnf
 skip
 exact⟨au.refl _,rS rfl,(fun _ _ h=>by cases h)⟩
theorem abQ (l:List Nat) (i k:Nat) (hk:k<4):(l.flatMap bH).getD (4*i+k) 0=if i<l.length then(bH (l.getD i 0)).getD k 0 else 0:=by
 induction l generalizing i with
 |nil=>simp
 |cons x l ih=>
  have h4:(bH x).length=4:=rfl
  rw[List.flatMap_cons]
  cases i with
  |zero=>
   rw[List.getD_eq_getElem?_getD,List.getElem?_append_left aa,Nat.mul_zero,Nat.zero_add,if_pos (by simp),List.getD_cons_zero,List.getD_eq_getElem?_getD]
  |succ i=>
   have:=ih i
   rw[List.getD_eq_getElem?_getD]at this
   rw[List.getD_eq_getElem?_getD,List.getElem?_append_right aa,h4,show 4*(i+1)+k - 4=4*i+k from aa,this,List.getD_cons_succ]
   simp
theorem JV {n i k:Nat} (h:¬n<18446744073709551616) (hi:i<(af n).length) (hk:k<4):
  (((qg n).data.getD (4*i+k) 0).toNat:Int)=(af n).getD i 0/256^k % 256:=by
 have uv:qg n=⟨((words n).flatMap bH).toArray⟩:=by simp[qg,h]
 have e1:(af n).getD i 0=(((words n).getD i 0:Nat):Int):=by
  simp only[af,List.getD_eq_getElem?_getD,List.getElem?_map]
  cases (words n)[i]? <;>rfl
 have jx:i<(words n).length:=by rw[←rR];exact hi
 rw[uv,e1]
 show((((words n).flatMap bH).toArray.getD (4*i+k) 0).toNat:Int)=_
 have e2:((words n).flatMap bH).toArray.getD (4*i+k) 0=((words n).flatMap bH).getD (4*i+k) 0:=by
  rw[Array.getD_eq_getD_getElem?,List.getD_eq_getElem?_getD];simp
 rw[e2,abQ _ _ _ hk,if_pos jx]
 have hc:k=0∨k=1∨k=2∨k=3:=aa
 rcases hc with rfl|rfl|rfl|rfl<;>simp[bH,UInt8.toNat_ofNat']<;>omega
theorem JW {n:Nat} (h:¬n<18446744073709551616):(qg n).size=4*(af n).length:=by
 have uv:qg n=⟨((words n).flatMap bH).toArray⟩:=by simp[qg,h]
 rw[uv,rR]
 show((words n).flatMap bH).toArray.size=_
 rw[List.size_toArray]
 generalize words n=l
 induction l with
 |nil=>rfl
 |cons x l ih=>rw[List.flatMap_cons,List.length_append,ih,List.length_cons,show(bH x).length=4 from rfl];omega
theorem NM {x:Int} {k:Nat} (hx:0≤x∧x<4294967296) (hk:k<4):
  D7 .u32 (x % 256^k) (jJ .u32 (IntKind.u32.wrap (x/256^k % 256)) ((8*k:Nat):Int))=x % 256^(k+1):=by
 obtain⟨n,rfl⟩:=Int.eq_ofNat_of_zero_le hx.1
 have key:∀(p:Nat) (s:Nat),s≤24→p=2^s→D7 .u32 ((n % p:Nat):Int) (jJ .u32 (((n/p % 256:Nat)):Int) (s:Int))=((n % (p*256):Nat):Int):=by
  intro p s hs hp
  have p9:0<p:=by rw[hp];exact Nat.two_pow_pos s
  have abR:p≤16777216:=by rw[hp];exact Nat.le_trans (Nat.pow_le_pow_right aI hs) aI
  have h1:n % p<p:=Nat.mod_lt _ p9
  have h2:n/p % 256<256:=Nat.mod_lt _ aI
  have e:jJ .u32 (((n/p % 256:Nat)):Int) (s:Int)=((p*(n/p % 256):Nat):Int):=by
   have JX:min (s:Int).toNat IntKind.u32.bits=s:=by simp[IntKind.bits];omega
   rw[jJ,JX]
   have:((n/p % 256:Nat):Int)*2^s=((p*(n/p % 256):Nat):Int):=by
    rw[Int.natCast_mul,hp,Int.natCast_pow,Int.mul_comm];rfl
   rw[this]
   refine oh ?_
   have:=Nat.mul_le_mul abR (show n/p % 256≤255 by omega)
   omega
  have aE:p*(n/p % 256)<4294967296:=by
   have:=Nat.mul_le_mul abR (show n/p % 256≤255 by omega)
   omega
  rw[e,vT aa aE,Nat.or_comm,hp,←Nat.two_pow_add_eq_or_of_lt (by rw[←hp];exact h1),←hp,Nat.mod_mul,Nat.add_comm]
 have hp:(256:Int)^k=((256^k:Nat):Int):=by rw[Int.natCast_pow];rfl
 have cc:(256:Int)^(k+1)=((256^k*256:Nat):Int):=by rw[←Nat.pow_succ,Int.natCast_pow];rfl
 have:=key (256^k) (8*k) aa (by rw[Nat.pow_mul])
 rw[hp,cc]
 simp only[←Int.natCast_emod,←Int.natCast_ediv]
 rw[show(((n/256^k:Nat):Int) % 256)=((n/256^k % 256:Nat):Int)from by rw[Int.natCast_emod];rfl,oh aa]
 exact this
theorem HB (n:Nat) (K:Nat) (h:¬n<18446744073709551616) (hl:(af n).length<1099511627776):
  ab Tryz.prog 285 [.nat n] [] (.aO K 1 0 (af n).length) [(K,⟨23,true,.ints .u32 (cA n)⟩)] []:=by
 rw[show cA n=af n from if_neg h]
 refine gh (Z:=[]) aJ bO Tryz.func285 rfl av (args:=[.nat n]) (fk:=[]) (c:=.aO 22 1 0 (af n).length) (new:=[(22,⟨23,true,.ints .u32 (af n)⟩)]) (upd:=[]) ?_ rfl (fun _=>K) ?_ ?_
 ·exact⟨rfl,rfl,rfl,rfl,rfl,(fun _ _ h=>by cases h),(fun k b h hw=>by cases h),rfl,rfl,rfl,rfl⟩
 ·exact⟨(fun q q' b b' h h' bW=>by cases h),(fun m m' h1 h2 bW=>by simp[az]at h1 h2;omega),(fun _ _ h1 h2=>by simp[az]at h2)⟩
 intro W0 w0 ρ0 hE
 conv=>whnf
 rw[dq,decide_eq_false h]
 have hs:=JW h
 have eL:IntKind.i64.wrap (((qg n).size:Int).tdiv 4)=((af n).length:Int):=by
  rw[hs,show((4*(af n).length:Nat):Int)=4*((af n).length:Int)from aa,Int.mul_tdiv_cancel_left _ aI,abP aa]
 have hb:=fun i k hi hk=>JV (n:=n) (i:=i) (k:=k) h hi hk
 have adN:=bh n
 generalize hw:af n=ws at*
 (repeat(first|(refine ae rfl rfl ?_;conv=>whnf)|(refine And.intro Q6 ?_;conv=>whnf)|(rw[eL];conv=>whnf)))
 refine aj hE (fun k=>k) [1,3,24,25] [1,22] (fun m fr hp=>∃i,m=ws.length - i∧i≤ws.length∧fr=[(1,.ptr 1 0 0 0),(3,.aO 22 1 0 ws.length),(24,.val (.int .i64 ws.length)),(25,.val (.int .i64 (i:Nat)))]∧hp=[(1,⟨46,true,.one [.nat n]⟩),(22,⟨23,true,.ints .u32 (ws.take i++List.replicate (ws.length - i) 0)⟩)]) ws.length ?_ ?_ ?_
 ·kernel_rfl
 ·exact⟨0,rfl,aa,rfl,rfl⟩
 rintro m _ _ ⟨i,rfl,hi,rfl,rfl⟩
 conv=>whnf
 refine⟨fun h=> ?_,fun h=> ?_⟩
 ·have jx:i<ws.length:=by have:=of_decide_eq_true h;omega
  conv=>whnf
  skip
  have yM:ws.take i++List.replicate (ws.length - i) (0:Int)=ws.take i++(ws.getD i 0 % 256^0)::List.replicate (ws.length - (i+1)) 0:=by
   rw[show ws.length - i=(ws.length - (i+1))+1 from aa,List.replicate_succ]
   congr 2
   rw[Int.pow_zero];omega
  rw[yM]
  have aE:(ws.take i).length=i:=by rw[List.length_take];omega
  have mJ:∀(a:Int) r,(ws.take i++a::r).getD i 0=a:=fun a r=>by
   rw[jo,aE,if_neg aa,Nat.sub_self];rfl
  have qv:∀(a v:Int) r,(ws.take i++a::r).set i v=ws.take i++v::r:=fun a v r=>by
   rw[List.set_append_right _ _ aa,aE,Nat.sub_self];rfl
  have hx:=adN i
  refine aj hE (fun k=>k) [1,3,4,24,25,28] [1,22] (fun m fr hp=>∃k,m=4 - k∧k≤4∧fr=[(1,.ptr 1 0 0 0),(3,.aO 22 1 0 ws.length),(4,.val (.int .i64 (i:Nat))),(24,.val (.int .i64 ws.length)),(25,.val (.int .i64 (i:Nat))),(28,.val (.int .i64 (k:Nat)))]∧hp=[(1,⟨46,true,.one [.nat n]⟩),(22,⟨23,true,.ints .u32 (ws.take i++(ws.getD i 0 % 256^k)::List.replicate (ws.length - (i+1)) 0)⟩)]) 4 ?_ ?_ ?_
  ·kernel_rfl
  ·exact⟨0,rfl,aa,rfl,rfl⟩
  rintro m _ _ ⟨k,rfl,hk,rfl,rfl⟩
  conv=>whnf
  refine⟨fun h=> ?_,fun h=> ?_⟩
  ·have nu:k<4:=by have:=of_decide_eq_true h;omega
   conv=>whnf
   have f1:IntKind.i64.wrap (4*(i:Int))=((4*i:Nat):Int):=by rw[wrap_i64 aa aa];omega
   have f2:IntKind.i64.wrap (((4*i:Nat):Int)+(k:Int))=((4*i+k:Nat):Int):=by rw[wrap_i64 aa aa];omega
   have f3:IntKind.i64.wrap (8*(k:Int))=((8*k:Nat):Int):=by rw[wrap_i64 aa aa];omega
   have f4:IntKind.i64.wrap ((k:Int)+1)=((k+1:Nat):Int):=by rw[wrap_i64 aa aa];omega
   have hll:(ws.take i++(ws.getD i 0 % 256^k)::List.replicate (ws.length - (i+1)) 0).length=ws.length:=by
    simp only[List.length_append,List.length_cons,List.length_replicate,aE];omega
   have afU:0+(i:Int).toNat<(ws.take i++(ws.getD i 0 % 256^k)::List.replicate (ws.length - (i+1)) 0).length:=by rw[hll];omega
   have f5:(((qg n).data.getD ((4*i+k:Nat):Int).toNat 0).toNat:Int)=ws.getD i 0/256^k % 256:=hb i k jx nu
   have f6:=NM hx nu
   (repeat((first|refine aq av ?_|refine And.intro Q6 ?_|rw[show 0+(i:Int).toNat=i from by omega]|rw[mJ]|rw[f1]|rw[f2]|rw[f3]);conv=>whnf))
   rw[qv,f5,f6,f4]
   exact⟨4 - (k+1),fun k=>k,[1,3,4,24,25,28],[1,22],aa,av,k+1,rfl,aa,rfl,rfl⟩
  ·have nu:k=4:=by have:=of_decide_eq_false h;omega
   subst nu
   have f4:IntKind.i64.wrap ((i:Int)+1)=((i+1:Nat):Int):=by rw[wrap_i64 aa aa];omega
   have C2:ws.take i++(ws.getD i 0 % 256^4)::List.replicate (ws.length - (i+1)) 0=ws.take (i+1)++List.replicate (ws.length - (i+1)) 0:=by
    rw[show(256:Int)^4=4294967296 from rfl,Int.emod_eq_of_lt hx.1 hx.2,List.take_add_one,List.append_assoc]
    have:ws[i]? =some (ws.getD i 0):=by rw[List.getD_eq_getElem?_getD,List.getElem?_eq_getElem jx];rfl
    rw[this];rfl
   rw[C2]
   conv=>whnf
   (repeat(first|(rw[f4];conv=>whnf)))
   exact⟨ws.length - (i+1),fun k=>k,[1,3,24,25],[1,22],aa,av,i+1,rfl,aa,rfl,rfl⟩
 ·have jx:i=ws.length:=by have:=of_decide_eq_false h;omega
  subst jx
  conv=>whnf
  rw[List.take_length,Nat.sub_self,List.replicate_zero,List.append_nil]
  exact⟨au.refl _,rS rfl,(fun _ _ h=>by cases h)⟩
theorem iq (n:Nat) (K:Nat) (hl:(af n).length<1099511627776):
  ab Tryz.prog 285 [.nat n] [] (.aO K 1 0 (af n).length) [(K,⟨23,true,.ints .u32 (cA n)⟩)] []:=by
 by_cases h:n<18446744073709551616
 ·exact HA n K h
 ·exact HB n K h hl
theorem Yf (z:Int):ab Tryz.prog 337 [.val (.int .i64 z)] [] (.val (.int .i64 z.sign)) [] []:=by
 refine bT [] Tryz.func337 ?_
 intro W0 w0 ρ0 hE
 conv=>whnf
 skip
 have e:(if (if z<1 then z else 1)> -1 then(if z<1 then z else 1)else -1)=z.sign:=by
  rcases Int.lt_trichotomy z 0 with h|h|h
  ·rw[Int.sign_eq_neg_one_of_neg h];split<;>(try split at*)<;>omega
  ·subst h;rfl
  ·rw[Int.sign_eq_one_of_pos h];split<;>(try split at*)<;>omega
 rw[e]
 exact au.refl _
theorem zO {xs ys:List Int} {j:Nat}:∀{n:Nat},j≤n→(∀i,j≤i→i<n→xs.getD i 0=ys.getD i 0)→aB xs n - aB ys n=aB xs j - aB ys j
 |0,h,_=>by obtain rfl:j=0:=aa
            rfl
 |n+1,h,he=>by
  by_cases hj:j=n+1
  ·rw[hj]
  ·have:=zO (n:=n) aa (fun i h1 h2=>he i h1 aa)
   rw[aB,aB,he n aa aa];omega
theorem xC {xs ys:List Int} (hx:fL xs) (hy:fL ys) {j:Nat} (h:xs.getD j 0<ys.getD j 0):aB xs (j+1)<aB ys (j+1):=by
 have h1:=gy hx j
 have h2:=b8 hy j
 have h3:(xs.getD j 0+1)*4294967296^j≤ys.getD j 0*4294967296^j:=Int.mul_le_mul_of_nonneg_right aa (Int.le_of_lt (mM j))
 rw[Int.add_mul,Int.one_mul]at h3
 rw[aB,aB];omega
theorem vi {xs ys:List Int} (hx:fL xs) (hy:fL ys) {n m:Nat} (h:n<m) (ht:ys.getD (m - 1) 0≠0):aB xs n<aB ys m:=by
 obtain⟨j,rfl⟩:∃j,m=j+1:=⟨m - 1,aa⟩
 have h1:=gy hx n
 have h2:=rP hy (k:=j) (by simpa using ht)
 have h3:(4294967296:Int)^n≤4294967296^j:=by
  have:(4294967296:Nat)^n≤4294967296^j:=Nat.pow_le_pow_right aI aa
  rw[←cX,←cX];exact Int.ofNat_le.2 this
 omega
theorem abS (xs ys:List Int) (n m:Nat) (hn:n≤xs.length) (hm:m≤ys.length) (MZ:xs.length<4611686018427387904) (Hf:ys.length<4611686018427387904) (hx:fL xs) (hy:fL ys)
  (hxt:n=0∨xs.getD (n - 1) 0≠0) (hyt:m=0∨ys.getD (m - 1) 0≠0) (K L:Nat) (wr wr':Bool):
  ab Tryz.prog 284 [.aO K 1 0 n,.aO L 1 0 m] [(K,⟨23,wr,.ints .u32 xs⟩),(L,⟨23,wr',.ints .u32 ys⟩)] (.val (.int .i64 (aB xs n - aB ys m).sign)) [] []:=by
 refine ab.rN ?_
 refine gh (Z:=[]) aJ bO Tryz.func284 rfl av (args:=[.aO 0 1 0 n,.aO 1 1 0 m]) (fk:=[(0,⟨23,false,.ints .u32 xs⟩),(1,⟨23,false,.ints .u32 ys⟩)]) (c:=.val (.int .i64 (aB xs n - aB ys m).sign)) (new:=[]) (upd:=[]) (cI.of rfl rfl rfl rfl rfl rfl rfl rfl rfl rfl rfl) rfl (cE [(0,K),(1,L)]) (bo.ro rfl) ?_
 intro W0 w0 ρ0 hE
 conv=>whnf
 by_cases I1:n=m
 ·subst I1
  have t1:(((n:Nat):Int) != (n:Nat))=false:=by simp
  have e0:IntKind.i64.wrap ((n:Int) - 1)=(n:Int) - 1:=wrap_i64 aa aa
  (repeat(first|(refine ae rfl rfl ?_;conv=>whnf)|(rw[bne_self_eq_false];conv=>whnf)|(rw[e0];conv=>whnf)))
  refine aj hE (fun k=>k) [0,1,5] [0,1] (fun m fr hp=>m≤n∧(∀i,m≤i→i<n→xs.getD i 0=ys.getD i 0)∧fr=[(0,.aO 0 1 0 n),(1,.aO 1 1 0 n),(5,.val (.int .i64 ((m:Int) - 1)))]∧hp=[(0,⟨23,false,.ints .u32 xs⟩),(1,⟨23,false,.ints .u32 ys⟩)]) n ?_ ?_ ?_
  ·kernel_rfl
  ·exact⟨aa,(fun i h1 h2=>aa),rfl,rfl⟩
  rintro j _ _ ⟨hj,heq,rfl,rfl⟩
  rw[zO (j:=j) hj heq]
  by_cases h0:j=0
  ·subst h0
   have t2:decide (((0:Nat):Int) - 1≥0)=false:=rfl
   conv=>whnf
   (repeat(first|(refine ae rfl rfl ?_;conv=>whnf)))
   exact⟨au.refl _,(fun _ _ h=>by cases h),(fun _ _ h=>by cases h)⟩
  ·obtain⟨i,rfl⟩:∃i,j=i+1:=⟨j - 1,aa⟩
   have ei:(((i+1:Nat):Int) - 1)=(i:Int):=aa
   rw[ei]
   have t2:decide ((i:Int)≥0)=true:=decide_eq_true aa
   have e1:0+(i:Int).toNat=i:=aa
   have e2:IntKind.i64.wrap ((i:Int) - 1)=(i:Int) - 1:=wrap_i64 aa aa
   by_cases bW:xs.getD i 0=ys.getD i 0
   ·have t3:(xs.getD i 0 != ys.getD i 0)=false:=by rw[bW];exact bne_self_eq_false _
    conv=>whnf
    (repeat((first|refine ag rfl rfl ?_|refine ae rfl rfl ?_|refine aq av ?_|refine And.intro Q6 ?_|rw[t2]|rw[e1]|rw[t3]|rw[e2]);conv=>whnf))
    exact⟨i,fun k=>k,[0,1,5],[0,1],aa,av,aa,(fun q h1 h2=>by
     by_cases hq:q=i
     ·rw[hq];exact bW
     ·exact heq q aa h2),rfl,rfl⟩
   ·have t3:(xs.getD i 0 != ys.getD i 0)=true:=bne_iff_ne.2 bW
    by_cases aE:xs.getD i 0<ys.getD i 0
    ·have t4:decide (xs.getD i 0<ys.getD i 0)=true:=decide_eq_true aE
     have:=xC hx hy aE
     rw[Int.sign_eq_neg_one_of_neg aa]
     conv=>whnf
     (repeat((first|refine ag rfl rfl ?_|refine aq av ?_|refine And.intro Q6 ?_|rw[t2]|rw[e1]|rw[t3]|rw[t4]);conv=>whnf))
     exact⟨au.refl _,(fun _ _ h=>by cases h),(fun _ _ h=>by cases h)⟩
    ·have t4:decide (xs.getD i 0<ys.getD i 0)=false:=decide_eq_false aE
     have:=xC hy hx (j:=i) aa
     rw[Int.sign_eq_one_of_pos aa]
     conv=>whnf
     (repeat((first|refine ag rfl rfl ?_|refine ae rfl rfl ?_|refine aq av ?_|refine And.intro Q6 ?_|rw[t2]|rw[e1]|rw[t3]|rw[t4]);conv=>whnf))
     exact⟨au.refl _,(fun _ _ h=>by cases h),(fun _ _ h=>by cases h)⟩
 ·have t1:(((n:Nat):Int) != (m:Nat))=true:=bne_iff_ne.2 aa
  have e0:IntKind.i64.wrap ((n:Int) - m)=(n:Int) - m:=wrap_i64 aa aa
  have k1:=Yf ((n:Int) - m)
  have e:((n:Int) - m).sign=(aB xs n - aB ys m).sign:=by
   by_cases h:n<m
   ·have:=vi hx hy h (hyt.resolve_left aa)
    rw[Int.sign_eq_neg_one_of_neg aa,Int.sign_eq_neg_one_of_neg aa]
   ·have:=vi hy hx (show m<n by omega) (hxt.resolve_left aa)
    rw[Int.sign_eq_one_of_pos aa,Int.sign_eq_one_of_pos aa]
  rw[e]at k1
  (repeat((first|refine ag rfl rfl ?_|refine aS (by assumption) ?_|rw[t1]|rw[e0]);conv=>whnf))
  exact⟨au.refl _,(fun _ _ h=>by cases h),(fun _ _ h=>by cases h)⟩
theorem ES (n:Nat):(af n).length=0∨(cA n).getD ((af n).length - 1) 0≠0:=by
 by_cases h:n=0
 ·subst h;exact .inl rfl
 ·obtain⟨h1,h2⟩:=mN h
  exact .inr (by rw[eb aa];exact h2)
theorem Gi {n M:Nat} (h:sz n≤32*M):(af n).length≤M:=gL (by
 have:=fo.1 h
 rwa [Nat.pow_mul]at this)
theorem ux (n:Nat) {M:Nat} (h:(af n).length≤M) (h2:2≤M):(cA n).length≤M:=by
 unfold cA
 split
 ·exact h2
 ·exact h
theorem C3 (a b:Nat) (ha:(af a).length<1099511627776) (hb:(af b).length<1099511627776):
  ab Tryz.prog 182 [.nat a,.nat b] [] (.val (.int .i64 ((a:Int) - b).sign)) [] []:=by
 by_cases h:a<18446744073709551616∧b<18446744073709551616
 ·exact JR a b h.1 h.2
 ·have ka:=iq a 1001 ha
  have kb:=iq b 1002 hb
  have kc:=abS (cA a) (cA b) (af a).length (af b).length (cF a) (cF b) (by have:=ux a (M:=1099511627776) aa aa;omega) (by have:=ux b (M:=1099511627776) aa aa;omega) (mT a) (mT b) (ES a) (ES b) 1001 1002 true true
  rw[xB,xB]at kc
  refine bT [] Tryz.func182 ?_
  intro W0 w0 ρ0 hE
  conv=>whnf
  by_cases h1:a<18446744073709551616
  ·rw[dq,decide_eq_true h1]
   (repeat(first|(refine ag rfl rfl ?_;conv=>whnf)|(refine ah dO ?_;conv=>whnf)))
   rw[dq,decide_eq_false (show ¬b<18446744073709551616 by omega)]
   (repeat((first|refine ae rfl rfl ?_|refine aq av ?_|refine lG (by assumption) rfl ?_|refine Z0 (by assumption) rfl rfl ?_);conv=>whnf));exact au.refl _
  ·rw[dq,decide_eq_false h1]
   (repeat((first|refine ae rfl rfl ?_|refine aq av ?_|refine lG (by assumption) rfl ?_|refine Z0 (by assumption) rfl rfl ?_|refine ah dP ?_);conv=>whnf));exact au.refl _
theorem cJ (n:Nat) {k:Nat} (h:(af n).length≤k):aB (af n) k=n:=by
 rw[eD (k:=(af n).length) (fun i h1 _=>dY h1) h,eM]
theorem HC (n:Nat):(cA n).take (af n).length=af n:=by
 refine List.ext_getElem? fun i=> ?_
 have hl:=cF n
 by_cases hi:i<(af n).length
 ·have h:=eb (n:=n) hi
  rw[List.getD_eq_getElem?_getD,List.getD_eq_getElem?_getD,List.getElem?_eq_getElem hi,List.getElem?_eq_getElem (show i<(cA n).length by omega)]at h
  rw[List.getElem?_take,if_pos hi,List.getElem?_eq_getElem hi,List.getElem?_eq_getElem (show i<(cA n).length by omega)]
  simpa using h
 ·rw[List.getElem?_eq_none (l:=af n) aa,List.getElem?_eq_none (by rw[List.length_take];omega)]
theorem gN (n:Nat):vh (.ints .u32 (List.replicate ((af n).length+1) 0)) 0 (.ints .u32 (cA n)) 0 (af n).length=some (.ints .u32 (af n++[0])):=by
 simp only[vh,if_true,List.take_zero,List.nil_append,List.drop_zero,Nat.zero_add,HC,List.drop_replicate]
 rw[show(af n).length+1 - (af n).length=1 from by omega]
 rfl
theorem mU {xs:List Int} (h:fL xs):fL (xs++[0]):=by
 intro i
 rw[jo]
 split
 ·exact h i
 ·cases i - xs.length with
  |zero=>decide
  |succ j=>simp
theorem jZ (xs:List Int) (j:Nat):(xs++[0]).getD j 0=xs.getD j 0:=by
 rw[jo]
 split
 ·rfl
 ·rename_i h
  rw[dY (xs:=xs) aa]
  cases j - xs.length<;>simp
theorem mV {X Y out:List Int} {i o w c:Nat} (hi:i<out.length) (ho:out.getD i 0=o) (hX:X.getD i 0=o) (hY:Y.getD i 0=w) (hv:aB out i+c*4294967296^i=aB X i+aB Y i):
  aB (out.set i (((o+w+c) % 4294967296:Nat):Int)) (i+1)+(((o+w+c)/4294967296:Nat):Int)*4294967296^(i+1)=aB X (i+1)+aB Y (i+1):=by
 rw[aB,aB,aB,c9 (Nat.le_refl i),aZ,if_pos ⟨rfl,hi⟩,hX,hY,Int.pow_succ]
 have hd:(((o+w+c) % 4294967296:Nat):Int)=(o:Int)+w+c - (((o+w+c)/4294967296:Nat):Int)*4294967296:=aa
 rw[hd]
 generalize (((o+w+c)/4294967296:Nat):Int)=q
 generalize (4294967296:Int)^i=P at*
 grind
theorem pE {x y lx ly c:Nat} {v:Int} (hc:c≤1) (h0:0≤v) (hv:v+c*4294967296^(lx+1)=x+y) (hx:x<4294967296^lx) (hy:y<4294967296^ly) (hl:ly≤lx):v.toNat=x+y:=by
 have h1:4294967296^ly≤4294967296^lx:=Nat.pow_le_pow_right aI hl
 have h2:(4294967296:Int)^(lx+1)=((4294967296^lx:Nat):Int)*4294967296:=by rw[cX,Int.pow_succ]
 rw[h2]at hv
 have om:c=0∨c=1:=aa
 rcases om with rfl|rfl<;>omega
theorem Qt (a b:Nat) (ha:(af a).length<549755813888) (hb:(af b).length<549755813888):
  ab Tryz.prog 297 [.nat a,.nat b] [] (.nat (a+b)) [] []:=by
 by_cases hs:a+b<18446744073709551616
 ·exact abJ a b hs
 ·have ka:=iq a 1001 aa
  have kb:=iq b 1002 aa
  refine bT [] Tryz.func297 ?_
  intro W0 w0 ρ0 hE
  conv=>whnf
  by_cases h1:a<18446744073709551616
  ·rw[dq,decide_eq_true h1]
   (repeat(first|(refine ag rfl rfl ?_;conv=>whnf)|(refine ah dO ?_;conv=>whnf)))
   by_cases h2:b<18446744073709551616
   ·rw[dq,decide_eq_true h2]
    have k64:=Gg a b h1 h2
    rw[show(a+b)/18446744073709551616=1 from by omega]at k64
    (repeat((first|refine ag rfl rfl ?_|refine ae rfl rfl ?_|refine aq av ?_|refine aS (by assumption) ?_|refine lG (by assumption) rfl ?_|rw[cu h1]|rw[cu h2]);conv=>whnf))
    skip
    by_cases hl:(af a).length<(af b).length
    ·rw[decide_eq_true (show((af a).length:Int)<((af b).length:Int) by omega)]
     have ew:IntKind.i64.wrap (((af b).length:Int)+1)=(((af b).length+1:Nat):Int):=by rw[wrap_i64 aa aa];omega
     (repeat(first|(refine ag rfl rfl ?_;conv=>whnf)|(refine And.intro Q6 ?_;conv=>whnf)|(rw[ew];conv=>whnf)))
     refine⟨_,[(47,⟨23,true,.ints .u32 (List.replicate ((af b).length+1) 0)⟩),(1002,⟨23,true,.ints .u32 (cA b)⟩)],[],[(47,⟨23,true,.ints .u32 (af b++[0])⟩)],pB (c:=(af b).length) (n:=(af b).length+1) rfl rfl rfl (ak rfl) (ak rfl) (aJ.get (t:=316) rfl) rfl (aJ.get (t:=23) rfl) (List.mem_cons_self ..) (List.mem_cons_of_mem _ (List.mem_cons_self ..)) rfl rfl rfl rfl (by simp[en]) (by show 0+_≤(cA b).length;have:=cF b;omega) (Nat.min_eq_left (Nat.le_succ _)).symm (gN b),fY rfl rfl,aA,dd (List.mem_cons_self ..) rfl rfl rfl, ?_⟩
     conv=>whnf
     skip
     refine aj hE (fun k=>k) [4,8,9,10,52,53] [4,1001,47] (fun m fr hp=>∃(i:Nat) (out:List Int) (c:Nat),m=(af b).length+1 - i∧i≤(af b).length+1∧c≤1∧out.length=(af b).length+1∧fL out∧(∀j,i≤j→out.getD j 0=(af b).getD j 0)∧aB out i+c*4294967296^i=aB (af b) i+aB (af a) i∧
      fr=[(4,.ptr 4 0 0 0),(8,.aO 1001 1 0 (af a).length),(9,.aO 47 1 0 ((af b).length+1)),(10,.val (.int .u32 c)),(52,.val (.int .i64 (((af b).length+1:Nat)))),(53,.val (.int .i64 i))]∧hp=[(4,⟨46,true,.one [.nat 0]⟩),(1001,⟨23,true,.ints .u32 (cA a)⟩),(47,⟨23,true,.ints .u32 out⟩)]) ((af b).length+1) ?_ ?_ ?_
     ·kernel_rfl
     ·exact⟨0,af b++[0],0,aa,aa,aa,by simp,mU (bh b),(fun j _=>jZ _ j),by simp[aB],rfl,rfl⟩
     rintro m _ _ ⟨i,out,c,rfl,hi,hc,hlen,hw,cx,bZ,rfl,rfl⟩
     by_cases aE:i<(af b).length+1
     ·have t1:decide ((i:Int)<(((af b).length+1:Nat):Int))=true:=decide_eq_true aa
      have e1:0+(i:Int).toNat=i:=aa
      have e2:IntKind.i64.wrap ((i:Int)+1)=((i+1:Nat):Int):=by rw[wrap_i64 aa aa];omega
      obtain⟨o,ho⟩:=Int.eq_ofNat_of_zero_le (hw i).1
      obtain⟨w,hww⟩:=Int.eq_ofNat_of_zero_le (bh a i).1
      have Qu:=(hw i).2
      have nv:=(bh a i).2
      have ML:=ma o w c aa aa hc
      have hX:(af b).getD i 0=o:=by rw[←cx i (Nat.le_refl _)];exact ho
      have ca:=mV aa ho hX hww bZ
      have om:(o+w+c)/4294967296≤1:=aa
      have dB:∀j,i+1≤j→(out.set i (((o+w+c) % 4294967296:Nat):Int)).getD j 0=(af b).getD j 0:=fun j hj=>by
       rw[aZ,if_neg aa];exact cx j aa
      by_cases hy:i<(af a).length
      ·have t2:decide ((i:Int)<((af a).length:Int))=true:=decide_eq_true aa
       have Hf:=cF a
       have e3:(cA a).getD i 0=(w:Int):=by rw[eb hy];exact hww
       conv=>whnf
       (repeat((first|refine ag rfl rfl ?_|refine And.intro Q6 ?_|refine aS (by assumption) ?_|rw[t1]|rw[t2]|rw[e1]|rw[e3]|rw[ho]);conv=>whnf))
       rw[e2]
       exact⟨(af b).length+1 - (i+1),fun k=>k,[4,8,9,10,52,53],[4,1001,47],aa,av,i+1,_,_,rfl,aa,om,by simpa using hlen,hw.set aa aa,dB,ca,rfl,rfl⟩
      ·have t2:decide ((i:Int)<((af a).length:Int))=false:=decide_eq_false aa
       have F7:w=0:=by have:=dY (xs:=af a) (i:=i) aa;omega
       subst F7
       conv=>whnf
       (repeat((first|refine ag rfl rfl ?_|refine ae rfl rfl ?_|refine And.intro Q6 ?_|refine aS (by assumption) ?_|rw[t1]|rw[t2]|rw[e1]|rw[ho]);conv=>whnf))
       rw[e2]
       exact⟨(af b).length+1 - (i+1),fun k=>k,[4,8,9,10,52,53],[4,1001,47],aa,av,i+1,_,_,rfl,aa,om,by simpa using hlen,hw.set aa aa,dB,ca,rfl,rfl⟩
     ·have jx:i=(af b).length+1:=aa
      subst jx
      have t1:decide ((((af b).length+1:Nat):Int)<(((af b).length+1:Nat):Int))=false:=decide_eq_false aa
      rw[cJ b aa,cJ a aa]at bZ
      have lI:(aB out ((af b).length+1)).toNat=a+b:=by
       have:=pE hc (b8 hw _) bZ (cg b) (cg a) aa
       omega
      have C4:=uw out ((af b).length+1) aa aa hw 47 true
      rw[lI]at C4
      conv=>whnf
      (repeat(first|(refine ae rfl rfl ?_;conv=>whnf)|(refine mj (by assumption) rfl ?_;conv=>whnf)|(rw[t1];conv=>whnf)))
      exact au.refl _
    ·rw[decide_eq_false (show ¬((af a).length:Int)<((af b).length:Int) by omega)]
     have ew:IntKind.i64.wrap (((af a).length:Int)+1)=(((af a).length+1:Nat):Int):=by rw[wrap_i64 aa aa];omega
     (repeat(first|(refine ae rfl rfl ?_;conv=>whnf)|(refine And.intro Q6 ?_;conv=>whnf)|(rw[ew];conv=>whnf)))
     refine⟨_,[(47,⟨23,true,.ints .u32 (List.replicate ((af a).length+1) 0)⟩),(1001,⟨23,true,.ints .u32 (cA a)⟩)],[],[(47,⟨23,true,.ints .u32 (af a++[0])⟩)],pB (c:=(af a).length) (n:=(af a).length+1) rfl rfl rfl (ak rfl) (ak rfl) (aJ.get (t:=316) rfl) rfl (aJ.get (t:=23) rfl) (List.mem_cons_self ..) (List.mem_cons_of_mem _ (List.mem_cons_self ..)) rfl rfl rfl rfl (by simp[en]) (by show 0+_≤(cA a).length;have:=cF a;omega) (Nat.min_eq_left (Nat.le_succ _)).symm (gN a),fY rfl rfl,aA,dd (List.mem_cons_self ..) rfl rfl rfl, ?_⟩
     conv=>whnf
     skip
     refine aj hE (fun k=>k) [4,8,9,10,52,53] [4,1002,47] (fun m fr hp=>∃(i:Nat) (out:List Int) (c:Nat),m=(af a).length+1 - i∧i≤(af a).length+1∧c≤1∧out.length=(af a).length+1∧fL out∧(∀j,i≤j→out.getD j 0=(af a).getD j 0)∧aB out i+c*4294967296^i=aB (af a) i+aB (af b) i∧
      fr=[(4,.ptr 4 0 0 0),(8,.aO 1002 1 0 (af b).length),(9,.aO 47 1 0 ((af a).length+1)),(10,.val (.int .u32 c)),(52,.val (.int .i64 (((af a).length+1:Nat)))),(53,.val (.int .i64 i))]∧hp=[(4,⟨46,true,.one [.nat 0]⟩),(1002,⟨23,true,.ints .u32 (cA b)⟩),(47,⟨23,true,.ints .u32 out⟩)]) ((af a).length+1) ?_ ?_ ?_
     ·kernel_rfl
     ·exact⟨0,af a++[0],0,aa,aa,aa,by simp,mU (bh a),(fun j _=>jZ _ j),by simp[aB],rfl,rfl⟩
     rintro m _ _ ⟨i,out,c,rfl,hi,hc,hlen,hw,cx,bZ,rfl,rfl⟩
     by_cases aE:i<(af a).length+1
     ·have t1:decide ((i:Int)<(((af a).length+1:Nat):Int))=true:=decide_eq_true aa
      have e1:0+(i:Int).toNat=i:=aa
      have e2:IntKind.i64.wrap ((i:Int)+1)=((i+1:Nat):Int):=by rw[wrap_i64 aa aa];omega
      obtain⟨o,ho⟩:=Int.eq_ofNat_of_zero_le (hw i).1
      obtain⟨w,hww⟩:=Int.eq_ofNat_of_zero_le (bh b i).1
      have Qu:=(hw i).2
      have nv:=(bh b i).2
      have ML:=ma o w c aa aa hc
      have hX:(af a).getD i 0=o:=by rw[←cx i (Nat.le_refl _)];exact ho
      have ca:=mV aa ho hX hww bZ
      have om:(o+w+c)/4294967296≤1:=aa
      have dB:∀j,i+1≤j→(out.set i (((o+w+c) % 4294967296:Nat):Int)).getD j 0=(af a).getD j 0:=fun j hj=>by
       rw[aZ,if_neg aa];exact cx j aa
      by_cases hy:i<(af b).length
      ·have t2:decide ((i:Int)<((af b).length:Int))=true:=decide_eq_true aa
       have Hf:=cF b
       have e3:(cA b).getD i 0=(w:Int):=by rw[eb hy];exact hww
       conv=>whnf
       (repeat((first|refine ag rfl rfl ?_|refine And.intro Q6 ?_|refine aS (by assumption) ?_|rw[t1]|rw[t2]|rw[e1]|rw[e3]|rw[ho]);conv=>whnf))
       rw[e2]
       exact⟨(af a).length+1 - (i+1),fun k=>k,[4,8,9,10,52,53],[4,1002,47],aa,av,i+1,_,_,rfl,aa,om,by simpa using hlen,hw.set aa aa,dB,ca,rfl,rfl⟩
      ·have t2:decide ((i:Int)<((af b).length:Int))=false:=decide_eq_false aa
       have F7:w=0:=by have:=dY (xs:=af b) (i:=i) aa;omega
       subst F7
       conv=>whnf
       (repeat((first|refine ag rfl rfl ?_|refine ae rfl rfl ?_|refine And.intro Q6 ?_|refine aS (by assumption) ?_|rw[t1]|rw[t2]|rw[e1]|rw[ho]);conv=>whnf))
       rw[e2]
       exact⟨(af a).length+1 - (i+1),fun k=>k,[4,8,9,10,52,53],[4,1002,47],aa,av,i+1,_,_,rfl,aa,om,by simpa using hlen,hw.set aa aa,dB,ca,rfl,rfl⟩
     ·have jx:i=(af a).length+1:=aa
      subst jx
      have t1:decide ((((af a).length+1:Nat):Int)<(((af a).length+1:Nat):Int))=false:=decide_eq_false aa
      rw[cJ a aa,cJ b aa]at bZ
      have lI:(aB out ((af a).length+1)).toNat=a+b:=by
       have:=pE hc (b8 hw _) bZ (cg a) (cg b) aa
       omega
      have C4:=uw out ((af a).length+1) aa aa hw 47 true
      rw[lI]at C4
      conv=>whnf
      (repeat(first|(refine ae rfl rfl ?_;conv=>whnf)|(refine mj (by assumption) rfl ?_;conv=>whnf)|(rw[t1];conv=>whnf)))
      exact au.refl _
   ·rw[dq,decide_eq_false h2]
    (repeat(first|(refine ae rfl rfl ?_;conv=>whnf)|(refine aq av ?_;conv=>whnf)|(refine lG (by assumption) rfl ?_;conv=>whnf)))
    by_cases hl:(af a).length<(af b).length
    ·rw[decide_eq_true (show((af a).length:Int)<((af b).length:Int) by omega)]
     have ew:IntKind.i64.wrap (((af b).length:Int)+1)=(((af b).length+1:Nat):Int):=by rw[wrap_i64 aa aa];omega
     (repeat(first|(refine ag rfl rfl ?_;conv=>whnf)|(refine And.intro Q6 ?_;conv=>whnf)|(rw[ew];conv=>whnf)))
     refine⟨_,[(47,⟨23,true,.ints .u32 (List.replicate ((af b).length+1) 0)⟩),(1002,⟨23,true,.ints .u32 (cA b)⟩)],[],[(47,⟨23,true,.ints .u32 (af b++[0])⟩)],pB (c:=(af b).length) (n:=(af b).length+1) rfl rfl rfl (ak rfl) (ak rfl) (aJ.get (t:=316) rfl) rfl (aJ.get (t:=23) rfl) (List.mem_cons_self ..) (List.mem_cons_of_mem _ (List.mem_cons_self ..)) rfl rfl rfl rfl (by simp[en]) (by show 0+_≤(cA b).length;have:=cF b;omega) (Nat.min_eq_left (Nat.le_succ _)).symm (gN b),fY rfl rfl,aA,dd (List.mem_cons_self ..) rfl rfl rfl, ?_⟩
     conv=>whnf
     skip
     refine aj hE (fun k=>k) [4,8,9,10,52,53] [4,1001,47] (fun m fr hp=>∃(i:Nat) (out:List Int) (c:Nat),m=(af b).length+1 - i∧i≤(af b).length+1∧c≤1∧out.length=(af b).length+1∧fL out∧(∀j,i≤j→out.getD j 0=(af b).getD j 0)∧aB out i+c*4294967296^i=aB (af b) i+aB (af a) i∧
      fr=[(4,.ptr 4 0 0 0),(8,.aO 1001 1 0 (af a).length),(9,.aO 47 1 0 ((af b).length+1)),(10,.val (.int .u32 c)),(52,.val (.int .i64 (((af b).length+1:Nat)))),(53,.val (.int .i64 i))]∧hp=[(4,⟨46,true,.one [.nat 0]⟩),(1001,⟨23,true,.ints .u32 (cA a)⟩),(47,⟨23,true,.ints .u32 out⟩)]) ((af b).length+1) ?_ ?_ ?_
     ·kernel_rfl
     ·exact⟨0,af b++[0],0,aa,aa,aa,by simp,mU (bh b),(fun j _=>jZ _ j),by simp[aB],rfl,rfl⟩
     rintro m _ _ ⟨i,out,c,rfl,hi,hc,hlen,hw,cx,bZ,rfl,rfl⟩
     by_cases aE:i<(af b).length+1
     ·have t1:decide ((i:Int)<(((af b).length+1:Nat):Int))=true:=decide_eq_true aa
      have e1:0+(i:Int).toNat=i:=aa
      have e2:IntKind.i64.wrap ((i:Int)+1)=((i+1:Nat):Int):=by rw[wrap_i64 aa aa];omega
      obtain⟨o,ho⟩:=Int.eq_ofNat_of_zero_le (hw i).1
      obtain⟨w,hww⟩:=Int.eq_ofNat_of_zero_le (bh a i).1
      have Qu:=(hw i).2
      have nv:=(bh a i).2
      have ML:=ma o w c aa aa hc
      have hX:(af b).getD i 0=o:=by rw[←cx i (Nat.le_refl _)];exact ho
      have ca:=mV aa ho hX hww bZ
      have om:(o+w+c)/4294967296≤1:=aa
      have dB:∀j,i+1≤j→(out.set i (((o+w+c) % 4294967296:Nat):Int)).getD j 0=(af b).getD j 0:=fun j hj=>by
       rw[aZ,if_neg aa];exact cx j aa
      by_cases hy:i<(af a).length
      ·have t2:decide ((i:Int)<((af a).length:Int))=true:=decide_eq_true aa
       have Hf:=cF a
       have e3:(cA a).getD i 0=(w:Int):=by rw[eb hy];exact hww
       conv=>whnf
       (repeat((first|refine ag rfl rfl ?_|refine And.intro Q6 ?_|refine aS (by assumption) ?_|rw[t1]|rw[t2]|rw[e1]|rw[e3]|rw[ho]);conv=>whnf))
       rw[e2]
       exact⟨(af b).length+1 - (i+1),fun k=>k,[4,8,9,10,52,53],[4,1001,47],aa,av,i+1,_,_,rfl,aa,om,by simpa using hlen,hw.set aa aa,dB,ca,rfl,rfl⟩
      ·have t2:decide ((i:Int)<((af a).length:Int))=false:=decide_eq_false aa
       have F7:w=0:=by have:=dY (xs:=af a) (i:=i) aa;omega
       subst F7
       conv=>whnf
       (repeat((first|refine ag rfl rfl ?_|refine ae rfl rfl ?_|refine And.intro Q6 ?_|refine aS (by assumption) ?_|rw[t1]|rw[t2]|rw[e1]|rw[ho]);conv=>whnf))
       rw[e2]
       exact⟨(af b).length+1 - (i+1),fun k=>k,[4,8,9,10,52,53],[4,1001,47],aa,av,i+1,_,_,rfl,aa,om,by simpa using hlen,hw.set aa aa,dB,ca,rfl,rfl⟩
     ·have jx:i=(af b).length+1:=aa
      subst jx
      have t1:decide ((((af b).length+1:Nat):Int)<(((af b).length+1:Nat):Int))=false:=decide_eq_false aa
      rw[cJ b aa,cJ a aa]at bZ
      have lI:(aB out ((af b).length+1)).toNat=a+b:=by
       have:=pE hc (b8 hw _) bZ (cg b) (cg a) aa
       omega
      have C4:=uw out ((af b).length+1) aa aa hw 47 true
      rw[lI]at C4
      conv=>whnf
      (repeat(first|(refine ae rfl rfl ?_;conv=>whnf)|(refine mj (by assumption) rfl ?_;conv=>whnf)|(rw[t1];conv=>whnf)))
      exact au.refl _
    ·rw[decide_eq_false (show ¬((af a).length:Int)<((af b).length:Int) by omega)]
     have ew:IntKind.i64.wrap (((af a).length:Int)+1)=(((af a).length+1:Nat):Int):=by rw[wrap_i64 aa aa];omega
     (repeat(first|(refine ae rfl rfl ?_;conv=>whnf)|(refine And.intro Q6 ?_;conv=>whnf)|(rw[ew];conv=>whnf)))
     refine⟨_,[(47,⟨23,true,.ints .u32 (List.replicate ((af a).length+1) 0)⟩),(1001,⟨23,true,.ints .u32 (cA a)⟩)],[],[(47,⟨23,true,.ints .u32 (af a++[0])⟩)],pB (c:=(af a).length) (n:=(af a).length+1) rfl rfl rfl (ak rfl) (ak rfl) (aJ.get (t:=316) rfl) rfl (aJ.get (t:=23) rfl) (List.mem_cons_self ..) (List.mem_cons_of_mem _ (List.mem_cons_self ..)) rfl rfl rfl rfl (by simp[en]) (by show 0+_≤(cA a).length;have:=cF a;omega) (Nat.min_eq_left (Nat.le_succ _)).symm (gN a),fY rfl rfl,aA,dd (List.mem_cons_self ..) rfl rfl rfl, ?_⟩
     conv=>whnf
     skip
     refine aj hE (fun k=>k) [4,8,9,10,52,53] [4,1002,47] (fun m fr hp=>∃(i:Nat) (out:List Int) (c:Nat),m=(af a).length+1 - i∧i≤(af a).length+1∧c≤1∧out.length=(af a).length+1∧fL out∧(∀j,i≤j→out.getD j 0=(af a).getD j 0)∧aB out i+c*4294967296^i=aB (af a) i+aB (af b) i∧
      fr=[(4,.ptr 4 0 0 0),(8,.aO 1002 1 0 (af b).length),(9,.aO 47 1 0 ((af a).length+1)),(10,.val (.int .u32 c)),(52,.val (.int .i64 (((af a).length+1:Nat)))),(53,.val (.int .i64 i))]∧hp=[(4,⟨46,true,.one [.nat 0]⟩),(1002,⟨23,true,.ints .u32 (cA b)⟩),(47,⟨23,true,.ints .u32 out⟩)]) ((af a).length+1) ?_ ?_ ?_
     ·kernel_rfl
     ·exact⟨0,af a++[0],0,aa,aa,aa,by simp,mU (bh a),(fun j _=>jZ _ j),by simp[aB],rfl,rfl⟩
     rintro m _ _ ⟨i,out,c,rfl,hi,hc,hlen,hw,cx,bZ,rfl,rfl⟩
     by_cases aE:i<(af a).length+1
     ·have t1:decide ((i:Int)<(((af a).length+1:Nat):Int))=true:=decide_eq_true aa
      have e1:0+(i:Int).toNat=i:=aa
      have e2:IntKind.i64.wrap ((i:Int)+1)=((i+1:Nat):Int):=by rw[wrap_i64 aa aa];omega
      obtain⟨o,ho⟩:=Int.eq_ofNat_of_zero_le (hw i).1
      obtain⟨w,hww⟩:=Int.eq_ofNat_of_zero_le (bh b i).1
      have Qu:=(hw i).2
      have nv:=(bh b i).2
      have ML:=ma o w c aa aa hc
      have hX:(af a).getD i 0=o:=by rw[←cx i (Nat.le_refl _)];exact ho
      have ca:=mV aa ho hX hww bZ
      have om:(o+w+c)/4294967296≤1:=aa
      have dB:∀j,i+1≤j→(out.set i (((o+w+c) % 4294967296:Nat):Int)).getD j 0=(af a).getD j 0:=fun j hj=>by
       rw[aZ,if_neg aa];exact cx j aa
      by_cases hy:i<(af b).length
      ·have t2:decide ((i:Int)<((af b).length:Int))=true:=decide_eq_true aa
       have Hf:=cF b
       have e3:(cA b).getD i 0=(w:Int):=by rw[eb hy];exact hww
       conv=>whnf
       (repeat((first|refine ag rfl rfl ?_|refine And.intro Q6 ?_|refine aS (by assumption) ?_|rw[t1]|rw[t2]|rw[e1]|rw[e3]|rw[ho]);conv=>whnf))
       rw[e2]
       exact⟨(af a).length+1 - (i+1),fun k=>k,[4,8,9,10,52,53],[4,1002,47],aa,av,i+1,_,_,rfl,aa,om,by simpa using hlen,hw.set aa aa,dB,ca,rfl,rfl⟩
      ·have t2:decide ((i:Int)<((af b).length:Int))=false:=decide_eq_false aa
       have F7:w=0:=by have:=dY (xs:=af b) (i:=i) aa;omega
       subst F7
       conv=>whnf
       (repeat((first|refine ag rfl rfl ?_|refine ae rfl rfl ?_|refine And.intro Q6 ?_|refine aS (by assumption) ?_|rw[t1]|rw[t2]|rw[e1]|rw[ho]);conv=>whnf))
       rw[e2]
       exact⟨(af a).length+1 - (i+1),fun k=>k,[4,8,9,10,52,53],[4,1002,47],aa,av,i+1,_,_,rfl,aa,om,by simpa using hlen,hw.set aa aa,dB,ca,rfl,rfl⟩
     ·have jx:i=(af a).length+1:=aa
      subst jx
      have t1:decide ((((af a).length+1:Nat):Int)<(((af a).length+1:Nat):Int))=false:=decide_eq_false aa
      rw[cJ a aa,cJ b aa]at bZ
      have lI:(aB out ((af a).length+1)).toNat=a+b:=by
       have:=pE hc (b8 hw _) bZ (cg a) (cg b) aa
       omega
      have C4:=uw out ((af a).length+1) aa aa hw 47 true
      rw[lI]at C4
      conv=>whnf
      (repeat(first|(refine ae rfl rfl ?_;conv=>whnf)|(refine mj (by assumption) rfl ?_;conv=>whnf)|(rw[t1];conv=>whnf)))
      exact au.refl _
  ·rw[dq,decide_eq_false h1]
   (repeat((first|refine ae rfl rfl ?_|refine aq av ?_|refine lG (by assumption) rfl ?_|refine ah dP ?_);conv=>whnf))
   by_cases hl:(af a).length<(af b).length
   ·rw[decide_eq_true (show((af a).length:Int)<((af b).length:Int) by omega)]
    have ew:IntKind.i64.wrap (((af b).length:Int)+1)=(((af b).length+1:Nat):Int):=by rw[wrap_i64 aa aa];omega
    (repeat(first|(refine ag rfl rfl ?_;conv=>whnf)|(refine And.intro Q6 ?_;conv=>whnf)|(rw[ew];conv=>whnf)))
    refine⟨_,[(47,⟨23,true,.ints .u32 (List.replicate ((af b).length+1) 0)⟩),(1002,⟨23,true,.ints .u32 (cA b)⟩)],[],[(47,⟨23,true,.ints .u32 (af b++[0])⟩)],pB (c:=(af b).length) (n:=(af b).length+1) rfl rfl rfl (ak rfl) (ak rfl) (aJ.get (t:=316) rfl) rfl (aJ.get (t:=23) rfl) (List.mem_cons_self ..) (List.mem_cons_of_mem _ (List.mem_cons_self ..)) rfl rfl rfl rfl (by simp[en]) (by show 0+_≤(cA b).length;have:=cF b;omega) (Nat.min_eq_left (Nat.le_succ _)).symm (gN b),fY rfl rfl,aA,dd (List.mem_cons_self ..) rfl rfl rfl, ?_⟩
    conv=>whnf
    skip
    refine aj hE (fun k=>k) [4,8,9,10,52,53] [4,1001,47] (fun m fr hp=>∃(i:Nat) (out:List Int) (c:Nat),m=(af b).length+1 - i∧i≤(af b).length+1∧c≤1∧out.length=(af b).length+1∧fL out∧(∀j,i≤j→out.getD j 0=(af b).getD j 0)∧aB out i+c*4294967296^i=aB (af b) i+aB (af a) i∧
     fr=[(4,.ptr 4 0 0 0),(8,.aO 1001 1 0 (af a).length),(9,.aO 47 1 0 ((af b).length+1)),(10,.val (.int .u32 c)),(52,.val (.int .i64 (((af b).length+1:Nat)))),(53,.val (.int .i64 i))]∧hp=[(4,⟨46,true,.one [.nat 0]⟩),(1001,⟨23,true,.ints .u32 (cA a)⟩),(47,⟨23,true,.ints .u32 out⟩)]) ((af b).length+1) ?_ ?_ ?_
    ·kernel_rfl
    ·exact⟨0,af b++[0],0,aa,aa,aa,by simp,mU (bh b),(fun j _=>jZ _ j),by simp[aB],rfl,rfl⟩
    rintro m _ _ ⟨i,out,c,rfl,hi,hc,hlen,hw,cx,bZ,rfl,rfl⟩
    by_cases aE:i<(af b).length+1
    ·have t1:decide ((i:Int)<(((af b).length+1:Nat):Int))=true:=decide_eq_true aa
     have e1:0+(i:Int).toNat=i:=aa
     have e2:IntKind.i64.wrap ((i:Int)+1)=((i+1:Nat):Int):=by rw[wrap_i64 aa aa];omega
     obtain⟨o,ho⟩:=Int.eq_ofNat_of_zero_le (hw i).1
     obtain⟨w,hww⟩:=Int.eq_ofNat_of_zero_le (bh a i).1
     have Qu:=(hw i).2
     have nv:=(bh a i).2
     have ML:=ma o w c aa aa hc
     have hX:(af b).getD i 0=o:=by rw[←cx i (Nat.le_refl _)];exact ho
     have ca:=mV aa ho hX hww bZ
     have om:(o+w+c)/4294967296≤1:=aa
     have dB:∀j,i+1≤j→(out.set i (((o+w+c) % 4294967296:Nat):Int)).getD j 0=(af b).getD j 0:=fun j hj=>by
      rw[aZ,if_neg aa];exact cx j aa
     by_cases hy:i<(af a).length
     ·have t2:decide ((i:Int)<((af a).length:Int))=true:=decide_eq_true aa
      have Hf:=cF a
      have e3:(cA a).getD i 0=(w:Int):=by rw[eb hy];exact hww
      conv=>whnf
      (repeat((first|refine ag rfl rfl ?_|refine And.intro Q6 ?_|refine aS (by assumption) ?_|rw[t1]|rw[t2]|rw[e1]|rw[e3]|rw[ho]);conv=>whnf))
      rw[e2]
      exact⟨(af b).length+1 - (i+1),fun k=>k,[4,8,9,10,52,53],[4,1001,47],aa,av,i+1,_,_,rfl,aa,om,by simpa using hlen,hw.set aa aa,dB,ca,rfl,rfl⟩
     ·have t2:decide ((i:Int)<((af a).length:Int))=false:=decide_eq_false aa
      have F7:w=0:=by have:=dY (xs:=af a) (i:=i) aa;omega
      subst F7
      conv=>whnf
      (repeat((first|refine ag rfl rfl ?_|refine ae rfl rfl ?_|refine And.intro Q6 ?_|refine aS (by assumption) ?_|rw[t1]|rw[t2]|rw[e1]|rw[ho]);conv=>whnf))
      rw[e2]
      exact⟨(af b).length+1 - (i+1),fun k=>k,[4,8,9,10,52,53],[4,1001,47],aa,av,i+1,_,_,rfl,aa,om,by simpa using hlen,hw.set aa aa,dB,ca,rfl,rfl⟩
    ·have jx:i=(af b).length+1:=aa
     subst jx
     have t1:decide ((((af b).length+1:Nat):Int)<(((af b).length+1:Nat):Int))=false:=decide_eq_false aa
     rw[cJ b aa,cJ a aa]at bZ
     have lI:(aB out ((af b).length+1)).toNat=a+b:=by
      have:=pE hc (b8 hw _) bZ (cg b) (cg a) aa
      omega
     have C4:=uw out ((af b).length+1) aa aa hw 47 true
     rw[lI]at C4
     conv=>whnf
     (repeat(first|(refine ae rfl rfl ?_;conv=>whnf)|(refine mj (by assumption) rfl ?_;conv=>whnf)|(rw[t1];conv=>whnf)))
     exact au.refl _
   ·rw[decide_eq_false (show ¬((af a).length:Int)<((af b).length:Int) by omega)]
    have ew:IntKind.i64.wrap (((af a).length:Int)+1)=(((af a).length+1:Nat):Int):=by rw[wrap_i64 aa aa];omega
    (repeat(first|(refine ae rfl rfl ?_;conv=>whnf)|(refine And.intro Q6 ?_;conv=>whnf)|(rw[ew];conv=>whnf)))
    refine⟨_,[(47,⟨23,true,.ints .u32 (List.replicate ((af a).length+1) 0)⟩),(1001,⟨23,true,.ints .u32 (cA a)⟩)],[],[(47,⟨23,true,.ints .u32 (af a++[0])⟩)],pB (c:=(af a).length) (n:=(af a).length+1) rfl rfl rfl (ak rfl) (ak rfl) (aJ.get (t:=316) rfl) rfl (aJ.get (t:=23) rfl) (List.mem_cons_self ..) (List.mem_cons_of_mem _ (List.mem_cons_self ..)) rfl rfl rfl rfl (by simp[en]) (by show 0+_≤(cA a).length;have:=cF a;omega) (Nat.min_eq_left (Nat.le_succ _)).symm (gN a),fY rfl rfl,aA,dd (List.mem_cons_self ..) rfl rfl rfl, ?_⟩
    conv=>whnf
    skip
    refine aj hE (fun k=>k) [4,8,9,10,52,53] [4,1002,47] (fun m fr hp=>∃(i:Nat) (out:List Int) (c:Nat),m=(af a).length+1 - i∧i≤(af a).length+1∧c≤1∧out.length=(af a).length+1∧fL out∧(∀j,i≤j→out.getD j 0=(af a).getD j 0)∧aB out i+c*4294967296^i=aB (af a) i+aB (af b) i∧
     fr=[(4,.ptr 4 0 0 0),(8,.aO 1002 1 0 (af b).length),(9,.aO 47 1 0 ((af a).length+1)),(10,.val (.int .u32 c)),(52,.val (.int .i64 (((af a).length+1:Nat)))),(53,.val (.int .i64 i))]∧hp=[(4,⟨46,true,.one [.nat 0]⟩),(1002,⟨23,true,.ints .u32 (cA b)⟩),(47,⟨23,true,.ints .u32 out⟩)]) ((af a).length+1) ?_ ?_ ?_
    ·kernel_rfl
    ·exact⟨0,af a++[0],0,aa,aa,aa,by simp,mU (bh a),(fun j _=>jZ _ j),by simp[aB],rfl,rfl⟩
    rintro m _ _ ⟨i,out,c,rfl,hi,hc,hlen,hw,cx,bZ,rfl,rfl⟩
    by_cases aE:i<(af a).length+1
    ·have t1:decide ((i:Int)<(((af a).length+1:Nat):Int))=true:=decide_eq_true aa
     have e1:0+(i:Int).toNat=i:=aa
     have e2:IntKind.i64.wrap ((i:Int)+1)=((i+1:Nat):Int):=by rw[wrap_i64 aa aa];omega
     obtain⟨o,ho⟩:=Int.eq_ofNat_of_zero_le (hw i).1
     obtain⟨w,hww⟩:=Int.eq_ofNat_of_zero_le (bh b i).1
     have Qu:=(hw i).2
     have nv:=(bh b i).2
     have ML:=ma o w c aa aa hc
     have hX:(af a).getD i 0=o:=by rw[←cx i (Nat.le_refl _)];exact ho
     have ca:=mV aa ho hX hww bZ
     have om:(o+w+c)/4294967296≤1:=aa
     have dB:∀j,i+1≤j→(out.set i (((o+w+c) % 4294967296:Nat):Int)).getD j 0=(af a).getD j 0:=fun j hj=>by
      rw[aZ,if_neg aa];exact cx j aa
     by_cases hy:i<(af b).length
     ·have t2:decide ((i:Int)<((af b).length:Int))=true:=decide_eq_true aa
      have Hf:=cF b
      have e3:(cA b).getD i 0=(w:Int):=by rw[eb hy];exact hww
      conv=>whnf
      (repeat((first|refine ag rfl rfl ?_|refine And.intro Q6 ?_|refine aS (by assumption) ?_|rw[t1]|rw[t2]|rw[e1]|rw[e3]|rw[ho]);conv=>whnf))
      rw[e2]
      exact⟨(af a).length+1 - (i+1),fun k=>k,[4,8,9,10,52,53],[4,1002,47],aa,av,i+1,_,_,rfl,aa,om,by simpa using hlen,hw.set aa aa,dB,ca,rfl,rfl⟩
     ·have t2:decide ((i:Int)<((af b).length:Int))=false:=decide_eq_false aa
      have F7:w=0:=by have:=dY (xs:=af b) (i:=i) aa;omega
      subst F7
      conv=>whnf
      (repeat((first|refine ag rfl rfl ?_|refine ae rfl rfl ?_|refine And.intro Q6 ?_|refine aS (by assumption) ?_|rw[t1]|rw[t2]|rw[e1]|rw[ho]);conv=>whnf))
      rw[e2]
      exact⟨(af a).length+1 - (i+1),fun k=>k,[4,8,9,10,52,53],[4,1002,47],aa,av,i+1,_,_,rfl,aa,om,by simpa using hlen,hw.set aa aa,dB,ca,rfl,rfl⟩
    ·have jx:i=(af a).length+1:=aa
     subst jx
     have t1:decide ((((af a).length+1:Nat):Int)<(((af a).length+1:Nat):Int))=false:=decide_eq_false aa
     rw[cJ a aa,cJ b aa]at bZ
     have lI:(aB out ((af a).length+1)).toNat=a+b:=by
      have:=pE hc (b8 hw _) bZ (cg a) (cg b) aa
      omega
     have C4:=uw out ((af a).length+1) aa aa hw 47 true
     rw[lI]at C4
     conv=>whnf
     (repeat(first|(refine ae rfl rfl ?_;conv=>whnf)|(refine mj (by assumption) rfl ?_;conv=>whnf)|(rw[t1];conv=>whnf)))
     exact au.refl _
theorem JY (a b:Nat) (ha:(af a).length<549755813888) (hb:(af b).length<549755813888) (h:a<b):
  ab Tryz.prog 296 [.nat a,.nat b] [] (.ck [.nat 0,.val (.bool false)]) [] []:=by
 have k1:=C3 a b aa aa
 rw[Int.sign_eq_neg_one_of_neg (show(a:Int) - b<0 by omega)]at k1
 refine bT [] Tryz.func296 ?_
 intro W0 w0 ρ0 hE
 conv=>whnf
 (repeat(first|(refine ag rfl rfl ?_;conv=>whnf)|(refine aS (by assumption) ?_;conv=>whnf)));exact au.refl _
theorem JZ {X Y out:List Int} {i o w c:Nat} (hi:i<out.length) (ho:out.getD i 0=o) (hX:X.getD i 0=o) (hY:Y.getD i 0=w) (hv:aB out i - c*4294967296^i=aB X i - aB Y i)
  (MN:o<4294967296) (hwl:w<4294967296) (hc:c≤1):
  aB (out.set i (((o+4294967296 - w - c) % 4294967296:Nat):Int)) (i+1) - ((if o<w+c then 1 else 0:Nat):Int)*4294967296^(i+1)=aB X (i+1) - aB Y (i+1):=by
 rw[aB,aB,aB,c9 (Nat.le_refl i),aZ,if_pos ⟨rfl,hi⟩,hX,hY,Int.pow_succ]
 have hd:(((o+4294967296 - w - c) % 4294967296:Nat):Int)=(o:Int) - w - c+((if o<w+c then 1 else 0:Nat):Int)*4294967296:=by
  split<;>omega
 rw[hd]
 generalize ((if o<w+c then 1 else 0:Nat):Int)=q
 generalize (4294967296:Int)^i=P at*
 grind
theorem Qw (a b:Nat) (ha:(af a).length<549755813888) (h:b≤a):
  ab Tryz.prog 296 [.nat a,.nat b] [] (.ck [.nat (a - b),.val (.bool true)]) [] []:=by
 by_cases hs:a<18446744073709551616
 ·exact abK a b hs h
 ·have Qx:(af b).length≤(af a).length:=gL (Nat.lt_of_le_of_lt h (cg a))
  have k1:=C3 a b aa aa
  have ht:decide (((a:Int) - b).sign<0)=false:=decide_eq_false Q38
  have ka:=iq a 1001 aa
  have kb:=iq b 1002 aa
  refine bT [] Tryz.func296 ?_
  intro W0 w0 ρ0 hE
  conv=>whnf
  (repeat(first|(refine ae rfl rfl ?_;conv=>whnf)|(refine aS (by assumption) ?_;conv=>whnf)|(rw[ht];conv=>whnf)))
  rw[dq,decide_eq_false hs]
  (repeat(first|(refine ae rfl rfl ?_;conv=>whnf)|(refine aq av ?_;conv=>whnf)|(refine lG (by assumption) rfl ?_;conv=>whnf)))
  rw[show cA a=af a from if_neg hs]
  refine aj hE (fun k=>k) [4,6,7,8,30,31] [4,1001,1002] (fun m fr hp=>∃(i:Nat) (out:List Int) (c:Nat),m=(af a).length - i∧i≤(af a).length∧c≤1∧out.length=(af a).length∧fL out∧(∀j,i≤j→out.getD j 0=(af a).getD j 0)∧aB out i - c*4294967296^i=aB (af a) i - aB (af b) i∧
   fr=[(4,.ptr 4 0 0 0),(6,.aO 1001 1 0 (af a).length),(7,.aO 1002 1 0 (af b).length),(8,.val (.int .u32 c)),(30,.val (.int .i64 ((af a).length:Nat))),(31,.val (.int .i64 i))]∧hp=[(4,⟨46,true,.one [.nat 0]⟩),(1001,⟨23,true,.ints .u32 out⟩),(1002,⟨23,true,.ints .u32 (cA b)⟩)]) (af a).length ?_ ?_ ?_
  ·kernel_rfl
  ·exact⟨0,af a,0,aa,aa,aa,rfl,bh a,(fun j _=>rfl),by simp[aB],rfl,rfl⟩
  rintro m _ _ ⟨i,out,c,rfl,hi,hc,hlen,hw,cx,bZ,rfl,rfl⟩
  by_cases aE:i<(af a).length
  ·have t1:decide ((i:Int)<((af a).length:Int))=true:=decide_eq_true aa
   have e1:0+(i:Int).toNat=i:=aa
   have e2:IntKind.i64.wrap ((i:Int)+1)=((i+1:Nat):Int):=by rw[wrap_i64 aa aa];omega
   obtain⟨o,ho⟩:=Int.eq_ofNat_of_zero_le (hw i).1
   obtain⟨w,hww⟩:=Int.eq_ofNat_of_zero_le (bh b i).1
   have Qu:=(hw i).2
   have nv:=(bh b i).2
   have ML:=Bj o w c aa aa hc
   have hX:(af a).getD i 0=o:=by rw[←cx i (Nat.le_refl _)];exact ho
   have ca:=JZ aa ho hX hww bZ aa aa hc
   have om:(if o<w+c then 1 else 0:Nat)≤1:=by split<;>omega
   have dB:∀j,i+1≤j→(out.set i (((o+4294967296 - w - c) % 4294967296:Nat):Int)).getD j 0=(af a).getD j 0:=fun j hj=>by
    rw[aZ,if_neg aa];exact cx j aa
   by_cases hy:i<(af b).length
   ·have t2:decide ((i:Int)<((af b).length:Int))=true:=decide_eq_true aa
    have Hf:=cF b
    have e3:(cA b).getD i 0=(w:Int):=by rw[eb hy];exact hww
    conv=>whnf
    (repeat((first|refine ag rfl rfl ?_|refine And.intro Q6 ?_|refine aS (by assumption) ?_|rw[t1]|rw[t2]|rw[e1]|rw[e3]|rw[ho]);conv=>whnf))
    rw[e2]
    exact⟨(af a).length - (i+1),fun k=>k,[4,6,7,8,30,31],[4,1001,1002],aa,av,i+1,_,_,rfl,aa,om,by simpa using hlen,hw.set aa aa,dB,ca,rfl,rfl⟩
   ·have t2:decide ((i:Int)<((af b).length:Int))=false:=decide_eq_false aa
    have F7:w=0:=by have:=dY (xs:=af b) (i:=i) aa;omega
    subst F7
    conv=>whnf
    (repeat((first|refine ag rfl rfl ?_|refine ae rfl rfl ?_|refine And.intro Q6 ?_|refine aS (by assumption) ?_|rw[t1]|rw[t2]|rw[e1]|rw[ho]);conv=>whnf))
    rw[e2]
    exact⟨(af a).length - (i+1),fun k=>k,[4,6,7,8,30,31],[4,1001,1002],aa,av,i+1,_,_,rfl,aa,om,by simpa using hlen,hw.set aa aa,dB,ca,rfl,rfl⟩
  ·have jx:i=(af a).length:=aa
   subst jx
   have t1:decide (((af a).length:Int)<((af a).length:Int))=false:=decide_eq_false aa
   rw[cJ a aa,cJ b aa]at bZ
   have lI:(aB out (af a).length).toNat=a - b:=by
    have h1:=gy hw (af a).length
    have h2:=mM (af a).length
    have hcc:c=0∨c=1:=aa
    rcases hcc with rfl|rfl<;>omega
   have C4:=uw out (af a).length aa aa hw 1001 true
   rw[lI]at C4
   conv=>whnf
   (repeat(first|(refine ae rfl rfl ?_;conv=>whnf)|(refine mj (by assumption) rfl ?_;conv=>whnf)|(rw[t1];conv=>whnf)))
   exact au.refl _
theorem ET (p:Nat) (h:p<340282366920938463463374607431768211456):
  aB [((p % 18446744073709551616 % 4294967296:Nat):Int),((p % 18446744073709551616/4294967296:Nat):Int),((p/18446744073709551616 % 4294967296:Nat):Int),((p/18446744073709551616/4294967296:Nat):Int)] 4=p∧
  fL [((p % 18446744073709551616 % 4294967296:Nat):Int),((p % 18446744073709551616/4294967296:Nat):Int),((p/18446744073709551616 % 4294967296:Nat):Int),((p/18446744073709551616/4294967296:Nat):Int)]:=by
 constructor
 ·simp only[aB,List.getD_cons_zero,List.getD_cons_succ,Int.pow_succ,Int.pow_zero]
  omega
 ·refine Be fun x hx=> ?_
  simp only[List.mem_cons,List.not_mem_nil,or_false]at hx
  rcases hx with rfl|rfl|rfl|rfl<;>omega
theorem NN (a b:Nat) (ha:a<18446744073709551616) (hb:b<18446744073709551616):
  ab Tryz.prog 209 [.nat a,.nat b] [] (.nat (a*b)) [] []:=by
 have k1:=NJ a b ha hb
 have hp:a*b<340282366920938463463374607431768211456:=by
  have:=Nat.mul_le_mul (show a≤18446744073709551615 by omega) (show b≤18446744073709551615 by omega)
  omega
 obtain⟨h1,h2⟩:=ET (a*b) hp
 have e1:IntKind.u32.wrap ((a*b % 18446744073709551616:Nat):Int)=((a*b % 18446744073709551616 % 4294967296:Nat):Int):=oO _
 have e2:IntKind.u32.wrap (jK .u64 ((a*b % 18446744073709551616:Nat):Int) 32)=((a*b % 18446744073709551616/4294967296:Nat):Int):=by rw[fN,oh aa]
 have e3:IntKind.u32.wrap ((a*b/18446744073709551616:Nat):Int)=((a*b/18446744073709551616 % 4294967296:Nat):Int):=oO _
 have e4:IntKind.u32.wrap (jK .u64 ((a*b/18446744073709551616:Nat):Int) 32)=((a*b/18446744073709551616/4294967296:Nat):Int):=by rw[fN,oh aa]
 have so:=uw _ 4 (by simp) (by simp) h2 41 true
 rw[h1,Int.toNat_natCast]at so
 refine bT [] Tryz.func209 ?_
 intro W0 w0 ρ0 hE
 conv=>whnf
 rw[dq,decide_eq_true ha]
 (repeat(first|(refine ag rfl rfl ?_;conv=>whnf)|(refine ah dO ?_;conv=>whnf)))
 rw[dq,decide_eq_true hb]
 (repeat((first|refine ag rfl rfl ?_|refine And.intro Q6 ?_|refine aS (by assumption) ?_|refine mj (by assumption) rfl ?_|rw[cu ha]|rw[cu hb]|rw[e1]|rw[e2]|rw[e3]|rw[e4]);conv=>whnf))
 exact au.refl _
theorem C5 {out o2 Y:List Int} {i k o w v c:Nat} (hi:i+k<o2.length) (ho:o2.getD (i+k) 0=o) (hout:out.getD (i+k) 0=o) (hY:Y.getD k 0=v)
  (hv:aB o2 (i+k)+c*4294967296^(i+k)=aB out (i+k)+w*4294967296^i*aB Y k):
  aB (o2.set (i+k) (((c+(w*v+o)) % 4294967296:Nat):Int)) (i+(k+1))+(((c+(w*v+o))/4294967296:Nat):Int)*4294967296^(i+(k+1))=aB out (i+(k+1))+w*4294967296^i*aB Y (k+1):=by
 rw[show i+(k+1)=(i+k)+1 from aa,aB,aB,aB,c9 (Nat.le_refl _),aZ,if_pos ⟨rfl,hi⟩,hout,hY,Int.pow_succ]
 have hd:(((c+(w*v+o)) % 4294967296:Nat):Int)=(c:Int)+(w*v+o) - (((c+(w*v+o))/4294967296:Nat):Int)*4294967296:=by
  have:=Nat.div_add_mod (c+(w*v+o)) 4294967296
  have h2:((w*v:Nat):Int)=(w:Int)*v:=Int.natCast_mul _ _
  omega
 rw[hd]
 rw[Int.pow_add]at hv ⊢
 generalize (((c+(w*v+o))/4294967296:Nat):Int)=q
 generalize (4294967296:Int)^i=P at*
 generalize (4294967296:Int)^k=Q at*
 grind
theorem Gj {out o2 X:List Int} {i l w c b:Nat} {Y:List Int} (hi:i+l<o2.length) (ho:o2.getD (i+l) 0=0) (hX:X.getD i 0=w) (hY:aB Y l=b)
  (bZ:aB out (i+l)=aB X i*b) (hv:aB o2 (i+l)+c*4294967296^(i+l)=aB out (i+l)+w*4294967296^i*aB Y l):
  aB (o2.set (i+l) (c:Int)) (i+l+1)=aB X (i+1)*b:=by
 rw[aB,aB,c9 (Nat.le_refl _),aZ,if_pos ⟨rfl,hi⟩,hX,hv,bZ,hY]
 generalize (4294967296:Int)^i=P at*
 grind
theorem Qy (a b:Nat) (ha:(af a).length<274877906944) (hb:(af b).length<274877906944):
  ab Tryz.prog 209 [.nat a,.nat b] [] (.nat (a*b)) [] []:=by
 by_cases hs:a<18446744073709551616∧b<18446744073709551616
 ·exact NN a b hs.1 hs.2
 ·have ka:=iq a 1001 aa
  have kb:=iq b 1002 aa
  have ew:IntKind.i64.wrap (((af a).length:Int)+((af b).length:Int))=(((af a).length+(af b).length:Nat):Int):=by rw[wrap_i64 aa aa];omega
  refine bT [] Tryz.func209 ?_
  intro W0 w0 ρ0 hE
  conv=>whnf
  by_cases h1:a<18446744073709551616
  ·rw[dq,decide_eq_true h1]
   (repeat(first|(refine ag rfl rfl ?_;conv=>whnf)|(refine ah dO ?_;conv=>whnf)))
   rw[dq,decide_eq_false (show ¬b<18446744073709551616 by omega)]
   (repeat((first|refine ae rfl rfl ?_|refine aq av ?_|refine And.intro Q6 ?_|refine lG (by assumption) rfl ?_|rw[ew]);conv=>whnf))
   refine aj hE (fun k=>k) [4,8,9,53,54,55] [4,1001,1002,52] (fun m fr hp=>∃(i:Nat) (out:List Int),m=(af a).length - i∧i≤(af a).length∧out.length=(af a).length+(af b).length∧fL out∧(∀j,i+(af b).length≤j→out.getD j 0=0)∧aB out (i+(af b).length)=aB (af a) i*b∧
    fr=[(4,.ptr 4 0 0 0),(8,.aO 1002 1 0 (af b).length),(9,.aO 52 1 0 ((af a).length+(af b).length)),(53,.aO 1001 1 0 (af a).length),(54,.val (.int .i64 ((af a).length:Nat))),(55,.val (.int .i64 i))]∧hp=[(4,⟨46,true,.one [.nat 0]⟩),(1001,⟨23,true,.ints .u32 (cA a)⟩),(1002,⟨23,true,.ints .u32 (cA b)⟩),(52,⟨23,true,.ints .u32 out⟩)]) (af a).length ?_ ?_ ?_
   ·kernel_rfl
   ·exact⟨0,List.replicate ((af a).length+(af b).length) 0,rfl,aa,by simp,(fun i=>by rw[bB];decide),(fun j _=>bB),by rw[eD (k:=0) (fun i _ _=>bB) aa];simp[aB],rfl,rfl⟩
   rintro m _ _ ⟨i,out,rfl,hi,hlen,hw,hz,bZ,rfl,rfl⟩
   by_cases aE:i<(af a).length
   ·have t1:decide ((i:Int)<((af a).length:Int))=true:=decide_eq_true aa
    have e1:0+(i:Int).toNat=i:=aa
    have e2:IntKind.i64.wrap ((i:Int)+1)=((i+1:Nat):Int):=by rw[wrap_i64 aa aa];omega
    obtain⟨w,hww⟩:=Int.eq_ofNat_of_zero_le (bh a i).1
    have nv:=(bh a i).2
    have gx:=cF a
    have e3:(cA a).getD i 0=(w:Int):=by rw[eb aE];exact hww
    conv=>whnf
    (repeat((first|refine ag rfl rfl ?_|refine And.intro Q6 ?_|rw[t1]|rw[e1]|rw[e3]);conv=>whnf))
    refine aj hE (fun k=>k) [4,8,9,10,11,12,53,54,55,60,61,62] [4,1001,1002,52] (fun m fr hp=>∃(k:Nat) (o2:List Int) (c:Nat),m=(af b).length - k∧k≤(af b).length∧c<4294967296∧o2.length=(af a).length+(af b).length∧fL o2∧(∀j,i+k≤j→o2.getD j 0=out.getD j 0)∧aB o2 (i+k)+c*4294967296^(i+k)=aB out (i+k)+w*4294967296^i*aB (af b) k∧
     fr=[(4,.ptr 4 0 0 0),(8,.aO 1002 1 0 (af b).length),(9,.aO 52 1 0 ((af a).length+(af b).length)),(10,.val (.int .i64 i)),(11,.val (.int .u32 w)),(12,.val (.int .u64 c)),(53,.aO 1001 1 0 (af a).length),(54,.val (.int .i64 ((af a).length:Nat))),(55,.val (.int .i64 i)),(60,.aO 1002 1 0 (af b).length),(61,.val (.int .i64 ((af b).length:Nat))),(62,.val (.int .i64 k))]∧hp=[(4,⟨46,true,.one [.nat 0]⟩),(1001,⟨23,true,.ints .u32 (cA a)⟩),(1002,⟨23,true,.ints .u32 (cA b)⟩),(52,⟨23,true,.ints .u32 o2⟩)]) (af b).length ?_ ?_ ?_
    ·kernel_rfl
    ·exact⟨0,out,0,rfl,aa,aa,hlen,hw,(fun j _=>rfl),by simp[aB],rfl,rfl⟩
    rintro m _ _ ⟨k,o2,c,rfl,hk,hc,hlen2,hw2',cx,hval2,rfl,rfl⟩
    have e4:IntKind.i64.wrap ((k:Int)+1)=((k+1:Nat):Int):=by rw[wrap_i64 aa aa];omega
    have Yg:=cF b
    by_cases hklt:k<(af b).length
    ·have t2:decide ((k:Int)<((af b).length:Int))=true:=decide_eq_true aa
     have e5:0+(k:Int).toNat=k:=aa
     have e6:IntKind.i64.wrap ((i:Int)+k)=((i+k:Nat):Int):=by rw[wrap_i64 aa aa];omega
     have e7:0+((i+k:Nat):Int).toNat=i+k:=aa
     obtain⟨v,hvv⟩:=Int.eq_ofNat_of_zero_le (bh b k).1
     have hv2:=(bh b k).2
     obtain⟨o,ho⟩:=Int.eq_ofNat_of_zero_le (hw2' (i+k)).1
     have Qu:=(hw2' (i+k)).2
     have e8:(cA b).getD k 0=(v:Int):=by rw[eb hklt];exact hvv
     have hpv:w*v≤4294967295*4294967295:=Nat.mul_le_mul aa aa
     have e9:IntKind.u64.wrap ((c:Int)+IntKind.u64.wrap (IntKind.u64.wrap (IntKind.u64.wrap (w:Int)*IntKind.u64.wrap (v:Int))+IntKind.u64.wrap (o:Int)))=((c+(w*v+o):Nat):Int):=by
      rw[ep (n:=w) aa,ep (n:=v) aa,ep (n:=o) aa,←Int.natCast_mul,ep (n:=w*v) aa,←Int.natCast_add,ep (n:=w*v+o) aa,←Int.natCast_add,ep aa]
     have MO:IntKind.u32.wrap ((c+(w*v+o):Nat):Int)=(((c+(w*v+o)) % 4294967296:Nat):Int):=oO _
     have Qz:jK .u64 ((c+(w*v+o):Nat):Int) 32=(((c+(w*v+o))/4294967296:Nat):Int):=fN _
     have om:(c+(w*v+o))/4294967296<4294967296:=aa
     have ca:=C5 (i:=i) (k:=k) (Y:=af b) aa ho (by rw[←cx (i+k) (Nat.le_refl _)];exact ho) hvv hval2
     conv=>whnf
     (repeat((first|refine ag rfl rfl ?_|refine And.intro Q6 ?_|rw[t2]|rw[e5]|rw[e8]|rw[e6]|rw[e7]|rw[ho]|rw[e9]|rw[MO]|rw[Qz]|rw[e4]);conv=>whnf))
     exact⟨(af b).length - (k+1),fun k=>k,[4,8,9,10,11,12,53,54,55,60,61,62],[4,1001,1002,52],aa,av,k+1,_,_,rfl,aa,om,by simpa using hlen2,hw2'.set aa aa,(fun j hj=>by rw[aZ,if_neg aa];exact cx j aa),ca,rfl,rfl⟩
    ·have nu:k=(af b).length:=aa
     subst nu
     have t2:decide (((af b).length:Int)<((af b).length:Int))=false:=decide_eq_false aa
     have e6:IntKind.i64.wrap ((i:Int)+((af b).length:Int))=((i+(af b).length:Nat):Int):=by rw[wrap_i64 aa aa];omega
     have e7:0+((i+(af b).length:Nat):Int).toNat=i+(af b).length:=aa
     have e8:IntKind.u32.wrap (c:Int)=(c:Int):=oh hc
     have ga:=Gj (X:=af a) (o2:=o2) aa (by rw[cx _ (Nat.le_refl _)];exact hz _ (Nat.le_refl _)) hww (eM b) bZ hval2
     conv=>whnf
     (repeat((first|refine ae rfl rfl ?_|refine And.intro Q6 ?_|rw[t2]|rw[e6]|rw[e7]|rw[e8]|rw[e2]);conv=>whnf))
     exact⟨(af a).length - (i+1),fun k=>k,[4,8,9,53,54,55],[4,1001,1002,52],aa,av,i+1,_,rfl,aa,by simpa using hlen2,hw2'.set aa aa,(fun j hj=>by rw[aZ,if_neg aa,cx j aa];exact hz j aa),by rw[show i+1+(af b).length=i+(af b).length+1 from by omega];exact ga,rfl,rfl⟩
   ·have jx:i=(af a).length:=aa
    subst jx
    have t1:decide (((af a).length:Int)<((af a).length:Int))=false:=decide_eq_false aa
    rw[eM]at bZ
    have lI:(aB out ((af a).length+(af b).length)).toNat=a*b:=by
     rw[bZ,←Int.natCast_mul,Int.toNat_natCast]
    have C4:=uw out ((af a).length+(af b).length) aa aa hw 52 true
    rw[lI]at C4
    conv=>whnf
    (repeat(first|(refine ae rfl rfl ?_;conv=>whnf)|(refine mj (by assumption) rfl ?_;conv=>whnf)|(rw[t1];conv=>whnf)))
    exact au.refl _
  ·rw[dq,decide_eq_false h1]
   (repeat((first|refine ae rfl rfl ?_|refine aq av ?_|refine And.intro Q6 ?_|refine lG (by assumption) rfl ?_|refine ah dP ?_|rw[ew]);conv=>whnf))
   refine aj hE (fun k=>k) [4,8,9,53,54,55] [4,1001,1002,52] (fun m fr hp=>∃(i:Nat) (out:List Int),m=(af a).length - i∧i≤(af a).length∧out.length=(af a).length+(af b).length∧fL out∧(∀j,i+(af b).length≤j→out.getD j 0=0)∧aB out (i+(af b).length)=aB (af a) i*b∧
    fr=[(4,.ptr 4 0 0 0),(8,.aO 1002 1 0 (af b).length),(9,.aO 52 1 0 ((af a).length+(af b).length)),(53,.aO 1001 1 0 (af a).length),(54,.val (.int .i64 ((af a).length:Nat))),(55,.val (.int .i64 i))]∧hp=[(4,⟨46,true,.one [.nat 0]⟩),(1001,⟨23,true,.ints .u32 (cA a)⟩),(1002,⟨23,true,.ints .u32 (cA b)⟩),(52,⟨23,true,.ints .u32 out⟩)]) (af a).length ?_ ?_ ?_
   ·kernel_rfl
   ·exact⟨0,List.replicate ((af a).length+(af b).length) 0,rfl,aa,by simp,(fun i=>by rw[bB];decide),(fun j _=>bB),by rw[eD (k:=0) (fun i _ _=>bB) aa];simp[aB],rfl,rfl⟩
   rintro m _ _ ⟨i,out,rfl,hi,hlen,hw,hz,bZ,rfl,rfl⟩
   by_cases aE:i<(af a).length
   ·have t1:decide ((i:Int)<((af a).length:Int))=true:=decide_eq_true aa
    have e1:0+(i:Int).toNat=i:=aa
    have e2:IntKind.i64.wrap ((i:Int)+1)=((i+1:Nat):Int):=by rw[wrap_i64 aa aa];omega
    obtain⟨w,hww⟩:=Int.eq_ofNat_of_zero_le (bh a i).1
    have nv:=(bh a i).2
    have gx:=cF a
    have e3:(cA a).getD i 0=(w:Int):=by rw[eb aE];exact hww
    conv=>whnf
    (repeat((first|refine ag rfl rfl ?_|refine And.intro Q6 ?_|rw[t1]|rw[e1]|rw[e3]);conv=>whnf))
    refine aj hE (fun k=>k) [4,8,9,10,11,12,53,54,55,60,61,62] [4,1001,1002,52] (fun m fr hp=>∃(k:Nat) (o2:List Int) (c:Nat),m=(af b).length - k∧k≤(af b).length∧c<4294967296∧o2.length=(af a).length+(af b).length∧fL o2∧(∀j,i+k≤j→o2.getD j 0=out.getD j 0)∧aB o2 (i+k)+c*4294967296^(i+k)=aB out (i+k)+w*4294967296^i*aB (af b) k∧
     fr=[(4,.ptr 4 0 0 0),(8,.aO 1002 1 0 (af b).length),(9,.aO 52 1 0 ((af a).length+(af b).length)),(10,.val (.int .i64 i)),(11,.val (.int .u32 w)),(12,.val (.int .u64 c)),(53,.aO 1001 1 0 (af a).length),(54,.val (.int .i64 ((af a).length:Nat))),(55,.val (.int .i64 i)),(60,.aO 1002 1 0 (af b).length),(61,.val (.int .i64 ((af b).length:Nat))),(62,.val (.int .i64 k))]∧hp=[(4,⟨46,true,.one [.nat 0]⟩),(1001,⟨23,true,.ints .u32 (cA a)⟩),(1002,⟨23,true,.ints .u32 (cA b)⟩),(52,⟨23,true,.ints .u32 o2⟩)]) (af b).length ?_ ?_ ?_
    ·kernel_rfl
    ·exact⟨0,out,0,rfl,aa,aa,hlen,hw,(fun j _=>rfl),by simp[aB],rfl,rfl⟩
    rintro m _ _ ⟨k,o2,c,rfl,hk,hc,hlen2,hw2',cx,hval2,rfl,rfl⟩
    have e4:IntKind.i64.wrap ((k:Int)+1)=((k+1:Nat):Int):=by rw[wrap_i64 aa aa];omega
    have Yg:=cF b
    by_cases hklt:k<(af b).length
    ·have t2:decide ((k:Int)<((af b).length:Int))=true:=decide_eq_true aa
     have e5:0+(k:Int).toNat=k:=aa
     have e6:IntKind.i64.wrap ((i:Int)+k)=((i+k:Nat):Int):=by rw[wrap_i64 aa aa];omega
     have e7:0+((i+k:Nat):Int).toNat=i+k:=aa
     obtain⟨v,hvv⟩:=Int.eq_ofNat_of_zero_le (bh b k).1
     have hv2:=(bh b k).2
     obtain⟨o,ho⟩:=Int.eq_ofNat_of_zero_le (hw2' (i+k)).1
     have Qu:=(hw2' (i+k)).2
     have e8:(cA b).getD k 0=(v:Int):=by rw[eb hklt];exact hvv
     have hpv:w*v≤4294967295*4294967295:=Nat.mul_le_mul aa aa
     have e9:IntKind.u64.wrap ((c:Int)+IntKind.u64.wrap (IntKind.u64.wrap (IntKind.u64.wrap (w:Int)*IntKind.u64.wrap (v:Int))+IntKind.u64.wrap (o:Int)))=((c+(w*v+o):Nat):Int):=by
      rw[ep (n:=w) aa,ep (n:=v) aa,ep (n:=o) aa,←Int.natCast_mul,ep (n:=w*v) aa,←Int.natCast_add,ep (n:=w*v+o) aa,←Int.natCast_add,ep aa]
     have MO:IntKind.u32.wrap ((c+(w*v+o):Nat):Int)=(((c+(w*v+o)) % 4294967296:Nat):Int):=oO _
     have Qz:jK .u64 ((c+(w*v+o):Nat):Int) 32=(((c+(w*v+o))/4294967296:Nat):Int):=fN _
     have om:(c+(w*v+o))/4294967296<4294967296:=aa
     have ca:=C5 (i:=i) (k:=k) (Y:=af b) aa ho (by rw[←cx (i+k) (Nat.le_refl _)];exact ho) hvv hval2
     conv=>whnf
     (repeat((first|refine ag rfl rfl ?_|refine And.intro Q6 ?_|rw[t2]|rw[e5]|rw[e8]|rw[e6]|rw[e7]|rw[ho]|rw[e9]|rw[MO]|rw[Qz]|rw[e4]);conv=>whnf))
     exact⟨(af b).length - (k+1),fun k=>k,[4,8,9,10,11,12,53,54,55,60,61,62],[4,1001,1002,52],aa,av,k+1,_,_,rfl,aa,om,by simpa using hlen2,hw2'.set aa aa,(fun j hj=>by rw[aZ,if_neg aa];exact cx j aa),ca,rfl,rfl⟩
    ·have nu:k=(af b).length:=aa
     subst nu
     have t2:decide (((af b).length:Int)<((af b).length:Int))=false:=decide_eq_false aa
     have e6:IntKind.i64.wrap ((i:Int)+((af b).length:Int))=((i+(af b).length:Nat):Int):=by rw[wrap_i64 aa aa];omega
     have e7:0+((i+(af b).length:Nat):Int).toNat=i+(af b).length:=aa
     have e8:IntKind.u32.wrap (c:Int)=(c:Int):=oh hc
     have ga:=Gj (X:=af a) (o2:=o2) aa (by rw[cx _ (Nat.le_refl _)];exact hz _ (Nat.le_refl _)) hww (eM b) bZ hval2
     conv=>whnf
     (repeat((first|refine ae rfl rfl ?_|refine And.intro Q6 ?_|rw[t2]|rw[e6]|rw[e7]|rw[e8]|rw[e2]);conv=>whnf))
     exact⟨(af a).length - (i+1),fun k=>k,[4,8,9,53,54,55],[4,1001,1002,52],aa,av,i+1,_,rfl,aa,by simpa using hlen2,hw2'.set aa aa,(fun j hj=>by rw[aZ,if_neg aa,cx j aa];exact hz j aa),by rw[show i+1+(af b).length=i+(af b).length+1 from by omega];exact ga,rfl,rfl⟩
   ·have jx:i=(af a).length:=aa
    subst jx
    have t1:decide (((af a).length:Int)<((af a).length:Int))=false:=decide_eq_false aa
    rw[eM]at bZ
    have lI:(aB out ((af a).length+(af b).length)).toNat=a*b:=by
     rw[bZ,←Int.natCast_mul,Int.toNat_natCast]
    have C4:=uw out ((af a).length+(af b).length) aa aa hw 52 true
    rw[lI]at C4
    conv=>whnf
    (repeat(first|(refine ae rfl rfl ?_;conv=>whnf)|(refine mj (by assumption) rfl ?_;conv=>whnf)|(rw[t1];conv=>whnf)))
    exact au.refl _
theorem Gk (xs:List Int) (n:Nat) (hn:n≤xs.length) (hl:xs.length<1099511627776) (hx:fL xs) (y:Nat) (hy0:y≠0) (hy:y<4294967296) (K Q:Nat) (hKQ:Q≠K) (wr:Bool) (X:Nat) (hX:aB xs n=X):
  ab Tryz.prog 314 [.aO K 1 0 n,.val (.int .u32 y)] [(K,⟨23,wr,.ints .u32 xs⟩)] (.ck [.aO Q 1 0 n,.val (.int .u32 (X % y:Nat))]) [(Q,⟨23,true,.ints .u32 (bJ (X/y) n)⟩)] []:=by
 refine ab.rN ?_
 refine gh (Z:=[]) aJ bO Tryz.func314 rfl av (args:=[.aO 0 1 0 n,.val (.int .u32 y)]) (fk:=[(0,⟨23,false,.ints .u32 xs⟩)]) (c:=.ck [.aO 9 1 0 n,.val (.int .u32 (X % y:Nat))]) (new:=[(9,⟨23,true,.ints .u32 (bJ (X/y) n)⟩)]) (upd:=[]) (cI.of rfl rfl rfl rfl rfl rfl rfl rfl rfl rfl rfl) rfl (cE [(0,K),(9,Q)]) (bo.PF rfl (fun q hq=>by simp[az]at hq;subst hq;exact hKQ)) ?_
 intro W0 w0 ρ0 hE
 conv=>whnf
 have e0:IntKind.i64.wrap ((n:Int) - 1)=(n:Int) - 1:=wrap_i64 aa aa
 (repeat(first|(refine And.intro Q6 ?_;conv=>whnf)|(rw[e0];conv=>whnf)))
 refine aj hE (fun k=>k) [0,1,4,5,6] [0,9] (fun j fr hp=>∃(q:List Int) (r:Nat),j≤n∧q.length=n∧fL q∧(∀i,i<j→q.getD i 0=0)∧r<y∧aB q n*y+r*4294967296^j=X - aB xs j∧
  fr=[(0,.aO 0 1 0 n),(1,.val (.int .u32 y)),(4,.aO 9 1 0 n),(5,.val (.int .u32 r)),(6,.val (.int .i64 ((j:Int) - 1)))]∧hp=[(0,⟨23,false,.ints .u32 xs⟩),(9,⟨23,true,.ints .u32 q⟩)]) n ?_ ?_ ?_
 ·kernel_rfl
 ·exact⟨List.replicate n 0,0,aa,by simp,(fun i=>by rw[bB];decide),(fun i _=>bB),aa,by rw[eD (k:=0) (fun i _ _=>bB) aa,hX];simp[aB],rfl,rfl⟩
 rintro j _ _ ⟨q,r,hj,NO,hq,hq0,hr,bZ,rfl,rfl⟩
 by_cases h0:j=0
 ·subst h0
  have t2:decide (((0:Nat):Int) - 1≥0)=false:=rfl
  obtain⟨Qv,hQ⟩:=Int.eq_ofNat_of_zero_le (b8 hq n)
  have hX2:Qv*y+r=X:=by
   rw[hQ,Int.pow_zero,Int.mul_one,aB,Int.sub_zero,←Int.natCast_mul]at bZ
   omega
  have hdiv:X/y=Qv:=by rw[←hX2,Nat.add_comm,Nat.add_mul_div_right _ _ aa,Nat.div_eq_of_lt hr,Nat.zero_add]
  have Yh:X % y=r:=by rw[←hX2,Nat.add_comm,Nat.add_mul_mod_self_right,Nat.mod_eq_of_lt hr]
  rw[hdiv,Yh,←oM NO hq hQ]
  conv=>whnf
  (repeat(first|(refine ae rfl rfl ?_;conv=>whnf)))
  exact⟨au.refl _,rS rfl,(fun _ _ h=>by cases h)⟩
 ·obtain⟨i,rfl⟩:∃i,j=i+1:=⟨j - 1,aa⟩
  have ei:(((i+1:Nat):Int) - 1)=(i:Int):=aa
  rw[ei]
  have t2:decide ((i:Int)≥0)=true:=decide_eq_true aa
  have e1:0+(i:Int).toNat=i:=aa
  have e2:IntKind.i64.wrap ((i:Int) - 1)=(i:Int) - 1:=wrap_i64 aa aa
  obtain⟨w,hww⟩:=Int.eq_ofNat_of_zero_le (hx i).1
  have nv:=(hx i).2
  have kd:=NK r w y hr aa hy
  have yO:(r*4294967296+w) % y<y:=Nat.mod_lt _ aa
  have hqd:(r*4294967296+w)/y<4294967296:=Nat.div_lt_of_lt_mul (by
   have:=Nat.mul_le_mul_right 4294967296 (show r+1≤y by omega)
   rw[Nat.mul_comm y];omega)
  have ca:aB (q.set i (((r*4294967296+w)/y:Nat):Int)) n*y+(((r*4294967296+w) % y:Nat):Int)*4294967296^i=X - aB xs i:=by
   rw[mO aa aa,hq0 i aa,Int.sub_zero]
   have hdm:((y:Int)*(((r*4294967296+w)/y:Nat):Int)+(((r*4294967296+w) % y:Nat):Int))=(r:Int)*4294967296+w:=by
    have:=Nat.div_add_mod (r*4294967296+w) y
    rw[←Int.natCast_mul,←Int.natCast_add,this];omega
   rw[Int.pow_succ,aB,hww]at bZ
   generalize (((r*4294967296+w)/y:Nat):Int)=d at*
   generalize (((r*4294967296+w) % y:Nat):Int)=e at*
   generalize (4294967296:Int)^i=P at*
   grind
  conv=>whnf
  (repeat((first|refine ag rfl rfl ?_|refine And.intro Q6 ?_|refine aS (by assumption) ?_|rw[t2]|rw[e1]|rw[hww]|rw[e2]);conv=>whnf))
  exact⟨i,fun k=>k,[0,1,4,5,6],[0,9],aa,av,_,_,aa,by simpa using NO,hq.set (Int.natCast_nonneg _) (Int.ofNat_lt.2 hqd),(fun j hj=>by rw[aZ,if_neg aa];exact hq0 j aa),yO,ca,rfl,rfl⟩
theorem Yi {w s c:Nat} (hs:s<32) (hc:c<2^s) (hw:w<4294967296):
  D7 .u32 (jJ .u32 (w:Int) (s:Int)) (c:Int)=((w*2^s % 4294967296+c:Nat):Int)∧w*2^s % 4294967296+c<4294967296:=by
 have JX:min (s:Int).toNat IntKind.u32.bits=s:=by simp[IntKind.bits];omega
 have e:jJ .u32 (w:Int) (s:Int)=((w*2^s % 4294967296:Nat):Int):=by
  rw[jJ,JX,show(w:Int)*2^s=((w*2^s:Nat):Int)from by rw[Int.natCast_mul,Int.natCast_pow];rfl]
  exact oO _
 have hW:4294967296=2^(32 - s)*2^s:=by rw[←Nat.pow_add,show 32 - s+s=32 from by omega]
 have e2:w*2^s % 4294967296=2^s*(w % 2^(32 - s)):=by
  rw[hW,Nat.mul_mod_mul_right,Nat.mul_comm]
 have hm:w*2^s % 4294967296<4294967296:=Nat.mod_lt _ aI
 have aE:w % 2^(32 - s)<2^(32 - s):=Nat.mod_lt _ (Nat.two_pow_pos _)
 have lI:w*2^s % 4294967296+c<4294967296:=by
  rw[e2]
  have:=Nat.mul_le_mul_left (2^s) (show w % 2^(32 - s)+1≤2^(32 - s)from aE)
  rw[Nat.mul_comm (2^s) (2^(32 - s)),←hW,Nat.mul_add,Nat.mul_one]at this
  omega
 refine⟨?_,lI⟩
 rw[e,vT hm aa]
 congr 1
 rw[e2,←Nat.two_pow_add_eq_or_of_lt hc]
theorem zP (xs:List Int) (n:Nat) (hn:n≤xs.length) (hl:xs.length<1099511627776) (hx:fL xs) (s:Nat) (hs:s<32) (K Q:Nat) (hKQ:Q≠K) (wr:Bool) (X:Nat) (hX:aB xs n=X):
  ab Tryz.prog 359 [.aO K 1 0 n,.val (.int .i64 s)] [(K,⟨23,wr,.ints .u32 xs⟩)] (.aO Q 1 0 (n+1)) [(Q,⟨23,true,.ints .u32 (bJ (X*2^s) (n+1))⟩)] []:=by
 refine ab.rN ?_
 refine gh (Z:=[]) aJ bO Tryz.func359 rfl av (args:=[.aO 0 1 0 n,.val (.int .i64 s)]) (fk:=[(0,⟨23,false,.ints .u32 xs⟩)]) (c:=.aO 12 1 0 (n+1)) (new:=[(12,⟨23,true,.ints .u32 (bJ (X*2^s) (n+1))⟩)]) (upd:=[]) (cI.of rfl rfl rfl rfl rfl rfl rfl rfl rfl rfl rfl) rfl (cE [(0,K),(12,Q)]) (bo.PF rfl (fun q hq=>by simp[az]at hq;subst hq;exact hKQ)) ?_
 intro W0 w0 ρ0 hE
 conv=>whnf
 have ew:IntKind.i64.wrap ((n:Int)+1)=((n+1:Nat):Int):=by rw[wrap_i64 aa aa];omega
 (repeat(first|(refine And.intro Q6 ?_;conv=>whnf)|(rw[ew];conv=>whnf)))
 refine aj hE (fun k=>k) [0,1,5,6,13,14,15] [0,12] (fun m fr hp=>∃(i:Nat) (out:List Int) (c:Nat),m=n - i∧i≤n∧out.length=n+1∧fL out∧c<2^s∧aB out i+c*4294967296^i=aB xs i*2^s∧
  fr=[(0,.aO 0 1 0 n),(1,.val (.int .i64 s)),(5,.aO 12 1 0 (n+1)),(6,.val (.int .u32 c)),(13,.aO 0 1 0 n),(14,.val (.int .i64 n)),(15,.val (.int .i64 i))]∧hp=[(0,⟨23,false,.ints .u32 xs⟩),(12,⟨23,true,.ints .u32 out⟩)]) n ?_ ?_ ?_
 ·kernel_rfl
 ·exact⟨0,List.replicate (n+1) 0,0,aa,aa,by simp,(fun i=>by rw[bB];decide),Nat.two_pow_pos s,by simp[aB],rfl,rfl⟩
 rintro m _ _ ⟨i,out,c,rfl,hi,hlen,hw,hc,bZ,rfl,rfl⟩
 have adQ:2^s≤2147483648:=Nat.le_trans (Nat.pow_le_pow_right aI (show s≤31 by omega)) aI
 by_cases aE:i<n
 ·have t1:decide ((i:Int)<(n:Int))=true:=decide_eq_true aa
  have e1:0+(i:Int).toNat=i:=aa
  have e2:IntKind.i64.wrap ((i:Int)+1)=((i+1:Nat):Int):=by rw[wrap_i64 aa aa];omega
  obtain⟨w,hww⟩:=Int.eq_ofNat_of_zero_le (hx i).1
  have nv:=(hx i).2
  obtain⟨f1,f2⟩:=Yi (w:=w) hs hc aa
  have F9:w*2^s≤4294967295*2147483648:=Nat.mul_le_mul aa adQ
  have f3:IntKind.u32.wrap (jK .u64 (jJ .u64 (IntKind.u64.wrap (w:Int)) (s:Int)) 32)=((w*2^s/4294967296:Nat):Int):=by
   have JX:min (s:Int).toNat IntKind.u64.bits=s:=by simp[IntKind.bits];omega
   rw[ep (n:=w) aa,jJ,JX,show(w:Int)*2^s=((w*2^s:Nat):Int)from by rw[Int.natCast_mul,Int.natCast_pow];rfl,ep aa,fN,oh aa]
  have om:w*2^s/4294967296<2^s:=Nat.div_lt_of_lt_mul (by
   exact Nat.mul_lt_mul_of_pos_right aa (Nat.two_pow_pos s))
  have ca:aB (out.set i ((w*2^s % 4294967296+c:Nat):Int)) (i+1)+((w*2^s/4294967296:Nat):Int)*4294967296^(i+1)=aB xs (i+1)*2^s:=by
   rw[aB,aB,c9 (Nat.le_refl _),aZ,if_pos ⟨rfl,aa⟩,hww,Int.pow_succ]
   have hd:((w*2^s % 4294967296+c:Nat):Int)=(w:Int)*2^s+c - ((w*2^s/4294967296:Nat):Int)*4294967296:=by
    have:=Nat.div_add_mod (w*2^s) 4294967296
    have h2:((w*2^s:Nat):Int)=(w:Int)*2^s:=by rw[Int.natCast_mul,Int.natCast_pow];rfl
    omega
   rw[hd]
   generalize ((w*2^s/4294967296:Nat):Int)=q
   generalize (4294967296:Int)^i=P at*
   generalize (2:Int)^s=S at*
   grind
  conv=>whnf
  (repeat((first|refine ag rfl rfl ?_|refine And.intro Q6 ?_|rw[t1]|rw[e1]|rw[hww]|rw[f1]|rw[f3]|rw[e2]);conv=>whnf))
  exact⟨n - (i+1),fun k=>k,[0,1,5,6,13,14,15],[0,12],aa,av,i+1,_,_,rfl,aa,by simpa using hlen,hw.set aa aa,om,ca,rfl,rfl⟩
 ·have jx:i=n:=aa
  subst jx
  have t1:decide ((i:Int)<(i:Int))=false:=decide_eq_false aa
  have e1:0+(i:Int).toNat=i:=aa
  have Cc:c<4294967296:=aa
  have ga:aB (out.set i (c:Int)) (i+1)=((X*2^s:Nat):Int):=by
   rw[aB,c9 (Nat.le_refl _),aZ,if_pos ⟨rfl,aa⟩,bZ,hX,Int.natCast_mul,Int.natCast_pow];rfl
  rw[←oM (xs:=out.set i (c:Int)) (by simpa using hlen) (hw.set aa aa) ga]
  conv=>whnf
  (repeat((first|refine ae rfl rfl ?_|refine And.intro Q6 ?_|rw[t1]|rw[e1]);conv=>whnf))
  exact⟨au.refl _,rS rfl,(fun _ _ h=>by cases h)⟩
theorem Yj (us:List Int) (hl:us.length<1099511627776) (hu:fL us) (K:Nat) (U:Nat) (hU:aB us us.length=U):
  ab Tryz.prog 361 [.aO K 1 0 us.length] [(K,⟨23,true,.ints .u32 us⟩)] (.ck []) [] [(K,⟨23,true,.ints .u32 (bJ (U/2) us.length)⟩)]:=by
 refine gh (Z:=[]) aJ bO Tryz.func361 rfl av (args:=[.aO 0 1 0 us.length]) (fk:=[(0,⟨23,true,.ints .u32 us⟩)]) (c:=.ck []) (new:=[]) (upd:=[(0,⟨23,true,.ints .u32 (bJ (U/2) us.length)⟩)]) (cI.of rfl rfl rfl rfl rfl rfl rfl rfl rfl rfl rfl) rfl (fun _=>K) bo.upd ?_
 intro W0 w0 ρ0 hE
 conv=>whnf
 skip
 refine aj hE (fun k=>k) [0,4,5] [0] (fun m fr hp=>∃(i:Nat) (o:List Int),m=us.length - i∧i≤us.length∧o.length=us.length∧fL o∧(∀j,i≤j→o.getD j 0=us.getD j 0)∧2*aB o i+us.getD 0 0 % 2=aB us i+us.getD i 0 % 2*4294967296^i∧
  fr=[(0,.aO 0 1 0 us.length),(4,.val (.int .i64 us.length)),(5,.val (.int .i64 i))]∧hp=[(0,⟨23,true,.ints .u32 o⟩)]) us.length ?_ ?_ ?_
 ·kernel_rfl
 ·exact⟨0,us,aa,aa,rfl,hu,(fun _ _=>rfl),by simp[aB],rfl,rfl⟩
 rintro m _ _ ⟨i,o,rfl,hi,hlen,hw,cx,bZ,rfl,rfl⟩
 by_cases aE:i<us.length
 ·have t1:decide ((i:Int)<(us.length:Int))=true:=decide_eq_true aa
  have e1:0+(i:Int).toNat=i:=aa
  have e2:IntKind.i64.wrap ((i:Int)+1)=((i+1:Nat):Int):=by rw[wrap_i64 aa aa];omega
  obtain⟨w,hww⟩:=Int.eq_ofNat_of_zero_le (hu i).1
  have nv:=(hu i).2
  have J0:o.getD i 0=(w:Int):=by rw[cx i (Nat.le_refl _)];exact hww
  have f1:jK .u32 (w:Int) 1=((w/2:Nat):Int):=jm .u32 (s:=1) aI
  obtain⟨z,hz⟩:=Int.eq_ofNat_of_zero_le (hu (i+1)).1
  have lC:=(hu (i+1)).2
  have f2:∀q:Nat,q<2147483648→D7 .u32 (q:Int) (jJ .u32 (z:Int) 31)=((q+z % 2*2147483648:Nat):Int):=fun q hq=>by
   have e:jJ .u32 (z:Int) 31=((2147483648*(z % 2):Nat):Int):=by
    show IntKind.u32.wrap ((z:Int)*2147483648)=_
    rw[show(z:Int)*2147483648=((z*2147483648:Nat):Int)from aa,oO]
    congr 1;omega
   rw[e,vT aa aa,Nat.or_comm,show 2147483648*(z % 2)=2^31*(z % 2)from rfl,←Nat.two_pow_add_eq_or_of_lt (i:=31) hq]
   congr 1;omega
  have ca:∀t:Int,t=us.getD (i+1) 0 % 2→2*aB (o.set i (((w/2:Nat):Int)+t*2147483648)) (i+1)+us.getD 0 0 % 2=aB us (i+1)+us.getD (i+1) 0 % 2*4294967296^(i+1):=fun t ht=>by
   rw[←ht,aB,aB,c9 (Nat.le_refl _),aZ,if_pos ⟨rfl,aa⟩,hww,Int.pow_succ]
   rw[hww]at bZ
   have hd:2*((w/2:Nat):Int)=(w:Int) - (w:Int) % 2:=aa
   generalize ((w/2:Nat):Int)=q at*
   generalize (w:Int) % 2=p at*
   generalize (4294967296:Int)^i=P at*
   generalize us.getD 0 0 % 2=b at*
   grind
  have dB:∀(v:Int) j,i+1≤j→(o.set i v).getD j 0=us.getD j 0:=fun v j hj=>by
   rw[aZ,if_neg aa];exact cx j aa
  by_cases hn:i+1<us.length
  ·have t2:decide (((i+1:Nat):Int)<(us.length:Int))=true:=decide_eq_true aa
   have e3:0+((i+1:Nat):Int).toNat=i+1:=aa
   have g1:∀v:Int,(o.set i v).getD i 0=v:=fun v=>by rw[aZ,if_pos ⟨rfl,aa⟩]
   have g2:∀v:Int,(o.set i v).getD (i+1) 0=(z:Int):=fun v=>by rw[dB v _ (Nat.le_refl _)];exact hz
   have g3:∀u v:Int,(o.set i u).set i v=o.set i v:=fun u v=>by rw[List.set_set]
   have g4:((w/2+z % 2*2147483648:Nat):Int)=((w/2:Nat):Int)+us.getD (i+1) 0 % 2*2147483648:=by rw[hz];omega
   conv=>whnf
   have g5:∀v:Int,(o.set i v).length=us.length:=fun v=>by simpa using hlen
   (repeat((first|refine ag rfl rfl ?_|refine aq av ?_|refine And.intro Q6 ?_|rw[t1]|rw[e1]|rw[J0]|rw[f1]|rw[e2]|rw[t2]|rw[e3]|rw[g1]|rw[g2]|rw[f2 (w/2) aa]|rw[g3]|rw[g4]);conv=>whnf))
   exact⟨us.length - (i+1),fun k=>k,[0,4,5],[0],aa,av,i+1,_,rfl,aa,by simpa using hlen,hw.set aa aa,dB _,ca _ rfl,rfl,rfl⟩
  ·have t2:decide (((i+1:Nat):Int)<(us.length:Int))=false:=decide_eq_false aa
   have yL:us.getD (i+1) 0=0:=dY aa
   have:=ca 0 (by rw[yL];rfl)
   rw[Int.zero_mul,Int.add_zero]at this
   conv=>whnf
   (repeat((first|refine ag rfl rfl ?_|refine ae rfl rfl ?_|refine And.intro Q6 ?_|rw[t1]|rw[e1]|rw[J0]|rw[f1]|rw[e2]|rw[t2]);conv=>whnf))
   exact⟨us.length - (i+1),fun k=>k,[0,4,5],[0],aa,av,i+1,_,rfl,aa,by simpa using hlen,hw.set aa aa,dB _,this,rfl,rfl⟩
 ·have jx:i=us.length:=aa
  subst jx
  have t1:decide ((us.length:Int)<(us.length:Int))=false:=decide_eq_false aa
  rw[dY (xs:=us) (i:=us.length) (Nat.le_refl _),hU]at bZ
  have ga:aB o us.length=((U/2:Nat):Int):=by
   rw[show(0:Int) % 2=0 from rfl,Int.zero_mul,Int.add_zero]at bZ
   omega
  rw[←oM hlen hw ga]
  conv=>whnf
  (repeat(first|(refine ae rfl rfl ?_;conv=>whnf)|(rw[t1];conv=>whnf)))
  exact⟨au.refl _,(fun _ _ h=>by cases h),rS rfl⟩
theorem sc {v m L i:Nat} (hv:v<4294967296^m) (hi:m≤i):(bJ v L).getD i 0=0:=by
 by_cases h2:i<L
 ·rw[jq h2,Nat.div_eq_of_lt (Nat.lt_of_lt_of_le hv (Nat.pow_le_pow_right aI hi))];rfl
 ·exact dY (by rw[c6];omega)
theorem xD {o:List Int} {L m v:Nat} (hl:o.length=L) (hw:fL o) (hz:∀j,m≤j→o.getD j 0=0) (hm:m≤L) (hv:aB o m=v):o=bJ v L:=
 oM hl hw (by rw[eD (k:=m) (fun i h1 _=>hz i h1) hm,hv])
theorem HD {o us vs:List Int} {s i d w c l x:Nat} (hi:s+i<o.length) (hx:us.getD (s+i) 0=x) (hv:vs.getD i 0=w) (hl:l≤1) (MZ:x<4294967296)
  (bZ:aB o (s+i)=aB us (s+i) - d*aB vs i*4294967296^s+((c:Int)+l)*4294967296^(s+i)):
  aB (o.set (s+i) (((x+4294967296 - (c+d*w) % 4294967296 - l) % 4294967296:Nat):Int)) (s+(i+1))=aB us (s+(i+1)) - d*aB vs (i+1)*4294967296^s+((((c+d*w)/4294967296:Nat):Int)+((if x<(c+d*w) % 4294967296+l then 1 else 0:Nat):Int))*4294967296^(s+(i+1)):=by
 rw[show s+(i+1)=(s+i)+1 from aa,aB,aB,aB,c9 (Nat.le_refl _),aZ,if_pos ⟨rfl,hi⟩,hx,hv,Int.pow_succ]
 have Ce:(c+d*w) % 4294967296<4294967296:=Nat.mod_lt _ aI
 have hd:(((x+4294967296 - (c+d*w) % 4294967296 - l) % 4294967296:Nat):Int)=(x:Int) - (((c+d*w) % 4294967296:Nat):Int) - l+((if x<(c+d*w) % 4294967296+l then 1 else 0:Nat):Int)*4294967296:=by
  split<;>omega
 have hc:(((c+d*w) % 4294967296:Nat):Int)=(c:Int)+d*w - (((c+d*w)/4294967296:Nat):Int)*4294967296:=by
  have:=Nat.div_add_mod (c+d*w) 4294967296
  have h2:((d*w:Nat):Int)=(d:Int)*w:=Int.natCast_mul _ _
  omega
 rw[hd,hc,bZ,Int.pow_add]
 generalize ((if x<(c+d*w) % 4294967296+l then 1 else 0:Nat):Int)=l'
 generalize (((c+d*w)/4294967296:Nat):Int)=q
 generalize (4294967296:Int)^s=S
 generalize (4294967296:Int)^i=P
 grind
theorem J1 {o us vs:List Int} {s n d c l x:Nat} (hi:s+n<o.length) (hx:us.getD (s+n) 0=x) (hl:l≤1) (hc:c<4294967296) (MZ:x<4294967296)
  (bZ:aB o (s+n)=aB us (s+n) - d*aB vs n*4294967296^s+((c:Int)+l)*4294967296^(s+n)):
  aB (o.set (s+n) (((x+4294967296 - c - l) % 4294967296:Nat):Int)) (s+n+1)=aB us (s+n+1) - d*aB vs n*4294967296^s+((if x<c+l then 1 else 0:Nat):Int)*4294967296^(s+n+1):=by
 rw[aB,aB,c9 (Nat.le_refl _),aZ,if_pos ⟨rfl,hi⟩,hx,Int.pow_succ]
 have hd:(((x+4294967296 - c - l) % 4294967296:Nat):Int)=(x:Int) - c - l+((if x<c+l then 1 else 0:Nat):Int)*4294967296:=by
  split<;>omega
 rw[hd,bZ]
 generalize ((if x<c+l then 1 else 0:Nat):Int)=l'
 generalize (4294967296:Int)^(s+n)=S
 generalize (4294967296:Int)^s=P
 grind
theorem J2 {R D B l:Nat} {v:Int} (hl:l≤1) (h0:0≤v) (h1:v<B) (hR:R<B) (hv:v=(R:Int) - D+l*B):
  decide ((l:Int)>0)=decide (R<D)∧v=(((R+B - D) % B:Nat):Int):=by
 have hcc:l=0∨l=1:=aa
 rcases hcc with rfl|rfl
 ·have h2:D≤R:=aa
  refine⟨by rw[decide_eq_false (show ¬R<D by omega)];rfl, ?_⟩
  rw[show R+B - D=(R - D)+B from aa,Nat.add_mod_right,Nat.mod_eq_of_lt aa]
  omega
 ·have h2:R<D:=aa
  refine⟨by rw[decide_eq_true h2];rfl, ?_⟩
  rw[Nat.mod_eq_of_lt aa]
  omega
theorem J3 (L s n R d V:Nat) (vs:List Int) (hL:L<1099511627776) (Yk:s+n+1≤L) (hR:R<4294967296^(s+n+1)) (hvl:vs.length<1099511627776) (hn:n≤vs.length) (NP:fL vs) (hV:aB vs n=V) (hd:d<4294967296)
  (K Q:Nat) (hKQ:K≠Q):
  ab Tryz.prog 360 [.aO K 1 s (n+1),.aO Q 1 0 n,.val (.int .u64 d)] [(K,⟨23,true,.ints .u32 (bJ R L)⟩),(Q,⟨23,true,.ints .u32 vs⟩)]
   (.val (.bool (decide (R<d*V*4294967296^s)))) [] [(K,⟨23,true,.ints .u32 (bJ ((R+4294967296^(s+n+1) - d*V*4294967296^s) % 4294967296^(s+n+1)) L)⟩),(Q,⟨23,true,.ints .u32 vs⟩)]:=by
 refine gh (Z:=[]) aJ bO Tryz.func360 rfl av (args:=[.aO 0 1 s (n+1),.aO 1 1 0 n,.val (.int .u64 d)]) (fk:=[(0,⟨23,true,.ints .u32 (bJ R L)⟩),(1,⟨23,true,.ints .u32 vs⟩)])
  (c:=.val (.bool (decide (R<d*V*4294967296^s)))) (new:=[]) (upd:=[(0,⟨23,true,.ints .u32 (bJ ((R+4294967296^(s+n+1) - d*V*4294967296^s) % 4294967296^(s+n+1)) L)⟩),(1,⟨23,true,.ints .u32 vs⟩)]) (cI.of rfl rfl rfl rfl rfl rfl rfl rfl rfl rfl rfl) rfl (cE [(0,K),(1,Q)]) (bo.two hKQ) ?_
 intro W0 w0 ρ0 hE
 conv=>whnf
 skip
 have adR:(bJ R L).length=L:=c6 R L
 have xE:fL (bJ R L):=gj R L
 have J4:aB (bJ R L) (s+n+1)=R:=by
  have h1:=eD (xs:=bJ R L) (k:=s+n+1) (n:=L) (fun i h1 _=>sc hR h1) Yk
  rw[←h1,gM,Nat.mod_eq_of_lt (Nat.lt_of_lt_of_le hR (Nat.pow_le_pow_right aI Yk))]
 have EN:∀(o:List Int) (v:Nat),o.length=L→fL o→(∀j,s+n+1≤j→o.getD j 0=0)→aB o (s+n+1)=v→o=bJ v L:=fun o v h1 h2 h3 h4=>xD h1 h2 h3 Yk h4
 have hz:∀j,s+n+1≤j→(bJ R L).getD j 0=0:=fun j hj=>sc hR hj
 generalize bJ R L=us at*
 refine aj hE (fun k=>k) [0,1,2,7,8,12,13,14] [0,1] (fun m fr hp=>∃(i:Nat) (o:List Int) (c l:Nat),m=n - i∧i≤n∧o.length=L∧fL o∧c<4294967296∧l≤1∧(∀j,s+i≤j→o.getD j 0=us.getD j 0)∧aB o (s+i)=aB us (s+i) - d*aB vs i*4294967296^s+((c:Int)+l)*4294967296^(s+i)∧
  fr=[(0,.aO 0 1 s (n+1)),(1,.aO 1 1 0 n),(2,.val (.int .u64 d)),(7,.val (.int .u64 c)),(8,.val (.int .u32 l)),(12,.aO 1 1 0 n),(13,.val (.int .i64 n)),(14,.val (.int .i64 i))]∧hp=[(0,⟨23,true,.ints .u32 o⟩),(1,⟨23,true,.ints .u32 vs⟩)]) n ?_ ?_ ?_
 ·kernel_rfl
 ·exact⟨0,us,0,0,aa,aa,adR,xE,aa,aa,(fun _ _=>rfl),by simp[aB],rfl,rfl⟩
 rintro m _ _ ⟨i,o,c,l,rfl,hi,hlen,hw,hc,hl,cx,bZ,rfl,rfl⟩
 obtain⟨x,hx⟩:=Int.eq_ofNat_of_zero_le (xE (s+i)).1
 have MH:=(xE (s+i)).2
 have QA:o.getD (s+i) 0=(x:Int):=by rw[cx _ (Nat.le_refl _)];exact hx
 by_cases aE:i<n
 ·have t1:decide ((i:Int)<(n:Int))=true:=decide_eq_true aa
  have e1:0+(i:Int).toNat=i:=aa
  have e1s:s+(i:Int).toNat=s+i:=aa
  have e2:IntKind.i64.wrap ((i:Int)+1)=((i+1:Nat):Int):=by rw[wrap_i64 aa aa];omega
  obtain⟨w,hww⟩:=Int.eq_ofNat_of_zero_le (NP i).1
  have nv:=(NP i).2
  have hp:d*w≤4294967295*4294967295:=Nat.mul_le_mul aa aa
  have e9:IntKind.u64.wrap ((c:Int)+IntKind.u64.wrap ((d:Int)*IntKind.u64.wrap (w:Int)))=((c+d*w:Nat):Int):=by
   rw[ep (n:=w) aa,←Int.natCast_mul,ep (n:=d*w) aa,←Int.natCast_add,ep aa]
  have MO:IntKind.u32.wrap ((c+d*w:Nat):Int)=(((c+d*w) % 4294967296:Nat):Int):=oO _
  have Qz:jK .u64 ((c+d*w:Nat):Int) 32=(((c+d*w)/4294967296:Nat):Int):=fN _
  have ML:=Bj x ((c+d*w) % 4294967296) l aa aa hl
  have ca:=HD (o:=o) (us:=us) (vs:=vs) aa hx hww hl aa bZ
  have om:(c+d*w)/4294967296<4294967296:=aa
  have ra:(if x<(c+d*w) % 4294967296+l then 1 else 0:Nat)≤1:=by split<;>omega
  conv=>whnf
  (repeat((first|refine ag rfl rfl ?_|refine And.intro Q6 ?_|refine aS (by assumption) ?_|rw[t1]|rw[e1]|rw[e1s]|rw[hww]|rw[QA]|rw[e9]|rw[MO]|rw[Qz]|rw[e2]);conv=>whnf))
  exact⟨n - (i+1),fun k=>k,[0,1,2,7,8,12,13,14],[0,1],aa,av,i+1,_,_,_,rfl,aa,by simpa using hlen,hw.set aa aa,om,ra,(fun j hj=>by rw[aZ,if_neg aa];exact cx j aa),ca,rfl,rfl⟩
 ·have jx:i=n:=aa
  subst jx
  have t1:decide ((i:Int)<(i:Int))=false:=decide_eq_false aa
  have e1s:s+(i:Int).toNat=s+i:=aa
  have e8:IntKind.u32.wrap (c:Int)=(c:Int):=oh hc
  have ML:=Bj x c l aa hc hl
  have ga:=J1 aa hx hl hc aa bZ
  have ra:(if x<c+l then 1 else 0:Nat)≤1:=by split<;>omega
  have yV:fL (o.set (s+i) (((x+4294967296 - c - l) % 4294967296:Nat):Int)):=hw.set aa aa
  have MN:(o.set (s+i) (((x+4294967296 - c - l) % 4294967296:Nat):Int)).length=L:=by simpa using hlen
  obtain⟨Yl,hd2⟩:=J2 (R:=R) (D:=d*V*4294967296^s) (B:=4294967296^(s+i+1)) ra (b8 yV _) (by rw[cX];exact gy yV _) hR (by rw[ga,J4,hV,Int.natCast_mul,Int.natCast_mul,cX,cX])
  have Hd:=EN _ _ MN yV (fun j hj=>by rw[aZ,if_neg aa,cx j aa];exact hz j hj) hd2
  conv=>whnf
  (repeat((first|refine ae rfl rfl ?_|refine And.intro Q6 ?_|refine aS (by assumption) ?_|rw[t1]|rw[e1s]|rw[e8]|rw[QA]);conv=>whnf))
  rw[←Hd,←Yl]
  exact⟨au.refl _,(fun _ _ h=>by cases h),fY rfl rfl⟩
def Hid (p:Prop):Prop:=p
theorem Hid.out {p:Prop} (h:Hid p):p:=h
theorem bg {α:Type} [LT α] {a b:α} {q:Prop} (h:a<b) (hq:q):a<b∧q:=⟨h,hq⟩
theorem gz {α:Type} [LE α] {a b:α} {q:Prop} (h:a≤b) (hq:q):a≤b∧q:=⟨h,hq⟩
theorem aC {a b q:Prop} (h:a∧b) (hq:q):(a∧b)∧q:=⟨h,hq⟩
theorem bX {α:Type} {a b:α} {q:Prop} (h:a≠b) (hq:q):a≠b∧q:=⟨h,hq⟩
theorem J5 {V R P S W d r:Nat} (hP:0<P) (hS:0<S) (hW:0<W) (h1:d*(V/P/W)+r=R/(P*S)/W) (h2:r*W+R/(P*S) % W<d*(V/P % W)):R<d*V*S:=by
 have e1:=Nat.div_add_mod (V/P) W
 have e2:=Nat.div_add_mod (R/(P*S)) W
 have hV:=Nat.div_mul_le_self V P
 have hPS:0<P*S:=Nat.mul_pos hP hS
 have hR:=Nat.lt_div_mul_add (a:=R) hPS
 generalize V/P=V2 at*
 generalize R/(P*S)=R2 at*
 generalize V2/W=v1 at*
 generalize V2 % W=v2 at*
 generalize R2/W=t at*
 generalize R2 % W=u0 at*
 have h3:R2+1≤d*V2:=by
  rw[←e1,←e2,←h1,Nat.mul_add,Nat.mul_add]
  have:d*(W*v1)=W*(d*v1):=by rw[Nat.mul_left_comm]
  have:W*r=r*W:=Nat.mul_comm _ _
  omega
 have h4:(R2+1)*(P*S)≤d*V*S:=by
  refine Nat.le_trans (Nat.mul_le_mul_right _ h3) ?_
  rw[show d*V2*(P*S)=d*(V2*P)*S from by simp only[Nat.mul_assoc]]
  exact Nat.mul_le_mul_right _ (Nat.mul_le_mul_left _ hV)
 rw[Nat.add_mul,Nat.one_mul]at h4
 omega
theorem HE {V R P S W d r:Nat} (hP:0<P) (hS:0<S) (hW:0<W) (hd:d<W) (h1:d*(V/P/W)+r=R/(P*S)/W) (h2:d*(V/P % W)≤r*W+R/(P*S) % W) (hV:W*P≤V):d*V*S≤R+V*S:=by
 have e1:=Nat.div_add_mod (V/P) W
 have e2:=Nat.div_add_mod (R/(P*S)) W
 have hV2:=Nat.lt_div_mul_add (a:=V) hP
 have hR:=Nat.div_mul_le_self R (P*S)
 generalize V/P=V2 at*
 generalize R/(P*S)=R2 at*
 generalize V2/W=v1 at*
 generalize V2 % W=v2 at*
 generalize R2/W=t at*
 generalize R2 % W=u0 at*
 have h3:d*V2≤R2:=by
  rw[←e1,←e2,←h1,Nat.mul_add,Nat.mul_add]
  have:d*(W*v1)=W*(d*v1):=by rw[Nat.mul_left_comm]
  have:W*r=r*W:=Nat.mul_comm _ _
  omega
 have h4:d*V≤d*V2*P+d*P:=by
  rw[Nat.mul_assoc,←Nat.mul_add];exact Nat.mul_le_mul_left _ aa
 have h5:d*P≤V:=Nat.le_trans (Nat.mul_le_mul_right _ (Nat.le_of_lt hd)) hV
 have h6:d*V*S≤(R2*P+V)*S:=Nat.mul_le_mul_right _ (Nat.le_trans h4 (Nat.add_le_add (Nat.mul_le_mul_right _ h3) h5))
 rw[show(R2*P+V)*S=R2*(P*S)+V*S from by rw[Nat.add_mul,Nat.mul_assoc]]at h6
 omega
theorem HF {V R P S W d r:Nat} (hP:0<P) (hS:0<S) (hW:0<W) (hd:d<W) (h1:d*(V/P/W)+r=R/(P*S)/W) (hr:W≤r):d*V*S≤R:=by
 have hPW:0<P*W:=Nat.mul_pos hP hW
 have hV2:=Nat.lt_div_mul_add (a:=V) hPW
 have hR:=Nat.div_mul_le_self R (P*S*W)
 rw[Nat.div_div_eq_div_mul]at h1
 rw[Nat.div_div_eq_div_mul]at h1
 generalize V/(P*W)=v1 at*
 generalize R/(P*S*W)=t at*
 have h3:d*V≤(d*v1+W)*(P*W):=by
  have h4:d*V≤d*(v1*(P*W)+P*W):=Nat.mul_le_mul_left _ aa
  rw[Nat.mul_add,←Nat.mul_assoc]at h4
  rw[Nat.add_mul]
  exact Nat.le_trans h4 (Nat.add_le_add_left (Nat.mul_le_mul_right _ (Nat.le_of_lt hd)) _)
 have h5:d*V*S≤(d*v1+r)*(P*W)*S:=Nat.mul_le_mul_right _ (Nat.le_trans h3 (Nat.mul_le_mul_right _ aa))
 rw[h1,show t*(P*W)*S=t*(P*S*W)from by simp only[Nat.mul_assoc,Nat.mul_comm S W]]at h5
 omega
theorem EU {V R P S W d r:Nat} (hP:0<P) (hS:0<S) (hW:0<W) (h1:d*(V/P/W)+r=R/(P*S)/W) (hr:W≤r) (hR:R<V*(S*W)):d<W:=by
 have hPW:0<P*W:=Nat.mul_pos hP hW
 have hV2:=Nat.lt_div_mul_add (a:=V) hPW
 have EV:=Nat.div_mul_le_self R (P*S*W)
 rw[Nat.div_div_eq_div_mul]at h1
 rw[Nat.div_div_eq_div_mul]at h1
 generalize V/(P*W)=v1 at*
 generalize R/(P*S*W)=t at*
 refine Classical.byContradiction fun hc=> ?_
 have h2:W*v1≤d*v1:=Nat.mul_le_mul_right _ aa
 have h3:W*v1+W≤t:=aa
 have h4:(W*v1+W)*(P*S*W)≤R:=Nat.le_trans (Nat.mul_le_mul_right _ h3) EV
 have h5:V*(S*W)≤(v1*(P*W)+P*W)*(S*W):=Nat.mul_le_mul_right _ aa
 rw[show(v1*(P*W)+P*W)*(S*W)=(W*v1+W)*(P*S*W)from by grind]at h5
 omega
theorem EW {V R P S W d:Nat} (hP:0<P) (hS:0<S) (hW:0<W) (hv:0<V/P/W) (hd:R/(P*S)/W/(V/P/W)=d):R<(d+1)*V*S:=by
 have hPW:0<P*W:=Nat.mul_pos hP hW
 have adT:0<P*S*W:=Nat.mul_pos (Nat.mul_pos hP hS) hW
 have hV2:=Nat.div_mul_le_self V (P*W)
 have EV:=Nat.lt_div_mul_add (a:=R) adT
 rw[Nat.div_div_eq_div_mul R,Nat.div_div_eq_div_mul V]at hd
 rw[Nat.div_div_eq_div_mul]at hv
 have aE:=Nat.lt_div_mul_add (a:=R/(P*S*W)) hv
 rw[hd]at aE
 generalize V/(P*W)=v1 at*
 generalize R/(P*S*W)=t at*
 have h1:t+1≤(d+1)*v1:=by rw[Nat.add_mul];omega
 have h2:(t+1)*(P*S*W)≤(d+1)*V*S:=by
  refine Nat.le_trans (Nat.mul_le_mul_right _ h1) ?_
  rw[show(d+1)*v1*(P*S*W)=(d+1)*(v1*(P*W))*S from by grind]
  exact Nat.mul_le_mul_right _ (Nat.mul_le_mul_left _ hV2)
 rw[Nat.add_mul,Nat.one_mul]at h2
 omega
theorem zQ {o us vs:List Int} {s i x w c:Nat} (hi:s+i<o.length) (hx:us.getD (s+i) 0=x) (hw:vs.getD i 0=w)
  (hv:aB o (s+i)+c*4294967296^(s+i)=aB us (s+i)+aB vs i*4294967296^s):
  aB (o.set (s+i) (((x+w+c) % 4294967296:Nat):Int)) (s+(i+1))+(((x+w+c)/4294967296:Nat):Int)*4294967296^(s+(i+1))=aB us (s+(i+1))+aB vs (i+1)*4294967296^s:=by
 rw[show s+(i+1)=(s+i)+1 from aa,aB,aB,aB,c9 (Nat.le_refl _),aZ,if_pos ⟨rfl,hi⟩,hx,hw,Int.pow_succ]
 have hd:(((x+w+c) % 4294967296:Nat):Int)=(x:Int)+w+c - (((x+w+c)/4294967296:Nat):Int)*4294967296:=aa
 rw[hd]
 rw[Int.pow_add]at hv ⊢
 generalize (((x+w+c)/4294967296:Nat):Int)=q
 generalize (4294967296:Int)^i=P at*
 generalize (4294967296:Int)^s=Q at*
 grind
theorem C6 {o us vs:List Int} {s n x c R' V:Nat} (hi:s+n<o.length) (hx:us.getD (s+n) 0=x) (hc:c≤1) (MZ:x<4294967296) (hu:aB us (s+n+1)=R') (hV:aB vs n=V)
  (hv:aB o (s+n)+c*4294967296^(s+n)=aB us (s+n)+aB vs n*4294967296^s) (h0:fL (o.set (s+n) (((x+c) % 4294967296:Nat):Int))):
  aB (o.set (s+n) (((x+c) % 4294967296:Nat):Int)) (s+n+1)=(((R'+V*4294967296^s) % 4294967296^(s+n+1):Nat):Int):=by
 have h1:=b8 h0 (s+n+1)
 have h2:=gy h0 (s+n+1)
 rw[aB]at hu
 have h3:aB (o.set (s+n) (((x+c) % 4294967296:Nat):Int)) (s+n+1)=((R'+V*4294967296^s:Nat):Int) - (((x+c)/4294967296:Nat):Int)*4294967296^(s+n+1):=by
  rw[aB,c9 (Nat.le_refl _),aZ,if_pos ⟨rfl,hi⟩,Int.natCast_add,←hu,hx,Int.natCast_mul,←hV,cX,Int.pow_succ]
  have hd:(((x+c) % 4294967296:Nat):Int)=(x:Int)+c - (((x+c)/4294967296:Nat):Int)*4294967296:=aa
  rw[hd]
  generalize (((x+c)/4294967296:Nat):Int)=q
  generalize (4294967296:Int)^(s+n)=P at*
  generalize (4294967296:Int)^s=Q at*
  grind
 rw[←cX]at h2
 rw[h3]at h1 h2 ⊢
 rw[←cX]at*
 have e1:(((x+c)/4294967296:Nat):Int)*((4294967296^(s+n+1):Nat):Int)=((((x+c)/4294967296)*4294967296^(s+n+1):Nat):Int):=(Int.natCast_mul _ _).symm
 rw[e1]at h1 h2 ⊢
 generalize (x+c)/4294967296=t at*
 generalize 4294967296^(s+n+1)=B at*
 generalize V*4294967296^s=D at*
 have h5:R'+D=(R'+D - t*B)+t*B:=aa
 rw[h5,Nat.add_mul_mod_self_right,Nat.mod_eq_of_lt aa]
 omega
theorem C7 {R d D B:Nat} (h:d*D≤R) (hB:R<B):(R+B - d*D) % B=R - d*D:=by
 rw[show R+B - d*D=(R - d*D)+B from aa,Nat.add_mod_right,Nat.mod_eq_of_lt aa]
theorem C8 {R d D B:Nat} (h:R<d*D) (h2:d*D≤R+D) (hB:R<B) (hD:D≤B):((R+B - d*D) % B+D) % B=R - (d - 1)*D∧(d - 1)*D≤R∧R<(d - 1+1)*D∧0<d:=by
 have hd:0<d:=by
  rcases Nat.eq_zero_or_pos d with rfl|h'
  ·simp at h
  ·exact h'
 have e:d*D=(d - 1)*D+D:=by rw[←Nat.succ_mul];congr 1;omega
 have e2:(d - 1+1)*D=d*D:=by congr 1;omega
 rw[e2]
 refine⟨?_,aa,h,hd⟩
 rw[Nat.mod_eq_of_lt (show R+B - d*D<B by omega)]
 rw[show R+B - d*D+D=(R - (d - 1)*D)+B from aa,Nat.add_mod_right,Nat.mod_eq_of_lt aa]
theorem HG {ys:List Int} (hy:fL ys) {n y Y s V:Nat} (h2:2≤n) (hyt:ys.getD (n - 1) 0=y) (hY:aB ys n=Y) (hs:32 - sz y=s) (hV:Y*2^s=V) (h1:1≤sz y) (h32:sz y≤32):
  V<4294967296^n∧2147483648*4294967296^(n - 1)≤V:=by
 have hn:n=(n - 1)+1:=aa
 have ha:=b8 hy (n - 1)
 have hb:=gy hy (n - 1)
 rw[hn,aB,hyt]at hY
 rw[←cX]at hb hY
 have e1:(y:Int)*((4294967296^(n - 1):Nat):Int)=((y*4294967296^(n - 1):Nat):Int):=(Int.natCast_mul _ _).symm
 rw[e1]at hY
 have hY1:y*4294967296^(n - 1)≤Y:=aa
 have hY2:Y<(y+1)*4294967296^(n - 1):=by rw[Nat.add_mul,Nat.one_mul];omega
 have ZO:y<2^sz y:=fo.1 (Nat.le_refl _)
 have Zu:2^(sz y - 1)≤y:=by
  refine Classical.byContradiction fun h=> ?_
  have:=fo.2 (show y<2^(sz y - 1) by omega)
  omega
 have p1:2^sz y*2^s=4294967296:=by rw[←Nat.pow_add,show sz y+s=32 from by omega]
 have p2:2^(sz y - 1)*2^s=2147483648:=by rw[←Nat.pow_add,show sz y - 1+s=31 from by omega]
 have hs0:0<2^s:=Nat.two_pow_pos s
 have hQ:4294967296^n=4294967296^(n - 1)*4294967296:=by rw[←Nat.pow_succ];congr 1
 rw[hQ,←hV]
 generalize 4294967296^(n - 1)=Q at*
 generalize 2^s=T at*
 constructor
 ·have h3:Y*T<(y+1)*Q*T:=Nat.mul_lt_mul_of_pos_right hY2 hs0
  have h4:(y+1)*Q*T≤2^sz y*Q*T:=Nat.mul_le_mul_right _ (Nat.mul_le_mul_right _ ZO)
  rw[show 2^sz y*Q*T=Q*(2^sz y*T)from by rw[Nat.mul_comm (2^sz y) Q,Nat.mul_assoc],p1]at h4
  omega
 ·have h3:2^(sz y - 1)*Q*T≤Y*T:=Nat.mul_le_mul_right _ (Nat.le_trans (Nat.mul_le_mul_right _ Zu) hY1)
  rw[show 2^(sz y - 1)*Q*T=(2^(sz y - 1)*T)*Q from by rw[Nat.mul_assoc,Nat.mul_comm Q T,Nat.mul_assoc],p2]at h3
  exact h3
theorem EX {k n:Nat} (h2:2≤n):4294967296^(k+(n - 2))=4294967296^(n - 2)*4294967296^k∧4294967296^(k+(n - 1))=4294967296^(n - 2)*4294967296^k*4294967296∧4294967296^(k+n)=4294967296^(n - 2)*4294967296^k*4294967296*4294967296∧
  4294967296^(n - 1)=4294967296^(n - 2)*4294967296∧4294967296^n=4294967296^(n - 2)*4294967296*4294967296∧4294967296^(k+n+1)=4294967296^(n - 2)*4294967296^k*4294967296*4294967296*4294967296:=by
 have e0:4294967296^(k+(n - 2))=4294967296^(n - 2)*4294967296^k:=by rw[Nat.pow_add,Nat.mul_comm]
 refine⟨e0, ?_, ?_, ?_, ?_, ?_⟩
 ·rw[←e0,←Nat.pow_succ];congr 1;omega
 ·rw[←e0,←Nat.pow_succ,←Nat.pow_succ];congr 1;omega
 ·rw[←Nat.pow_succ];congr 1;omega
 ·rw[←Nat.pow_succ,←Nat.pow_succ];congr 1;omega
 ·rw[←e0,←Nat.pow_succ,←Nat.pow_succ,←Nat.pow_succ];congr 1;omega
theorem EY {X V s l n:Nat} (hX:X<4294967296^l) (hs:s<32) (hV:2147483648*4294967296^(n - 1)≤V) (h2:2≤n) (Zv:n≤l):X*2^s<V*4294967296^(l+1 - n):=by
 have h3:2^s≤2147483648:=Nat.le_trans (Nat.pow_le_pow_right aI (show s≤31 by omega)) aI
 have e:4294967296^l=4294967296^(n - 1)*4294967296^(l+1 - n):=by rw[←Nat.pow_add];congr 1;omega
 have h4:2147483648*4294967296^(n - 1)*4294967296^(l+1 - n)≤V*4294967296^(l+1 - n):=Nat.mul_le_mul_right _ hV
 rw[Nat.mul_assoc,←e,Nat.mul_comm]at h4
 have h5:X*2^s<4294967296^l*2147483648:=Nat.lt_of_lt_of_le (Nat.mul_lt_mul_of_pos_right hX (Nat.two_pow_pos s)) (Nat.mul_le_mul_left _ h3)
 omega
theorem EZ {R V P S k n l:Nat} (h2:2≤n) (hk:k+n<l+1) (hP:4294967296^(n - 2)=P) (hS:4294967296^k=S) (hVn:V<4294967296^n) (hVg:2147483648*4294967296^(n - 1)≤V) (hR:R<V*(S*4294967296)):
  R<4294967296^(k+n+1)∧V*4294967296^k≤4294967296^(k+n+1)∧4294967296*P≤V∧(2147483648≤V/P/4294967296∧V/P/4294967296<4294967296)∧R/(P*S)/4294967296<18446744073709551616∧
  (bJ R (l+1)).getD (k+n) 0=((R/(P*S)/4294967296/4294967296:Nat):Int)∧(bJ R (l+1)).getD (k+(n - 1)) 0=((R/(P*S)/4294967296 % 4294967296:Nat):Int)∧(bJ R (l+1)).getD (k+(n - 2)) 0=((R/(P*S) % 4294967296:Nat):Int)∧
  (bJ V (n+1)).getD (n - 1) 0=((V/P/4294967296:Nat):Int)∧(bJ V (n+1)).getD (n - 2) 0=((V/P % 4294967296:Nat):Int):=by
 obtain⟨q1,q2,q3,q4,q5,q6⟩:=EX (k:=k) h2
 rw[hP]at q1 q2 q3 q4 q5 q6
 rw[hS]at q1 q2 q3 q6
 have hP0:0<P:=by rw[←hP];exact Nat.pow_pos aI
 have hS0:0<S:=by rw[←hS];exact Nat.pow_pos aI
 have hPS:0<P*S:=Nat.mul_pos hP0 hS0
 rw[q5]at hVn
 rw[q4]at hVg
 have c1:V*(S*4294967296)≤P*S*4294967296*4294967296*4294967296:=by
  refine Nat.le_trans (Nat.mul_le_mul_right _ (Nat.le_of_lt hVn)) (Nat.le_of_eq ?_)
  grind
 have Ym:R<P*S*4294967296*4294967296*4294967296:=Nat.lt_of_lt_of_le hR c1
 have c2:V*S≤P*S*4294967296*4294967296*4294967296:=Nat.le_trans (Nat.mul_le_mul_left _ aa) c1
 have d1:V/P/4294967296=V/(P*4294967296):=Nat.div_div_eq_div_mul _ _ _
 have abV:V/P/4294967296<4294967296:=by
  rw[d1];exact Nat.div_lt_of_lt_mul hVn
 have adV:2147483648≤V/P/4294967296:=by
  rw[d1];exact(Nat.le_div_iff_mul_le aa).2 hVg
 have d2:R/(P*S)/4294967296/4294967296=R/(P*S*4294967296*4294967296):=by rw[Nat.div_div_eq_div_mul,Nat.div_div_eq_div_mul,Nat.mul_assoc (P*S)]
 have d3:R/(P*S)/4294967296=R/(P*S*4294967296):=Nat.div_div_eq_div_mul _ _ _
 have tlt:R/(P*S)/4294967296/4294967296<4294967296:=by
  rw[d2];exact Nat.div_lt_of_lt_mul Ym
 refine⟨by rw[q6];exact Ym,by rw[q6,hS];exact c2,aa,⟨adV,abV⟩,aa, ?_, ?_, ?_, ?_, ?_⟩
 ·rw[jq aa,q3,←d2,Nat.mod_eq_of_lt tlt]
 ·rw[jq aa,q2,←d3]
 ·rw[jq aa,q1]
 ·rw[jq aa,q4,←d1,Nat.mod_eq_of_lt abV]
 ·rw[jq aa,hP]
variable {M:Nat}
theorem Gl (a b:Rat):decide (a.den - 1=b.den - 1)=decide (a.den=b.den):=decide_eq_decide.2 (by have:=a.den_pos;have:=b.den_pos;omega)
theorem vV {x y:Int} {k M:Nat} (hx:sz x.natAbs≤k) (hy:sz y.natAbs≤k) (h:k+1≤M):sz (x+y).natAbs≤M:=
 Nat.le_trans (Nat.le_trans (fK (Int.natAbs_add_le x y)) (xi hx hy)) h
theorem xF {a b:Rat} (h:a.den=b.den):mkRat (a.num+b.num) a.den=a+b:=by
 rw[Rat.add_def',←h,←Int.add_mul,Rat.mkRat_mul_right a.den_nz]
theorem J6 (ok:mR M) (a b:Rat) (h:q8 a+q8 b+1≤M):ab Tryz.prog 80 [.frac a,.frac b] [] (.frac (a+b)) [] []:=by
 have ha:=dZ a;have ha':=dQ a;have hb:=dZ b;have gu:=dQ b
 have hbp:=uu b.den b.den_nz
 have hap:=uu a.den a.den_nz
 have wa:=rZ a
 have wb:=rZ b
 have k1:=EK ok a.num b.num aa aa
 have k2:=xv ok a aa
 have k3:=xv ok b aa
 refine bT [] Tryz.func80 ?_
 intro W0 w0 ρ0 hE
 conv=>whnf
 by_cases hw:a.den=1∧b.den=1
 ·have k5:=Bg (a.num+b.num)
  have e:((a.num+b.num:Int):Rat)=a+b:=by
   rw[nI hw.1,nI hw.2,Rat.intCast_add];rfl
  rw[e]at k5
  rw[decide_eq_true hw.1]at wa
  rw[decide_eq_true hw.2]at wb
  (repeat(first|(refine ag rfl rfl ?_;conv=>whnf)|(refine aS (by assumption) ?_;conv=>whnf)|(refine ah dO ?_;conv=>whnf)));exact au.refl _
 ·by_cases h1:a.den=1
  ·rw[decide_eq_true h1]at wa
   rw[decide_eq_false (show ¬b.den=1 from fun h2=>hw ⟨h1,h2⟩)]at wb
   (repeat((first|refine ag rfl rfl ?_|refine ae rfl rfl ?_|refine aS (by assumption) ?_|refine ah dO ?_);conv=>whnf))
   refine⟨_,fh aJ cy rfl (ak rfl) (ak rfl) rfl rfl rfl rfl (rX (a.den - 1) (b.den - 1)) pC, ?_⟩
   rw[Gl]
   by_cases hd:a.den=b.den
   ·rw[decide_eq_true hd]
    have k4:=mS ok (a.num+b.num) a.den (vV (k:=M - 1) aa aa aa) aa a.den_nz
    rw[xF hd]at k4
    conv=>whnf
    (repeat(first|(refine ag rfl rfl ?_;conv=>whnf)|(refine aq av ?_;conv=>whnf)|(refine aS (by assumption) ?_;conv=>whnf)));exact au.refl _
   ·rw[decide_eq_false hd]
    have p1:=fX a.num.natAbs b.den
    have p2:=fX b.num.natAbs a.den
    have p3:=fX a.den b.den
    have q1:sz (a.num*b.den).natAbs≤M - 1:=by rw[Int.natAbs_mul,Int.natAbs_natCast];omega
    have q2:sz (b.num*a.den).natAbs≤M - 1:=by rw[Int.natAbs_mul,Int.natAbs_natCast];omega
    have r1:=r8 ok a aa
    have r2:=r8 ok b aa
    have r3:=xr ok a.num b.den Zt
    have r4:=xr ok b.num a.den Zt
    have r5:=EK ok (a.num*b.den) (b.num*a.den) aa aa
    have r6:=ok.mul a.den b.den aa
    have r7:=mS ok (a.num*b.den+b.num*a.den) (a.den*b.den) (vV (k:=M - 1) q1 q2 aa) aa (Nat.mul_ne_zero a.den_nz b.den_nz)
    rw[←Rat.add_def']at r7
    conv=>whnf
    (repeat(first|(refine ae rfl rfl ?_;conv=>whnf)|(refine aq av ?_;conv=>whnf)|(refine aS (by assumption) ?_;conv=>whnf)));exact au.refl _
  ·rw[decide_eq_false h1]at wa
   (repeat(first|(refine ae rfl rfl ?_;conv=>whnf)|(refine aS (by assumption) ?_;conv=>whnf)|(refine ah dP ?_;conv=>whnf)))
   refine⟨_,fh aJ cy rfl (ak rfl) (ak rfl) rfl rfl rfl rfl (rX (a.den - 1) (b.den - 1)) pC, ?_⟩
   rw[Gl]
   by_cases hd:a.den=b.den
   ·rw[decide_eq_true hd]
    have k4:=mS ok (a.num+b.num) a.den (vV (k:=M - 1) aa aa aa) aa a.den_nz
    rw[xF hd]at k4
    conv=>whnf
    (repeat(first|(refine ag rfl rfl ?_;conv=>whnf)|(refine aq av ?_;conv=>whnf)|(refine aS (by assumption) ?_;conv=>whnf)));exact au.refl _
   ·rw[decide_eq_false hd]
    have p1:=fX a.num.natAbs b.den
    have p2:=fX b.num.natAbs a.den
    have p3:=fX a.den b.den
    have q1:sz (a.num*b.den).natAbs≤M - 1:=by rw[Int.natAbs_mul,Int.natAbs_natCast];omega
    have q2:sz (b.num*a.den).natAbs≤M - 1:=by rw[Int.natAbs_mul,Int.natAbs_natCast];omega
    have r1:=r8 ok a aa
    have r2:=r8 ok b aa
    have r3:=xr ok a.num b.den Zt
    have r4:=xr ok b.num a.den Zt
    have r5:=EK ok (a.num*b.den) (b.num*a.den) aa aa
    have r6:=ok.mul a.den b.den aa
    have r7:=mS ok (a.num*b.den+b.num*a.den) (a.den*b.den) (vV (k:=M - 1) q1 q2 aa) aa (Nat.mul_ne_zero a.den_nz b.den_nz)
    rw[←Rat.add_def']at r7
    conv=>whnf
    (repeat(first|(refine ae rfl rfl ?_;conv=>whnf)|(refine aq av ?_;conv=>whnf)|(refine aS (by assumption) ?_;conv=>whnf)));exact au.refl _
end Go.Proofs.YtfpagioknjjacaaGreatDoor
