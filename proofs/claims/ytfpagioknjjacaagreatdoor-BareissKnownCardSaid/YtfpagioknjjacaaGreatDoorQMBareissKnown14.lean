/- The texts Pb. -/
import Derived.Test.YtfpagioknjjacaaGreatDoorQMBareissKnown13
import Derived.Test.YtfpagioknjjacaaGreatDoorQMBareissKnown8
namespace Go.Sx
set_option linter.unusedSimpArgs false
set_option linter.unusedVariables false
theorem eM {E:Env} {c:Code} {K:bQ} {fr fr1:List (Nat×SV)} {hp hp1:List (Nat×aC)} (h:∀K':bQ,K' .normal fr1 hp1→ey E c K' fr hp) (hk:K .normal fr1 hp1):ey E c K fr hp:=h K hk
end Go.Sx
namespace Go.Proofs.YtfpagioknjjacaaGreatDoor
open Go.Sx
set_option linter.unusedSimpArgs false
set_option linter.unusedVariables false
set_option maxRecDepth 100000
set_option maxHeartbeats 40000000
theorem EH (x:Int):∀n:Nat,zs (x^n)≤2+n*zs x
 |0=>by rw[Int.pow_zero,On];omega
 |n+1=>by
  have:=na (x^n) x
  have ih:=EH x n
  rw[Int.pow_succ,Nat.succ_mul]
  omega
abbrev OO (x:Int):aC:=⟨50,true,.one [.int x]⟩
theorem Lj (x:Int) (n:Nat) (hn:n≤10) (hx:zs x≤1000000):ab Tryz.prog 170 [.int x,iv n] [] (.int (x^n)) [] []:=by
 have k1:=l7 1 aF aF
 refine bP [2] Tryz.func170 ?_
 intro W0 w0 ρ0 hE
 conv=>whnf
 (repeat(first|(refine aS (by assumption) ?_;conv=>whnf)))
 refine ai hE (fun k=>k) [1,2,4,5,6] [4,5] (fun m fr hp=>∃i:Nat,m=n - i∧i≤n∧fr=[(1,iv n),(2,bG [.int x]),(4,.ptr 4 0 0 0),(5,.ptr 5 0 0 0),(6,iv i)]∧hp=[(4,OO 0),(5,OO (x^i))]) n ?_ ?_ ?_
 ·kernel_rfl
 ·exact⟨0,rfl,Nat.zero_le _,rfl,by rw[Int.pow_zero];rfl⟩
 rintro m _ _ ⟨i,rfl,hi,rfl,rfl⟩
 conv=>whnf
 by_cases aA:i<n
 ·have t1:=dX aA
  have t2:=bA (i:=i) aa
  have k2:=nb (x^i) x (by have:=EH x i;have h2:i*zs x≤10*1000000:=Nat.mul_le_mul aa hx;omega)
  rw[←Int.pow_succ]at k2
  (repeat((first|refine aS (by assumption) ?_|refine aE t1 ?_|refine ak Q6 ?_|rw[t1]|rw[t2]);conv=>whnf))
  exact⟨n - (i+1),fun k=>k,[1,2,4,5,6],[4,5],aa,aB,i+1,rfl,aA,rfl,rfl⟩
 ·have t1:=ez aA
  obtain rfl:i=n:=aa
  (repeat(first|(refine aM t1 ?_;conv=>whnf)));exact Q5
theorem OP {r:Nat} {a:List Int} (ha:a.length=r*r):stM r r 0 a=a:=by
 show eP (r - 0) (r - 0) _=a
 rw[Nat.sub_zero]
 exact oS ha fun i k _ _=>wV _ _ _
theorem EI (r s:Nat) (X:List Int):(stM r r s X).length=(r - s)*(r - s):=cZ ..
theorem Ga {r s i k:Nat} {X:List Int} (hi:i<r - s) (hk:k<r - s):(stM r r s X).getD (i*(r - s)+k) 0=jL s (bl X r) i k:=cB hi hk
theorem Zh {r:Nat} {X:List Int} (ha:gu r r X) (za:Zm 65 X) (hr:r≤5) (Dl:1≤r):ab Tryz.prog 172 [wA r r X,iv r] [] (.val (.bool true)) [] []:=by
 have k1:=l7 1 aF aF
 have hX:=ha.n
 have zst:∀s i k,s+i<r→s+k<r→zs (jL s (bl X r) i k)≤300000:=fun s i k hi hk=>
  iQ aa aF fun x y hx hy=>bX za hX ZJ ZJ
 have zdt:∀s,s≤r→zs (bo s (bl X r))≤300000:=fun s hs=>iQ aa aF fun x y hx hy=>bX za hX aa aa
 refine bP [2,100007,100009,100016,100017] Tryz.func172 ?_
 intro W0 w0 ρ0 hE
 conv=>whnf
 (repeat(first|(refine aS (by assumption) ?_;conv=>whnf)|(refine ak Q6 ?_;conv=>whnf)))
 refine ai hE (fun k=>k) [1,2,5,6,7] [5,6] (fun m fr hp=>∃s:Nat,m=r - s∧s<r∧fr=[(1,iv r),(2,bG (wC r r X)),(5,.ptr 5 0 0 0),(6,.ptr 6 0 0 0),(7,iv s)]∧
  hp=[(5,OO (bo s (bl X r))),(6,⟨207,true,.one (wC (r - s:Nat) (r - s:Nat) (stM r r s X))⟩)]) r ?_ ?_ ?_
 ·kernel_rfl
 ·exact⟨0,rfl,Dl,rfl,by rw[OP hX];rfl⟩
 rintro m _ _ ⟨s,rfl,hs,rfl,rfl⟩
 conv=>whnf
 have t1:IntKind.i64.wrap ((s:Int)+1)=((s+1:Nat):Int):=by rw[wrap_i64 aa aa];omega
 by_cases aA:s+1<r
 ·have t2:=decide_eq_true (show((s+1:Nat):Int)<(r:Int) by omega)
  have k2:=oU (s:=s+1) ha za aF aa (by have:4^(s+1+1)≤4^5:=Nat.pow_le_pow_right aF aa;omega) aa aa
  have lx:=EI r s X
  have ly:=EI r (s+1) X
  have h0:=Ga (X:=X) (r:=r) (s:=s) (i:=0) (k:=0) aa aa
  rw[Nat.zero_mul,Nat.add_zero,iI]at h0
  have w1:IntKind.i64.wrap ((r:Int) - (s:Int))=((r - s:Nat):Int):=by rw[wrap_i64 aa aa];omega
  have w2:IntKind.i64.wrap (((r - s:Nat):Int) - 1)=((r - (s+1):Nat):Int):=by rw[wrap_i64 aa aa];omega
  have w3:IntKind.i64.wrap (((r - (s+1):Nat):Int)*((r - (s+1):Nat):Int))=(((r - (s+1))*(r - (s+1)):Nat):Int):=by
   have:(r - (s+1))*(r - (s+1))≤5*5:=Nat.mul_le_mul aa aa
   rw[←Int.natCast_mul,wrap_i64 aa aa]
  have w4:IntKind.i64.wrap (((r - s:Nat):Int)*((r - s:Nat):Int))=(((r - s)*(r - s):Nat):Int):=by
   have:(r - s)*(r - s)≤5*5:=Nat.mul_le_mul aa aa
   rw[←Int.natCast_mul,wrap_i64 aa aa]
  have nv:0<(stM r r s X).length:=by rw[lx];exact Nat.mul_pos aa aa
  have H7:∀i k,i<r - s→k<r - s→(stM r r s X).getD (i*(r - s)+k) 0=jL s (bl X r) i k:=fun i k hi hk=>Ga hi hk
  have acP:∀i k,i<r - (s+1)→k<r - (s+1)→(stM r r (s+1) X).getD (i*(r - (s+1))+k) 0=jL (s+1) (bl X r) i k:=fun i k hi hk=>Ga hi hk
  have mD:∀i k,bo (s+1) (bl X r)*jL s (bl X r) (i+1) (k+1) - jL s (bl X r) (i+1) 0*jL s (bl X r) 0 (k+1)=bo s (bl X r)*jL (s+1) (bl X r) i k:=fun i k=>by rw[←iI];exact Ct s _ i k
  have hR:r - s=r - (s+1)+1:=aa
  have hR5:r - (s+1)<5:=aa
  generalize stM r r s X=xs at*
  generalize hys:stM r r (s+1) X=ys at*
  generalize hnn:r - (s+1)=n at*
  generalize r - s=N at*
  have hrr:r=s+1+n:=aa
  subst hR
  have z1:∀i k,i<n+1→k<n+1→zs (jL s (bl X r) i k)≤300000:=fun i k hi hk=>zst s i k aa aa
  have z2:∀i k,i<n→k<n→zs (jL (s+1) (bl X r) i k)≤300000:=fun i k hi hk=>zst (s+1) i k aa aa
  have z3:=zdt s aa
  have z4:=zdt (s+1) aa
  clear zst zdt
  generalize bo s (bl X r)=D0 at*
  generalize I7:bo (s+1) (bl X r)=D1 at*
  generalize jL s (bl X r)=B0 at*
  generalize jL (s+1) (bl X r)=B1 at*
  (repeat((first|refine aS (by assumption) ?_|refine aE t2 ?_|refine ak Q6 ?_|rw[t1]|rw[t2]);conv=>whnf))
  refine eM (fr1:= ?fr1) (hp1:= ?hp1) (fun K hK=>dC hE ?ra1) ?rb1
  case ra1=>
   conv=>whnf
   (repeat((first|refine ag rfl rfl ?_|refine ak jo ?_|rw[bne_self_eq_false]|refine ak cO ?_|rw[w1]|rw[w2]|rw[w3]|rw[w4]|rw[lx]|rw[ly]|rw[Nat.zero_add]);conv=>whnf))
   exact hK
  conv=>whnf
  (repeat(first|(refine af rfl rfl ?_;conv=>whnf)))
  refine eM (fr1:= ?fr2) (hp1:= ?hp2) (fun K hK=>dC hE ?ra2) ?rb2
  case ra2=>
   conv=>whnf
   (repeat((first|refine ak Q6 ?_|refine ak nA ?_|rw[h0]|rw[Nat.zero_add]);conv=>whnf))
   exact hK
  conv=>whnf
  skip
  refine ai hE (fun k=>k) [1,2,5,6,7,8,10,11] [5,6,8,10] (fun m' fr hp=>∃i:Nat,m'=n - i∧i≤n∧fr=[(1,iv r),(2,bG (wC r r X)),(5,.ptr 5 0 0 0),(6,.ptr 6 0 0 0),(7,iv s),(8,.ptr 8 0 0 0),(10,.ptr 10 0 0 0),(11,iv i)]∧
   hp=[(5,OO D0),(6,⟨207,true,.one (wC (n+1:Nat) (n+1:Nat) xs)⟩),(8,⟨207,true,.one (wC n n ys)⟩),(10,OO D1)]) n ?_ ?_ ?_
  ·kernel_rfl
  ·exact⟨0,rfl,Nat.zero_le _,rfl,rfl⟩
  rintro m' _ _ ⟨i,rfl,hi,rfl,rfl⟩
  conv=>whnf
  by_cases qe:i<n
  ·have t3:=dX qe
   have t4:=bA (i:=i) aa
   (repeat(first|(refine aE t3 ?_;conv=>whnf)|(rw[t3];conv=>whnf)|(rw[Nat.zero_add];conv=>whnf)))
   refine ai hE (fun k=>k) [1,2,5,6,7,8,10,11,12] [5,6,8,10] (fun m' fr hp=>∃k:Nat,m'=n - k∧k≤n∧fr=[(1,iv r),(2,bG (wC r r X)),(5,.ptr 5 0 0 0),(6,.ptr 6 0 0 0),(7,iv s),(8,.ptr 8 0 0 0),(10,.ptr 10 0 0 0),(11,iv i),(12,iv k)]∧
    hp=[(5,OO D0),(6,⟨207,true,.one (wC (n+1:Nat) (n+1:Nat) xs)⟩),(8,⟨207,true,.one (wC n n ys)⟩),(10,OO D1)]) n ?_ ?_ ?_
   ·kernel_rfl
   ·exact⟨0,rfl,Nat.zero_le _,rfl,rfl⟩
   rintro m'' _ _ ⟨k,rfl,hk,rfl,rfl⟩
   conv=>whnf
   by_cases Dh:k<n
   ·have t5:=dX Dh
    have t6:=bA (i:=k) aa
    have e1:=H7 (i+1) (k+1) aa aa
    have e2:=H7 (i+1) 0 aa aa
    have e3:=H7 0 (k+1) aa aa
    have e4:=acP i k qe Dh
    rw[Nat.add_zero]at e2
    rw[Nat.zero_mul,Nat.zero_add]at e3
    rw[←Nat.add_assoc]at e1
    have m1:(i+1)*(n+1)≤5*6:=Nat.mul_le_mul aa aa
    have m2:i*n≤5*5:=Nat.mul_le_mul aa aa
    have b1:(i+1)*(n+1)+k+1<xs.length:=by rw[lx];have:=dN (r:=n+1) (c:=n+1) (i:=i+1) (k:=k+1) aa aa;omega
    have b2:(i+1)*(n+1)<xs.length:=aa
    have b3:k+1<xs.length:=by rw[lx];have:=dN (r:=n+1) (c:=n+1) (i:=0) (k:=k+1) aa aa;omega
    have b4:i*n+k<ys.length:=by rw[ly];exact dN qe Dh
    have v1:IntKind.i64.wrap (((i+1:Nat):Int)*((n+1:Nat):Int))=(((i+1)*(n+1):Nat):Int):=by rw[←Int.natCast_mul,wrap_i64 aa aa]
    have v2:IntKind.i64.wrap ((((i+1)*(n+1):Nat):Int)+(k:Int))=(((i+1)*(n+1)+k:Nat):Int):=by rw[wrap_i64 aa aa];omega
    have v3:IntKind.i64.wrap ((((i+1)*(n+1)+k:Nat):Int)+1)=(((i+1)*(n+1)+k+1:Nat):Int):=by rw[wrap_i64 aa aa];omega
    have v4:IntKind.i64.wrap ((i:Int)*(n:Int))=((i*n:Nat):Int):=by rw[←Int.natCast_mul,wrap_i64 aa aa]
    have v5:IntKind.i64.wrap (((i*n:Nat):Int)+(k:Int))=((i*n+k:Nat):Int):=by rw[wrap_i64 aa aa];omega
    have acQ:n - (k+1)<n - k∧k+1≤n:=⟨aa,Dh⟩
    have q1:=z1 (i+1) (k+1) aa aa
    have q2:=z1 (i+1) 0 aa aa
    have q3:=z1 0 (k+1) aa aa
    have q4:=z2 i k qe Dh
    have w5:(!decide (D1*B0 (i+1) (k+1) - B0 (i+1) 0*B0 0 (k+1)=D0*B1 i k))=false:=by rw[mD];simp
    generalize (i+1)*(n+1)=P1 at*
    generalize i*n=P2 at*
    generalize B0 (i+1) (k+1)=x1 at*
    generalize B0 (i+1) 0=x2 at*
    generalize B0 0 (k+1)=x3 at*
    generalize B1 i k=x4 at*
    have c1:=nb D1 x1 aa
    have c2:=nb x2 x3 aa
    have c3:=KK (D1*x1) (x2*x3) (by have:=na D1 x1;have:=na x2 x3;omega)
    have c4:=nb D0 x4 aa
    clear H7 acP mD z1 z2 z3 z4 q1 q2 q3 q4 k1 k2 m1 m2 lx ly w1 w2 w3 w4 t1 t2 t3 nv h0 hX ha za hrr hnn hR5 hr Dl hs aA hi hk qe Dh
    (repeat(first|(refine aE t5 ?_;conv=>whnf)|(rw[t5];conv=>whnf)|(rw[Nat.zero_add];conv=>whnf)))
    refine eM (fr1:= ?fr3) (hp1:= ?hp3) (fun K hK=>dC hE ?ra3) ?rb3
    case ra3=>
     conv=>whnf
     (repeat((first|refine aw aB ?_|refine aS (by assumption) ?_|refine ak Q6 ?_|refine ak Nk ?_|rw[t4]|rw[t6]|rw[v1]|rw[v2]|rw[v3]|rw[e1]|rw[e2]|rw[e3]|rw[Int.toNat_natCast]|rw[Nat.zero_add]);conv=>whnf))
     exact hK
    conv=>whnf
    skip
    refine eM (fr1:= ?fr4) (hp1:= ?hp4) (fun K hK=>dC hE ?ra4) ?rb4
    case ra4=>
     conv=>whnf
     (repeat((first|refine aw aB ?_|refine aS (by assumption) ?_|refine ak Q6 ?_|refine ak Nk ?_|refine⟨_,dK aL df rfl (aj rfl) (aj rfl) rfl rfl rfl rfl (fN _ _) et, ?_⟩|rw[v4]|rw[v5]|rw[e4]|rw[w5]|rw[Int.toNat_natCast]|rw[Nat.zero_add]);conv=>whnf))
     exact hK
    conv=>whnf
    (repeat(first|(refine af rfl rfl ?_;conv=>whnf)|(rw[t6];conv=>whnf)))
    exact⟨n - (k+1),fun k=>k,[1,2,5,6,7,8,10,11,12],[5,6,8,10],acQ.1,aB,k+1,rfl,acQ.2,rfl,rfl⟩
   ·have t5:=ez Dh
    (repeat((first|refine aM t5 ?_|rw[t4]|rw[t5]|rw[Nat.zero_add]);conv=>whnf))
    exact⟨n - (i+1),fun k=>k,[1,2,5,6,7,8,10,11],[5,6,8,10],aa,aB,i+1,rfl,qe,rfl,rfl⟩
  ·have t3:=ez qe
   (repeat((first|refine aM t3 ?_|rw[t1]|rw[t3]|rw[Nat.zero_add]);conv=>whnf))
   exact⟨r - (s+1),fun k=>k,[1,2,5,6,7],[5,6],aa,aB,s+1,rfl,aA,rfl,by rw[I7,hys,hnn];rfl⟩
 ·have t2:=decide_eq_false (show ¬((s+1:Nat):Int)<(r:Int) by omega)
  (repeat(first|(refine aM t2 ?_;conv=>whnf)|(rw[t1];conv=>whnf)));exact Q5
end Go.Proofs.YtfpagioknjjacaaGreatDoor
