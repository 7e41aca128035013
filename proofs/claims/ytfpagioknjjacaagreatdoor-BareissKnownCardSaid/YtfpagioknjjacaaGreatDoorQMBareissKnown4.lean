/- The texts Ej. -/
import Derived.Test.YtfpagioknjjacaaGreatDoorQMBareissKnown3
namespace Go.Proofs.YtfpagioknjjacaaGreatDoor
open Go.Sx
set_option linter.unusedSimpArgs false
set_option linter.unusedVariables false
set_option maxRecDepth 100000
set_option maxHeartbeats 80000000
theorem bh.Yo {fk:List (Nat×aC)} {m p:Nat} {b c:aC} {σ:Nat→Nat} (h:yx fk=true) (hn:∀q∈ax fk,σ m≠σ q∧σ p≠σ q) (hmp:σ m≠σ p):bh fk [(m,b),(p,c)] σ:=
 ⟨(fun q q' b b' hq _ _ hw=>by rw[mP h q b hq]at hw;cases hw),(fun x y h1 h2 b6=>by
  have h1:x=m∨x=p:=by simpa [ax]using h1
  have h2:y=m∨y=p:=by simpa [ax]using h2
  rcases h1 with rfl|rfl<;>rcases h2 with rfl|rfl
  ·exact absurd rfl b6
  ·exact hmp
  ·exact hmp.symm
  ·exact absurd rfl b6),(fun x q h1 h2=>by
  have h1:x=m∨x=p:=by simpa [ax]using h1
  rcases h1 with rfl|rfl
  ·exact(hn q h2).1
  ·exact(hn q h2).2)⟩
theorem NA {hp:List (Nat×aC)} {k l:Nat} {b c:aC} (h:find hp k=none) (h':find hp l=none):∀j d,(j,d)∈[(k,b),(l,c)]→find hp j=none:=fun j d hm=>by
 simp only[List.mem_cons,List.not_mem_nil,or_false,Prod.mk.injEq]at hm
 rcases hm with⟨rfl,rfl⟩|⟨rfl,rfl⟩<;>assumption
theorem qU {R Qv V S d U:Nat} (h1:d*(V*S)≤R) (h2:R<(d+1)*(V*S)) (hU:U=Qv*V+R):R - d*(V*S)<V*S∧U=(Qv+d*S)*V+(R - d*(V*S)):=by
 rw[Nat.add_mul,Nat.one_mul]at h2
 refine⟨aa, ?_⟩
 rw[Nat.add_mul,show d*S*V=d*(V*S)from by rw[Nat.mul_assoc,Nat.mul_comm S V]]
 omega
theorem mT {v m L:Nat} (hv:v<4294967296^m) (hm:m≤L):az (bL v L) m=v:=by
 rw[←eE (xs:=bL v L) (k:=m) (n:=L) (fun i h1 _=>qT hv h1) hm,gG,Nat.mod_eq_of_lt (Nat.lt_of_lt_of_le hv (Nat.pow_le_pow_right aF hm))]
theorem JE {X Y V Qv R s:Nat} (hV:Y*2^s=V) (h:X*2^s=Qv*V+R) (hR:R<V):X/Y=Qv∧R/2^s=X % Y:=by
 have hs:0<2^s:=Nat.two_pow_pos s
 have hY:0<Y:=by
  rcases Nat.eq_zero_or_pos Y with rfl|h'
  ·rw[Nat.zero_mul]at hV;omega
  ·exact h'
 have h1:X*2^s/(Y*2^s)=Qv:=by
  rw[h,hV,Nat.add_comm,Nat.add_mul_div_right _ _ aa,Nat.div_eq_of_lt hR,Nat.zero_add]
 have h2:X*2^s % (Y*2^s)=R:=by
  rw[h,hV,Nat.add_comm,Nat.add_mul_mod_self_right,Nat.mod_eq_of_lt hR]
 rw[Nat.mul_div_mul_right _ _ hs]at h1
 rw[Nat.mul_mod_mul_right]at h2
 exact⟨h1,by rw[←h2,Nat.mul_div_cancel _ hs]⟩
theorem Fu {a b:Nat} (ha:a<4294967296) (hb:b<4294967296):Di .u64 (jC .u64 (a:Int) 32) (b:Int)=((a*4294967296+b:Nat):Int):=by
 have e1:jC .u64 (a:Int) 32=((a*4294967296:Nat):Int):=by
  show IntKind.u64.wrap ((a:Int)*4294967296)=_
  rw[show(a:Int)*4294967296=((a*4294967296:Nat):Int)from aa,ep aa]
 rw[e1,uM aa aa,Nat.mul_comm,←Nat.two_pow_add_eq_or_of_lt (i:=32) (b:=b) aa a]
theorem Yp (xs ys:List Int) (l n X Y:Nat) (hl:l≤xs.length) (hn:n≤ys.length) (MH:xs.length<549755813888) (H4:ys.length<549755813888) (hx:fK xs) (hy:fK ys) (hX:az xs l=X) (hY:az ys n=Y)
  (h2:2≤n) (wB:ys.getD (n - 1) 0≠0) (ZP:n≤l) (K1 K2 Q1 Q2:Nat) (hk1:Q1≠K1∧Q2≠K1) (hk2:Q1≠K2∧Q2≠K2) (hq:Q1≠Q2):
  ab Tryz.prog 336 [.aN K1 1 0 l,.aN K2 1 0 n] [(K1,⟨23,false,.ints .u32 xs⟩),(K2,⟨23,false,.ints .u32 ys⟩)] (.ct [.aN Q1 1 0 (l+1 - n),.aN Q2 1 0 (l+1)])
   [(Q1,⟨23,true,.ints .u32 (bL (X/Y) (l+1 - n))⟩),(Q2,⟨23,true,.ints .u32 (bL (X % Y) (l+1))⟩)] []:=by
 obtain⟨y,hyt⟩:=Int.eq_ofNat_of_zero_le (hy (n - 1)).1
 have ZN:=(hy (n - 1)).2
 have kz:=Yg y aa
 have ir:1≤sz y∧sz y≤32:=by
  refine⟨?_,eW.2 (show y<2^32 by have:(2:Nat)^32=4294967296:=rfl;omega)⟩
  refine Classical.byContradiction fun h=> ?_
  have h3:=eW.1 (show sz y≤0 by omega)
  rw[Nat.pow_zero]at h3
  exact wB (by rw[hyt];omega)
 obtain⟨s,hs⟩:∃s,32 - sz y=s:=⟨_,rfl⟩
 rw[hs]at kz
 have Yq:s<32:=aa
 have ku:=yD xs l hl aa hx s Yq 0 2001 aF false X hX
 have kv:=yD ys n hn aa hy s Yq 1 2002 aF false Y hY
 obtain⟨V,hVd⟩:∃V,Y*2^s=V:=⟨_,rfl⟩
 rw[hVd]at kv
 have hXl:X<4294967296^l:=by have:=gq hx l;rw[hX,←cS]at this;omega
 have e0:Hid (IntKind.i64.wrap ((n:Int) - 1)=((n - 1:Nat):Int)):=show IntKind.i64.wrap ((n:Int) - 1)=((n - 1:Nat):Int)from by rw[wrap_i64 aa aa];omega
 have e1:Hid (0+((n - 1:Nat):Int).toNat=n - 1):=show 0+((n - 1:Nat):Int).toNat=n - 1 from aa
 have Yr:∀q∈ax [(0,(⟨23,false,.ints .u32 xs⟩:aC)),(1,⟨23,false,.ints .u32 ys⟩)],cx [(0,K1),(1,K2),(39,Q1),(2001,Q2)] 39≠cx [(0,K1),(1,K2),(39,Q1),(2001,Q2)] q∧cx [(0,K1),(1,K2),(39,Q1),(2001,Q2)] 2001≠cx [(0,K1),(1,K2),(39,Q1),(2001,Q2)] q:=fun q hq=>by
  have hq:q=0∨q=1:=by simpa [ax]using hq
  rcases hq with rfl|rfl
  ·exact hk1
  ·exact hk2
 refine fq (Z:=[]) aL bJ Tryz.func336 rfl aB (args:=[.aN 0 1 0 l,.aN 1 1 0 n]) (fk:=[(0,⟨23,false,.ints .u32 xs⟩),(1,⟨23,false,.ints .u32 ys⟩)])
  (c:=.ct [.aN 39 1 0 (l+1 - n),.aN 2001 1 0 (l+1)]) (new:=[(39,⟨23,true,.ints .u32 (bL (X/Y) (l+1 - n))⟩),(2001,⟨23,true,.ints .u32 (bL (X % Y) (l+1))⟩)]) (upd:=[]) (cu.of rfl rfl rfl rfl rfl rfl rfl rfl rfl rfl rfl) rfl (cx [(0,K1),(1,K2),(39,Q1),(2001,Q2)]) (bh.Yo rfl Yr hq) ?_
 intro W0 w0 ρ0 hE
 conv=>whnf
 have e3:Hid (((n:Int) - 0).toNat=n):=show((n:Int) - 0).toNat=n from aa
 have e4:Hid (IntKind.i64.wrap (((l+1:Nat):Int) - (n:Int))=((l+1 - n:Nat):Int)):=show IntKind.i64.wrap (((l+1:Nat):Int) - (n:Int))=((l+1 - n:Nat):Int)from by rw[wrap_i64 aa aa];omega
 have e5:Hid (0+Int.toNat 0=0):=show 0+Int.toNat 0=0 from rfl
 have e6:Hid (IntKind.i64.wrap (((l+1 - n:Nat):Int) - 1)=((l+1 - n:Nat):Int) - 1):=show IntKind.i64.wrap (((l+1 - n:Nat):Int) - 1)=((l+1 - n:Nat):Int) - 1 from wrap_i64 aa aa
 (repeat((first|refine aw aB ?_|refine aX Q3 ?_|refine ay Q3 ?_|refine aS (by assumption) ?_|refine E9 (by assumption) rfl rfl ?_|rw[e0.out]|rw[e1.out]|rw[hyt]|rw[e3.out]|rw[e5.out]|rw[e4.out]);conv=>whnf))
 have e7:Hid (IntKind.i64.wrap ((((l+1 - n:Nat):Int).toNat:Int) - 1)=((l+1 - n:Nat):Int) - 1):=show IntKind.i64.wrap ((((l+1 - n:Nat):Int).toNat:Int) - 1)=((l+1 - n:Nat):Int) - 1 from wrap_i64 aa aa
 rw[e7.out]
 obtain⟨hVn,hVg⟩:=G1 hy h2 hyt hY hs hVd ir.1 ir.2
 have RF:az (bL V (n+1)) n=V:=mT hVn aa
 have Nz:fK (bL V (n+1)):=gg _ _
 have afQ:(bL V (n+1)).length=n+1:=cY _ _
 refine ai hE (fun k=>k) [4,6,7,8,9,10] [0,1,39,2001,2002] (fun j fr hp=>∃(R Qv:Nat) (q:List Int),j≤l+1 - n∧R<V*4294967296^j∧X*2^s=Qv*V+R∧q.length=l+1 - n∧fK q∧(∀i,i<j→q.getD i 0=0)∧az q (l+1 - n)=Qv∧
  fr=[(4,.aN 39 1 0 (l+1 - n)),(6,.val (.int .i64 s)),(7,.aN 2001 1 0 (l+1)),(8,.aN 2002 1 0 n),(9,.val (.int .i64 n)),(10,.val (.int .i64 ((j:Int) - 1)))]∧hp=[(0,⟨23,false,.ints .u32 xs⟩),(1,⟨23,false,.ints .u32 ys⟩),(39,⟨23,true,.ints .u32 q⟩),(2001,⟨23,true,.ints .u32 (bL R (l+1))⟩),(2002,⟨23,true,.ints .u32 (bL V (n+1))⟩)]) (l+1 - n) ?_ ?_ ?_
 ·kernel_rfl
 ·exact⟨X*2^s,0,List.replicate (l+1 - n) 0,Nat.le_refl _,D8 hXl Yq hVg h2 ZP,aa,by simp,(fun i=>by rw[bz];decide),(fun i _=>bz),by rw[eE (k:=0) (fun i _ _=>bz) aa];simp[az],rfl,rfl⟩
 rintro j _ _ ⟨R,Qv,q,hj,hR,hXR,Ny,hqw,hq0,Ys,rfl,rfl⟩
 by_cases h0:j=0
 ·subst h0
  have t1:Hid (decide (((0:Nat):Int) - 1≥0)=false):=show decide (((0:Nat):Int) - 1≥0)=false from rfl
  conv=>whnf
  (repeat(first|(refine af rfl rfl ?_;conv=>whnf)|(rw[t1.out];conv=>whnf)))
  have hRV:R<V:=by simpa using hR
  obtain⟨hdq,hdr⟩:=JE hVd hXR hRV
  have hRl:R<4294967296^(l+1):=Nat.lt_of_lt_of_le (Nat.lt_trans hRV hVn) (Nat.pow_le_pow_right aF aa)
  have hqd:q=bL (X/Y) (l+1 - n):=nW Ny hqw (by rw[Ys,hdq])
  refine ai hE (fun k=>k) [4,7,167,168] [0,1,39,2001] (fun m fr hp=>∃(i:Nat),m=s - i∧i≤s∧
   fr=[(4,.aN 39 1 0 (l+1 - n)),(7,.aN 2001 1 0 (l+1)),(167,.val (.int .i64 s)),(168,.val (.int .i64 i))]∧hp=[(0,⟨23,false,.ints .u32 xs⟩),(1,⟨23,false,.ints .u32 ys⟩),(39,⟨23,true,.ints .u32 q⟩),(2001,⟨23,true,.ints .u32 (bL (R/2^i) (l+1))⟩)]) s ?_ ?_ ?_
  ·kernel_rfl
  ·exact⟨0,aa,aa,rfl,by rw[Nat.pow_zero,Nat.div_one];rfl⟩
  rintro m _ _ ⟨i,rfl,hi,rfl,rfl⟩
  by_cases aA:i<s
  ·have t2:Hid (decide ((i:Int)<(s:Int))=true):=show decide ((i:Int)<(s:Int))=true from decide_eq_true aa
   have f4:Hid (IntKind.i64.wrap ((i:Int)+1)=((i+1:Nat):Int)):=show IntKind.i64.wrap ((i:Int)+1)=((i+1:Nat):Int)from by rw[wrap_i64 aa aa];omega
   have kh:=Yl (bL (R/2^i) (l+1)) (by rw[cY];omega) (gg _ _) 2001 (R/2^i) (by rw[cY,gG,Nat.mod_eq_of_lt (Nat.lt_of_le_of_lt (Nat.div_le_self _ _) hRl)])
   rw[cY,Nat.div_div_eq_div_mul,←Nat.pow_succ]at kh
   conv=>whnf
   (repeat(first|(refine ag rfl rfl ?_;conv=>whnf)|(refine I8 (by assumption) rfl rfl ?_;conv=>whnf)|(rw[t2.out];conv=>whnf)))
   rw[f4.out]
   exact⟨s - (i+1),fun k=>k,[4,7,167,168],[0,1,39,2001],aa,aB,i+1,rfl,aa,rfl,rfl⟩
  ·have jU:i=s:=aa
   subst jU
   have t2:Hid (decide ((i:Int)<(i:Int))=false):=show decide ((i:Int)<(i:Int))=false from decide_eq_false aa
   rw[hqd,hdr]
   conv=>whnf
   (repeat(first|(refine af rfl rfl ?_;conv=>whnf)|(rw[t2.out];conv=>whnf)))
   exact⟨aq.refl _,fW rfl rfl,(fun _ _ h=>by cases h)⟩
 obtain⟨k,rfl⟩:∃k,j=k+1:=⟨j - 1,aa⟩
 have t1:Hid (decide (((k+1:Nat):Int) - 1≥0)=true):=show decide (((k+1:Nat):Int) - 1≥0)=true from decide_eq_true aa
 have hP:0<4294967296^(n - 2):=Nat.pow_pos aF
 have hS:0<4294967296^k:=Nat.pow_pos aF
 have QJ:(bL R (l+1)).length=l+1:=cY _ _
 obtain⟨P,hPd⟩:∃P,4294967296^(n - 2)=P:=⟨_,rfl⟩
 obtain⟨S,hSd⟩:∃S,4294967296^k=S:=⟨_,rfl⟩
 rw[hPd]at hP
 rw[hSd]at hS
 have jw:R<V*(S*4294967296):=by rw[←hSd,←Nat.pow_succ];exact hR
 obtain⟨t,ht⟩:∃t,R/(P*S)/4294967296=t:=⟨_,rfl⟩
 obtain⟨u0,hu0⟩:∃u0,R/(P*S) % 4294967296=u0:=⟨_,rfl⟩
 obtain⟨v1,hv1⟩:∃v1,V/P/4294967296=v1:=⟨_,rfl⟩
 obtain⟨v2,hv2⟩:∃v2,V/P % 4294967296=v2:=⟨_,rfl⟩
 obtain⟨Yn,hVSB,hVW,hv1a,hta,g1',g2',g3',g4',g5'⟩:=D9 (l:=l) h2 aa hPd hSd hVn hVg jw
 have aex:V/P % 4294967296<4294967296:=Nat.mod_lt _ aF
 have ab6:R/(P*S) % 4294967296<4294967296:=Nat.mod_lt _ aF
 rw[hv1]at hv1a g4'
 rw[ht]at hta g1' g2'
 rw[hu0]at g3' ab6
 rw[hv2]at g5' aex
 have g1:Hid ((bL R (l+1)).getD (k+n) 0=((t/4294967296:Nat):Int)):=show(bL R (l+1)).getD (k+n) 0=((t/4294967296:Nat):Int)from g1'
 have g2:Hid ((bL R (l+1)).getD (k+(n - 1)) 0=((t % 4294967296:Nat):Int)):=show(bL R (l+1)).getD (k+(n - 1)) 0=((t % 4294967296:Nat):Int)from g2'
 have g3:Hid ((bL R (l+1)).getD (k+(n - 2)) 0=(u0:Int)):=show(bL R (l+1)).getD (k+(n - 2)) 0=(u0:Int)from g3'
 have g4:Hid ((bL V (n+1)).getD (n - 1) 0=(v1:Int)):=show(bL V (n+1)).getD (n - 1) 0=(v1:Int)from g4'
 have g5:Hid ((bL V (n+1)).getD (n - 2) 0=(v2:Int)):=show(bL V (n+1)).getD (n - 2) 0=(v2:Int)from g5'
 clear g1' g2' g3' g4' g5'
 have i1:Hid (((k+1:Nat):Int) - 1=(k:Int)):=show((k+1:Nat):Int) - 1=(k:Int)from aa
 have i2:Hid (IntKind.i64.wrap ((k:Int)+(n:Int))=((k+n:Nat):Int)):=show IntKind.i64.wrap ((k:Int)+(n:Int))=((k+n:Nat):Int)from by rw[wrap_i64 aa aa];omega
 have i3:Hid (0+((k+n:Nat):Int).toNat=k+n):=show 0+((k+n:Nat):Int).toNat=k+n from aa
 have i4:Hid (IntKind.i64.wrap (((k+n:Nat):Int) - 1)=((k+(n - 1):Nat):Int)):=show IntKind.i64.wrap (((k+n:Nat):Int) - 1)=((k+(n - 1):Nat):Int)from by rw[wrap_i64 aa aa];omega
 have i5:Hid (0+((k+(n - 1):Nat):Int).toNat=k+(n - 1)):=show 0+((k+(n - 1):Nat):Int).toNat=k+(n - 1)from aa
 have i6:Hid (IntKind.u64.wrap ((t/4294967296:Nat):Int)=((t/4294967296:Nat):Int)):=show IntKind.u64.wrap ((t/4294967296:Nat):Int)=((t/4294967296:Nat):Int)from ep aa
 have i7:Hid (IntKind.u64.wrap ((t % 4294967296:Nat):Int)=((t % 4294967296:Nat):Int)):=show IntKind.u64.wrap ((t % 4294967296:Nat):Int)=((t % 4294967296:Nat):Int)from ep aa
 have i8:Hid (Di .u64 (jC .u64 ((t/4294967296:Nat):Int) 32) ((t % 4294967296:Nat):Int)=(t:Int)):=show Di .u64 (jC .u64 ((t/4294967296:Nat):Int) 32) ((t % 4294967296:Nat):Int)=(t:Int)from by rw[Fu aa aa];congr 1;omega
 have i9:Hid (IntKind.u64.wrap (v1:Int)=(v1:Int)):=show IntKind.u64.wrap (v1:Int)=(v1:Int)from ep aa
 have i10:Hid (((v1:Int) != 0)=true):=show((v1:Int) != 0)=true from by simp;omega
 have i11:Hid ((t:Int).tdiv (v1:Int)=((t/v1:Nat):Int)):=show(t:Int).tdiv (v1:Int)=((t/v1:Nat):Int)from rfl
 have i12:Hid ((t:Int).tmod (v1:Int)=((t % v1:Nat):Int)):=show(t:Int).tmod (v1:Int)=((t % v1:Nat):Int)from rfl
 have hq1:t/v1≤t:=Nat.div_le_self _ _
 have hq2:t % v1<v1:=Nat.mod_lt _ aa
 have i13:Hid (IntKind.u64.wrap ((t/v1:Nat):Int)=((t/v1:Nat):Int)):=show IntKind.u64.wrap ((t/v1:Nat):Int)=((t/v1:Nat):Int)from ep aa
 have i14:Hid (IntKind.u64.wrap ((t % v1:Nat):Int)=((t % v1:Nat):Int)):=show IntKind.u64.wrap ((t % v1:Nat):Int)=((t % v1:Nat):Int)from ep aa
 conv=>whnf
 (repeat((first|refine ag rfl rfl ?_|refine aw aB ?_|refine aX Q3 ?_|refine gr Q3 ?_|refine ay Q3 ?_|refine bN Q3 ?_|rw[t1.out]|rw[i1.out]|rw[i2.out]|rw[i3.out]|rw[i4.out]|rw[i5.out]|rw[g1.out]|rw[g2.out]|rw[i6.out]|rw[i7.out]|rw[i8.out]|rw[e0.out]|rw[e1.out]|rw[g4.out]|rw[i9.out]|rw[i11.out]|rw[i12.out]|rw[i13.out]);conv=>whnf))
 have aez:R<(t/v1+1)*V*S:=D6 (W:=4294967296) hP hS aF (by rw[hv1];exact Nat.lt_of_lt_of_le aF hv1a.1) (by rw[ht,hv1])
 have hdm:t/v1*v1+t % v1=t:=by rw[Nat.mul_comm];exact Nat.div_add_mod t v1
 refine ai hE (fun k=>k) [4,6,7,8,9,10,12,13] [0,1,39,2001,2002] (fun d fr hp=>∃(r:Nat),d<18446744073709551616∧d*v1+r=t∧r<8589934592∧R<(d+1)*V*S∧
  fr=[(4,.aN 39 1 0 (l+1 - n)),(6,.val (.int .i64 s)),(7,.aN 2001 1 0 (l+1)),(8,.aN 2002 1 0 n),(9,.val (.int .i64 n)),(10,.val (.int .i64 k)),(12,.val (.int .u64 d)),(13,.val (.int .u64 r))]∧hp=[(0,⟨23,false,.ints .u32 xs⟩),(1,⟨23,false,.ints .u32 ys⟩),(39,⟨23,true,.ints .u32 q⟩),(2001,⟨23,true,.ints .u32 (bL R (l+1))⟩),(2002,⟨23,true,.ints .u32 (bL V (n+1))⟩)]) (t/v1) ?_ ?_ ?_
 ·kernel_rfl
 ·exact⟨t % v1,aa,hdm,aa,aez,rfl,rfl⟩
 rintro d _ _ ⟨r,hd64,hdr,hr33,Bo,rfl,rfl⟩
 by_cases hrW:r<4294967296
 ·have t2:Hid (decide ((r:Int)≤4294967295)=true):=show decide ((r:Int)≤4294967295)=true from decide_eq_true aa
  have j1:Hid (IntKind.u64.wrap ((v2:Nat):Int)=(v2:Int)):=show IntKind.u64.wrap ((v2:Nat):Int)=(v2:Int)from ep aa
  have j2:Hid (IntKind.i64.wrap ((n:Int) - 2)=((n - 2:Nat):Int)):=show IntKind.i64.wrap ((n:Int) - 2)=((n - 2:Nat):Int)from by rw[wrap_i64 aa aa];omega
  have j3:Hid (0+((n - 2:Nat):Int).toNat=n - 2):=show 0+((n - 2:Nat):Int).toNat=n - 2 from aa
  have j4:Hid (IntKind.i64.wrap (((k+n:Nat):Int) - 2)=((k+(n - 2):Nat):Int)):=show IntKind.i64.wrap (((k+n:Nat):Int) - 2)=((k+(n - 2):Nat):Int)from by rw[wrap_i64 aa aa];omega
  have j5:Hid (0+((k+(n - 2):Nat):Int).toNat=k+(n - 2)):=show 0+((k+(n - 2):Nat):Int).toNat=k+(n - 2)from aa
  have j6:Hid (IntKind.u64.wrap ((u0:Nat):Int)=(u0:Int)):=show IntKind.u64.wrap ((u0:Nat):Int)=(u0:Int)from ep aa
  have j9:Hid (IntKind.u64.wrap ((r:Int)+(v1:Int))=((r+v1:Nat):Int)):=show IntKind.u64.wrap ((r:Int)+(v1:Int))=((r+v1:Nat):Int)from by rw[←Int.natCast_add,ep aa]
  have xV:R<d*V*S→0<d∧d - 1<18446744073709551616∧(d - 1)*v1+(r+v1)=t∧r+v1<8589934592∧R<(d - 1+1)*V*S∧IntKind.u64.wrap ((d:Int) - 1)=((d - 1:Nat):Int):=fun h=>by
   have x7:0<d:=by
    rcases Nat.eq_zero_or_pos d with rfl|h'
    ·rw[Nat.zero_mul,Nat.zero_mul]at h;exact absurd h (Nat.not_lt_zero _)
    ·exact h'
   have hd1:d - 1+1=d:=Nat.succ_pred_eq_of_pos x7
   have hm:d*v1=(d - 1)*v1+v1:=by
    have:=Nat.succ_mul (d - 1) v1
    rw[Nat.succ_eq_add_one,hd1]at this;exact this
   refine⟨x7,aa,aa,aa,by rw[hd1];exact h, ?_⟩
   rw[show(d:Int) - 1=((d - 1:Nat):Int)from aa,ep aa]
  by_cases Yt:d<4294967296
  ·have t3:Hid (decide ((d:Int)≤4294967295)=true):=show decide ((d:Int)≤4294967295)=true from decide_eq_true aa
   have QA:d*v2≤4294967295*4294967295:=Nat.mul_le_mul aa aa
   have j7:Hid (IntKind.u64.wrap ((d:Int)*(v2:Int))=((d*v2:Nat):Int)):=show IntKind.u64.wrap ((d:Int)*(v2:Int))=((d*v2:Nat):Int)from by rw[←Int.natCast_mul,ep aa]
   have j8:Hid (Di .u64 (jC .u64 (r:Int) 32) (u0:Int)=((r*4294967296+u0:Nat):Int)):=show Di .u64 (jC .u64 (r:Int) 32) (u0:Int)=((r*4294967296+u0:Nat):Int)from Fu hrW ab6
   by_cases hg:d*v2≤r*4294967296+u0
   ·have t4:Hid (decide (((d*v2:Nat):Int)≤((r*4294967296+u0:Nat):Int))=true):=show decide (((d*v2:Nat):Int)≤((r*4294967296+u0:Nat):Int))=true from decide_eq_true aa
    have Bp:d*V*S≤R+V*S:=GZ (W:=4294967296) hP hS aF Yt (by rw[ht,hv1];exact hdr) (by rw[hu0,hv2];exact hg) hVW
    conv=>whnf
    (repeat((first|refine ag rfl rfl ?_|refine aw aB ?_|refine aX Q3 ?_|refine gr Q3 ?_|refine ay Q3 ?_|refine ak jJ ?_|rw[t2.out]|rw[t3.out]|rw[j2.out]|rw[j3.out]|rw[g5.out]|rw[j1.out]|rw[i2.out]|rw[j4.out]|rw[j5.out]|rw[g3.out]|rw[j6.out]|rw[j7.out]|rw[j8.out]|rw[t4.out]);conv=>whnf))
    have l1:Hid (IntKind.i64.wrap (((k+n:Nat):Int)+1)=((k+n+1:Nat):Int)):=show IntKind.i64.wrap (((k+n:Nat):Int)+1)=((k+n+1:Nat):Int)from by rw[wrap_i64 aa aa];omega
    have l2:Hid (0+(k:Int).toNat=k):=show 0+(k:Int).toNat=k from aa
    have l3:Hid ((((k+n+1:Nat):Int) - (k:Int)).toNat=n+1):=show(((k+n+1:Nat):Int) - (k:Int)).toNat=n+1 from aa
    have l4:Hid (IntKind.u32.wrap (d:Int)=(d:Int)):=show IntKind.u32.wrap (d:Int)=(d:Int)from nz Yt
    have l5:Hid (IntKind.i64.wrap ((k:Int) - 1)=(k:Int) - 1):=show IntKind.i64.wrap ((k:Int) - 1)=(k:Int) - 1 from wrap_i64 aa aa
    have kl:=JA (l+1) k n R d V (bL V (n+1)) aa aa Yn aa aa Nz RF Yt 2001 2002 aF
    rw[hSd]at kl
    obtain⟨B,hB⟩:∃B,4294967296^(k+n+1)=B:=⟨_,rfl⟩
    have hDB:V*S≤B:=by rw[←hB,←hSd];exact hVSB
    have Ea:R<B:=by rw[←hB];exact Yn
    rw[hB]at kl
    have JF:=hq0 k (Nat.lt_succ_self k)
    by_cases hneg:R<d*V*S
    ·have t5:Hid (decide (R<d*V*S)=true):=show decide (R<d*V*S)=true from decide_eq_true hneg
     rw[Nat.mul_assoc]at hneg Bp
     obtain⟨m1,m2,m3,x7⟩:=Cj hneg Bp Ea hDB
     rw[←Nat.mul_assoc]at m1
     have Yu:(R+B - d*V*S) % B<4294967296^(k+n+1):=by rw[hB];exact Nat.mod_lt _ (Nat.lt_of_le_of_lt (Nat.zero_le _) Ea)
     obtain⟨R1,hR1d⟩:∃R1,(R+B - d*V*S) % B=R1:=⟨_,rfl⟩
     rw[hR1d]at kl m1 Yu
     have Yv:(bL R1 (l+1)).length=l+1:=cY _ _
     have wI:=gg R1 (l+1)
     have JB:=mT (L:=l+1) Yu aa
     have Yw:∀j,k+n+1≤j→(bL R1 (l+1)).getD j 0=0:=fun j hj=>qT Yu hj
     have l6:Hid (IntKind.u64.wrap ((d:Int) - 1)=((d - 1:Nat):Int)):=show IntKind.u64.wrap ((d:Int) - 1)=((d - 1:Nat):Int)from by rw[show(d:Int) - 1=((d - 1:Nat):Int)from aa,ep aa]
     (repeat((first|refine ag rfl rfl ?_|refine ay Q3 ?_|refine⟨[_,_],_,[],[_,_],(by assumption),fW rfl rfl,ar,uN (List.mem_cons_self ..) rfl rfl rfl (List.mem_cons_of_mem _ (List.mem_cons_self ..)) rfl rfl rfl, ?_⟩|rw[l1.out]|rw[l2.out]|rw[l3.out]|rw[t5.out]);conv=>whnf))
     rw[l6.out]
     generalize hus:bL R1 (l+1)=us at*
     refine ai hE (fun k=>k) [4,6,7,8,9,10,12,14,128,129,130] [0,1,39,2001,2002] (fun m fr hp=>∃(i:Nat) (o:List Int) (c:Nat),m=n - i∧i≤n∧o.length=l+1∧fK o∧c≤1∧(∀j,k+i≤j→o.getD j 0=us.getD j 0)∧az o (k+i)+c*4294967296^(k+i)=az us (k+i)+az (bL V (n+1)) i*4294967296^k∧
      fr=[(4,.aN 39 1 0 (l+1 - n)),(6,.val (.int .i64 s)),(7,.aN 2001 1 0 (l+1)),(8,.aN 2002 1 0 n),(9,.val (.int .i64 n)),(10,.val (.int .i64 k)),(12,.val (.int .u64 (d - 1:Nat))),(14,.val (.int .u32 c)),(128,.aN 2002 1 0 n),(129,.val (.int .i64 n)),(130,.val (.int .i64 i))]∧hp=[(0,⟨23,false,.ints .u32 xs⟩),(1,⟨23,false,.ints .u32 ys⟩),(39,⟨23,true,.ints .u32 q⟩),(2001,⟨23,true,.ints .u32 o⟩),(2002,⟨23,true,.ints .u32 (bL V (n+1))⟩)]) n ?_ ?_ ?_
     ·kernel_rfl
     ·exact⟨0,us,0,aa,aa,Yv,wI,aa,(fun _ _=>rfl),by simp[az],rfl,rfl⟩
     rintro m _ _ ⟨i,o,c,rfl,hi,hlen,hw,hc,cv,b7,rfl,rfl⟩
     obtain⟨x,hx⟩:=Int.eq_ofNat_of_zero_le (wI (k+i)).1
     have Mp:=(wI (k+i)).2
     have QI:Hid (o.getD (k+i) 0=(x:Int)):=show o.getD (k+i) 0=(x:Int)from by rw[cv _ (Nat.le_refl _)];exact hx
     by_cases aA:i<n
     ·have t1:Hid (decide ((i:Int)<(n:Int))=true):=show decide ((i:Int)<(n:Int))=true from decide_eq_true aa
      have f1:Hid (0+(i:Int).toNat=i):=show 0+(i:Int).toNat=i from aa
      have f2:Hid (IntKind.i64.wrap ((k:Int)+(i:Int))=((k+i:Nat):Int)):=show IntKind.i64.wrap ((k:Int)+(i:Int))=((k+i:Nat):Int)from by rw[wrap_i64 aa aa];omega
      have f3:Hid (0+((k+i:Nat):Int).toNat=k+i):=show 0+((k+i:Nat):Int).toNat=k+i from aa
      have f4:Hid (IntKind.i64.wrap ((i:Int)+1)=((i+1:Nat):Int)):=show IntKind.i64.wrap ((i:Int)+1)=((i+1:Nat):Int)from by rw[wrap_i64 aa aa];omega
      obtain⟨w,hww⟩:=Int.eq_ofNat_of_zero_le (Nz i).1
      have mz:=(Nz i).2
      have f5:Hid ((bL V (n+1)).getD i 0=(w:Int)):=show(bL V (n+1)).getD i 0=(w:Int)from hww
      have Mu:=ln x w c aa aa hc
      have cJ:=yE aa hx hww b7
      have nx:(x+w+c)/4294967296≤1:=aa
      conv=>whnf
      (repeat((first|refine ag rfl rfl ?_|refine aX Q3 ?_|refine ay Q3 ?_|refine aS (by assumption) ?_|rw[t1.out]|rw[f1.out]|rw[f5.out]|rw[f2.out]|rw[f3.out]|rw[QI.out]);conv=>whnf))
      rw[f4.out]
      exact⟨n - (i+1),fun k=>k,[4,6,7,8,9,10,12,14,128,129,130],[0,1,39,2001,2002],aa,aB,i+1,_,_,rfl,aa,by simpa using hlen,hw.set aa aa,nx,(fun j hj=>by rw[aW,if_neg aa];exact cv j aa),cJ,rfl,rfl⟩
     ·have jU:i=n:=aa
      subst jU
      have t1:Hid (decide ((i:Int)<(i:Int))=false):=show decide ((i:Int)<(i:Int))=false from decide_eq_false aa
      have f6:Hid (IntKind.u32.wrap ((x:Int)+(c:Int))=(((x+c) % 4294967296:Nat):Int)):=show IntKind.u32.wrap ((x:Int)+(c:Int))=(((x+c) % 4294967296:Nat):Int)from by rw[←Int.natCast_add,n0]
      have f7:Hid (IntKind.u32.wrap ((d - 1:Nat):Int)=((d - 1:Nat):Int)):=show IntKind.u32.wrap ((d - 1:Nat):Int)=((d - 1:Nat):Int)from nz aa
      have vx:fK (o.set (k+i) (((x+c) % 4294967296:Nat):Int)):=hw.set aa aa
      have ie:=Ch aa hx hc aa JB RF b7 vx
      rw[hSd,hB,m1]at ie
      have Gv:=wH (L:=l+1) (by simpa using hlen) vx (fun j hj=>by rw[aW,if_neg aa,cv j aa];exact Yw j hj) aa ie
      obtain⟨p1,p2⟩:=qU (U:=X*2^s) m2 m3 hXR
      conv=>whnf
      (repeat((first|refine af rfl rfl ?_|refine aX Q3 ?_|refine ay Q3 ?_|rw[t1.out]|rw[i2.out]|rw[i3.out]|rw[QI.out]|rw[f6.out]|rw[f7.out]|rw[l2.out]);conv=>whnf))
      rw[l5.out,Gv]
      exact⟨k,fun k=>k,[4,6,7,8,9,10],[0,1,39,2001,2002],aa,aB,R - (d - 1)*(V*S),Qv+(d - 1)*S,q.set k ((d - 1:Nat):Int),aa,by rw[hSd];exact p1,p2,by simpa using Ny,hqw.set aa aa,(fun j hj=>by rw[aW,if_neg aa];exact hq0 j aa),by rw[lY aa aa,Ys,JF,←cS,hSd,Int.sub_zero,←Int.natCast_mul,←Int.natCast_add],rfl,rfl⟩
    ·have t5:Hid (decide (R<d*V*S)=false):=show decide (R<d*V*S)=false from decide_eq_false hneg
     rw[Nat.mul_assoc]at hneg Bo
     have Ck:=Nat.le_of_not_lt hneg
     have nv:=Ci (d:=d) (D:=V*S) Ck Ea
     rw[←Nat.mul_assoc]at nv
     rw[nv]at kl
     obtain⟨p1,p2⟩:=qU (U:=X*2^s) Ck Bo hXR
     rw[←Nat.mul_assoc]at p1 p2
     (repeat((first|refine af rfl rfl ?_|refine aX Q3 ?_|refine ay Q3 ?_|refine⟨[_,_],_,[],[_,_],(by assumption),fW rfl rfl,ar,uN (List.mem_cons_self ..) rfl rfl rfl (List.mem_cons_of_mem _ (List.mem_cons_self ..)) rfl rfl rfl, ?_⟩|rw[l1.out]|rw[l2.out]|rw[l3.out]|rw[t5.out]|rw[l4.out]);conv=>whnf))
     rw[l5.out]
     exact⟨k,fun k=>k,[4,6,7,8,9,10],[0,1,39,2001,2002],aa,aB,R - d*V*S,Qv+d*S,q.set k (d:Int),aa,by rw[hSd];exact p1,p2,by simpa using Ny,hqw.set aa aa,(fun j hj=>by rw[aW,if_neg aa];exact hq0 j aa),by rw[lY aa aa,Ys,JF,←cS,hSd,Int.sub_zero,←Int.natCast_mul,←Int.natCast_add],rfl,rfl⟩
   ·have t4:Hid (decide (((d*v2:Nat):Int)≤((r*4294967296+u0:Nat):Int))=false):=show decide (((d*v2:Nat):Int)≤((r*4294967296+u0:Nat):Int))=false from decide_eq_false aa
    have DW:R<d*V*S:=JC (W:=4294967296) hP hS aF (by rw[ht,hv1];exact hdr) (by rw[hu0,hv2];omega)
    obtain⟨n1,n2,n3,n4,n5,n6⟩:=xV DW
    conv=>whnf
    (repeat((first|refine ag rfl rfl ?_|refine af rfl rfl ?_|refine aw aB ?_|refine aX Q3 ?_|refine gr Q3 ?_|refine ay Q3 ?_|refine ak jJ ?_|rw[t2.out]|rw[t3.out]|rw[j2.out]|rw[j3.out]|rw[g5.out]|rw[j1.out]|rw[i2.out]|rw[j4.out]|rw[j5.out]|rw[g3.out]|rw[j6.out]|rw[j7.out]|rw[j8.out]|rw[t4.out]|rw[e0.out]|rw[e1.out]|rw[g4.out]|rw[i9.out]);conv=>whnf))
    rw[j9.out,n6]
    exact⟨d - 1,fun k=>k,[4,6,7,8,9,10,12,13],[0,1,39,2001,2002],aa,aB,r+v1,n2,n3,n4,n5,rfl,rfl⟩
  ·have t3:Hid (decide ((d:Int)≤4294967295)=false):=show decide ((d:Int)≤4294967295)=false from decide_eq_false aa
   have DW:R<d*V*S:=by
    have h1:4294967296*(V*S)≤d*(V*S):=Nat.mul_le_mul_right _ aa
    rw[Nat.mul_assoc]
    refine Nat.lt_of_lt_of_le jw (Nat.le_trans (Nat.le_of_eq ?_) h1)
    rw[Nat.mul_comm 4294967296,Nat.mul_assoc]
   obtain⟨n1,n2,n3,n4,n5,n6⟩:=xV DW
   conv=>whnf
   (repeat((first|refine ag rfl rfl ?_|refine af rfl rfl ?_|refine aw aB ?_|refine aX Q3 ?_|refine ay Q3 ?_|refine ak jo ?_|rw[t2.out]|rw[t3.out]|rw[e0.out]|rw[e1.out]|rw[g4.out]|rw[i9.out]);conv=>whnf))
   rw[j9.out,n6]
   exact⟨d - 1,fun k=>k,[4,6,7,8,9,10,12,13],[0,1,39,2001,2002],aa,aB,r+v1,n2,n3,n4,n5,rfl,rfl⟩
 ·have t2:Hid (decide ((r:Int)≤4294967295)=false):=show decide ((r:Int)≤4294967295)=false from decide_eq_false aa
  have Yt:d<4294967296:=D5 (W:=4294967296) hP hS aF (by rw[ht,hv1];exact hdr) aa jw
  have Bp:d*V*S≤R+V*S:=Nat.le_trans (G0 (W:=4294967296) hP hS aF Yt (by rw[ht,hv1];exact hdr) aa) (Nat.le_add_right _ _)
  conv=>whnf
  (repeat(first|(refine af rfl rfl ?_;conv=>whnf)|(rw[t2.out];conv=>whnf)))
  have l1:Hid (IntKind.i64.wrap (((k+n:Nat):Int)+1)=((k+n+1:Nat):Int)):=show IntKind.i64.wrap (((k+n:Nat):Int)+1)=((k+n+1:Nat):Int)from by rw[wrap_i64 aa aa];omega
  have l2:Hid (0+(k:Int).toNat=k):=show 0+(k:Int).toNat=k from aa
  have l3:Hid ((((k+n+1:Nat):Int) - (k:Int)).toNat=n+1):=show(((k+n+1:Nat):Int) - (k:Int)).toNat=n+1 from aa
  have l4:Hid (IntKind.u32.wrap (d:Int)=(d:Int)):=show IntKind.u32.wrap (d:Int)=(d:Int)from nz Yt
  have l5:Hid (IntKind.i64.wrap ((k:Int) - 1)=(k:Int) - 1):=show IntKind.i64.wrap ((k:Int) - 1)=(k:Int) - 1 from wrap_i64 aa aa
  have kl:=JA (l+1) k n R d V (bL V (n+1)) aa aa Yn aa aa Nz RF Yt 2001 2002 aF
  rw[hSd]at kl
  obtain⟨B,hB⟩:∃B,4294967296^(k+n+1)=B:=⟨_,rfl⟩
  have hDB:V*S≤B:=by rw[←hB,←hSd];exact hVSB
  have Ea:R<B:=by rw[←hB];exact Yn
  rw[hB]at kl
  have JF:=hq0 k (Nat.lt_succ_self k)
  by_cases hneg:R<d*V*S
  ·have t5:Hid (decide (R<d*V*S)=true):=show decide (R<d*V*S)=true from decide_eq_true hneg
   rw[Nat.mul_assoc]at hneg Bp
   obtain⟨m1,m2,m3,x7⟩:=Cj hneg Bp Ea hDB
   rw[←Nat.mul_assoc]at m1
   have Yu:(R+B - d*V*S) % B<4294967296^(k+n+1):=by rw[hB];exact Nat.mod_lt _ (Nat.lt_of_le_of_lt (Nat.zero_le _) Ea)
   obtain⟨R1,hR1d⟩:∃R1,(R+B - d*V*S) % B=R1:=⟨_,rfl⟩
   rw[hR1d]at kl m1 Yu
   have Yv:(bL R1 (l+1)).length=l+1:=cY _ _
   have wI:=gg R1 (l+1)
   have JB:=mT (L:=l+1) Yu aa
   have Yw:∀j,k+n+1≤j→(bL R1 (l+1)).getD j 0=0:=fun j hj=>qT Yu hj
   have l6:Hid (IntKind.u64.wrap ((d:Int) - 1)=((d - 1:Nat):Int)):=show IntKind.u64.wrap ((d:Int) - 1)=((d - 1:Nat):Int)from by rw[show(d:Int) - 1=((d - 1:Nat):Int)from aa,ep aa]
   (repeat((first|refine ag rfl rfl ?_|refine ay Q3 ?_|refine⟨[_,_],_,[],[_,_],(by assumption),fW rfl rfl,ar,uN (List.mem_cons_self ..) rfl rfl rfl (List.mem_cons_of_mem _ (List.mem_cons_self ..)) rfl rfl rfl, ?_⟩|rw[i2.out]|rw[l1.out]|rw[l2.out]|rw[l3.out]|rw[t5.out]);conv=>whnf))
   rw[l6.out]
   generalize hus:bL R1 (l+1)=us at*
   refine ai hE (fun k=>k) [4,6,7,8,9,10,12,14,128,129,130] [0,1,39,2001,2002] (fun m fr hp=>∃(i:Nat) (o:List Int) (c:Nat),m=n - i∧i≤n∧o.length=l+1∧fK o∧c≤1∧(∀j,k+i≤j→o.getD j 0=us.getD j 0)∧az o (k+i)+c*4294967296^(k+i)=az us (k+i)+az (bL V (n+1)) i*4294967296^k∧
    fr=[(4,.aN 39 1 0 (l+1 - n)),(6,.val (.int .i64 s)),(7,.aN 2001 1 0 (l+1)),(8,.aN 2002 1 0 n),(9,.val (.int .i64 n)),(10,.val (.int .i64 k)),(12,.val (.int .u64 (d - 1:Nat))),(14,.val (.int .u32 c)),(128,.aN 2002 1 0 n),(129,.val (.int .i64 n)),(130,.val (.int .i64 i))]∧hp=[(0,⟨23,false,.ints .u32 xs⟩),(1,⟨23,false,.ints .u32 ys⟩),(39,⟨23,true,.ints .u32 q⟩),(2001,⟨23,true,.ints .u32 o⟩),(2002,⟨23,true,.ints .u32 (bL V (n+1))⟩)]) n ?_ ?_ ?_
   ·kernel_rfl
   ·exact⟨0,us,0,aa,aa,Yv,wI,aa,(fun _ _=>rfl),by simp[az],rfl,rfl⟩
   rintro m _ _ ⟨i,o,c,rfl,hi,hlen,hw,hc,cv,b7,rfl,rfl⟩
   obtain⟨x,hx⟩:=Int.eq_ofNat_of_zero_le (wI (k+i)).1
   have Mp:=(wI (k+i)).2
   have QI:Hid (o.getD (k+i) 0=(x:Int)):=show o.getD (k+i) 0=(x:Int)from by rw[cv _ (Nat.le_refl _)];exact hx
   by_cases aA:i<n
   ·have t1:Hid (decide ((i:Int)<(n:Int))=true):=show decide ((i:Int)<(n:Int))=true from decide_eq_true aa
    have f1:Hid (0+(i:Int).toNat=i):=show 0+(i:Int).toNat=i from aa
    have f2:Hid (IntKind.i64.wrap ((k:Int)+(i:Int))=((k+i:Nat):Int)):=show IntKind.i64.wrap ((k:Int)+(i:Int))=((k+i:Nat):Int)from by rw[wrap_i64 aa aa];omega
    have f3:Hid (0+((k+i:Nat):Int).toNat=k+i):=show 0+((k+i:Nat):Int).toNat=k+i from aa
    have f4:Hid (IntKind.i64.wrap ((i:Int)+1)=((i+1:Nat):Int)):=show IntKind.i64.wrap ((i:Int)+1)=((i+1:Nat):Int)from by rw[wrap_i64 aa aa];omega
    obtain⟨w,hww⟩:=Int.eq_ofNat_of_zero_le (Nz i).1
    have mz:=(Nz i).2
    have f5:Hid ((bL V (n+1)).getD i 0=(w:Int)):=show(bL V (n+1)).getD i 0=(w:Int)from hww
    have Mu:=ln x w c aa aa hc
    have cJ:=yE aa hx hww b7
    have nx:(x+w+c)/4294967296≤1:=aa
    conv=>whnf
    (repeat((first|refine ag rfl rfl ?_|refine aX Q3 ?_|refine ay Q3 ?_|refine aS (by assumption) ?_|rw[t1.out]|rw[f1.out]|rw[f5.out]|rw[f2.out]|rw[f3.out]|rw[QI.out]);conv=>whnf))
    rw[f4.out]
    exact⟨n - (i+1),fun k=>k,[4,6,7,8,9,10,12,14,128,129,130],[0,1,39,2001,2002],aa,aB,i+1,_,_,rfl,aa,by simpa using hlen,hw.set aa aa,nx,(fun j hj=>by rw[aW,if_neg aa];exact cv j aa),cJ,rfl,rfl⟩
   ·have jU:i=n:=aa
    subst jU
    have t1:Hid (decide ((i:Int)<(i:Int))=false):=show decide ((i:Int)<(i:Int))=false from decide_eq_false aa
    have f6:Hid (IntKind.u32.wrap ((x:Int)+(c:Int))=(((x+c) % 4294967296:Nat):Int)):=show IntKind.u32.wrap ((x:Int)+(c:Int))=(((x+c) % 4294967296:Nat):Int)from by rw[←Int.natCast_add,n0]
    have f7:Hid (IntKind.u32.wrap ((d - 1:Nat):Int)=((d - 1:Nat):Int)):=show IntKind.u32.wrap ((d - 1:Nat):Int)=((d - 1:Nat):Int)from nz aa
    have vx:fK (o.set (k+i) (((x+c) % 4294967296:Nat):Int)):=hw.set aa aa
    have ie:=Ch aa hx hc aa JB RF b7 vx
    rw[hSd,hB,m1]at ie
    have Gv:=wH (L:=l+1) (by simpa using hlen) vx (fun j hj=>by rw[aW,if_neg aa,cv j aa];exact Yw j hj) aa ie
    obtain⟨p1,p2⟩:=qU (U:=X*2^s) m2 m3 hXR
    conv=>whnf
    (repeat((first|refine af rfl rfl ?_|refine aX Q3 ?_|refine ay Q3 ?_|rw[t1.out]|rw[i2.out]|rw[i3.out]|rw[QI.out]|rw[f6.out]|rw[f7.out]|rw[l2.out]);conv=>whnf))
    rw[l5.out,Gv]
    exact⟨k,fun k=>k,[4,6,7,8,9,10],[0,1,39,2001,2002],aa,aB,R - (d - 1)*(V*S),Qv+(d - 1)*S,q.set k ((d - 1:Nat):Int),aa,by rw[hSd];exact p1,p2,by simpa using Ny,hqw.set aa aa,(fun j hj=>by rw[aW,if_neg aa];exact hq0 j aa),by rw[lY aa aa,Ys,JF,←cS,hSd,Int.sub_zero,←Int.natCast_mul,←Int.natCast_add],rfl,rfl⟩
  ·have t5:Hid (decide (R<d*V*S)=false):=show decide (R<d*V*S)=false from decide_eq_false hneg
   rw[Nat.mul_assoc]at hneg Bo
   have Ck:=Nat.le_of_not_lt hneg
   have nv:=Ci (d:=d) (D:=V*S) Ck Ea
   rw[←Nat.mul_assoc]at nv
   rw[nv]at kl
   obtain⟨p1,p2⟩:=qU (U:=X*2^s) Ck Bo hXR
   rw[←Nat.mul_assoc]at p1 p2
   (repeat((first|refine af rfl rfl ?_|refine aX Q3 ?_|refine ay Q3 ?_|refine⟨[_,_],_,[],[_,_],(by assumption),fW rfl rfl,ar,uN (List.mem_cons_self ..) rfl rfl rfl (List.mem_cons_of_mem _ (List.mem_cons_self ..)) rfl rfl rfl, ?_⟩|rw[i2.out]|rw[l1.out]|rw[l2.out]|rw[l3.out]|rw[t5.out]|rw[l4.out]);conv=>whnf))
   rw[l5.out]
   exact⟨k,fun k=>k,[4,6,7,8,9,10],[0,1,39,2001,2002],aa,aB,R - d*V*S,Qv+d*S,q.set k (d:Int),aa,by rw[hSd];exact p1,p2,by simpa using Ny,hqw.set aa aa,(fun j hj=>by rw[aW,if_neg aa];exact hq0 j aa),by rw[lY aa aa,Ys,JF,←cS,hSd,Int.sub_zero,←Int.natCast_mul,←Int.natCast_add],rfl,rfl⟩
end Go.Proofs.YtfpagioknjjacaaGreatDoor
