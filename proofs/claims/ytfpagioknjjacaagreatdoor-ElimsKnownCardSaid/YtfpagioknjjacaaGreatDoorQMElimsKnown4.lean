/- The texts Ej. -/
import Derived.Test.YtfpagioknjjacaaGreatDoorQMElimsKnown3
namespace Go.Proofs.YtfpagioknjjacaaGreatDoor
open Go.Sx
set_option linter.unusedSimpArgs false
set_option linter.unusedVariables false
set_option maxRecDepth 100000
set_option maxHeartbeats 80000000
theorem bo.Yn {fk:List (Nat×aF)} {m p:Nat} {b c:aF} {σ:Nat→Nat} (h:zH fk=true) (hn:∀q∈az fk,σ m≠σ q∧σ p≠σ q) (hmp:σ m≠σ p):bo fk [(m,b),(p,c)] σ:=
 ⟨(fun q q' b b' hq _ _ hw=>by rw[nG h q b hq]at hw;cases hw),(fun x y h1 h2 bW=>by
  have h1:x=m∨x=p:=by simpa [az]using h1
  have h2:y=m∨y=p:=by simpa [az]using h2
  rcases h1 with rfl|rfl<;>rcases h2 with rfl|rfl
  ·exact absurd rfl bW
  ·exact hmp
  ·exact hmp.symm
  ·exact absurd rfl bW),(fun x q h1 h2=>by
  have h1:x=m∨x=p:=by simpa [az]using h1
  rcases h1 with rfl|rfl
  ·exact(hn q h2).1
  ·exact(hn q h2).2)⟩
theorem NQ {hp:List (Nat×aF)} {k l:Nat} {b c:aF} (h:find hp k=none) (h':find hp l=none):∀j d,(j,d)∈[(k,b),(l,c)]→find hp j=none:=fun j d hm=>by
 simp only[List.mem_cons,List.not_mem_nil,or_false,Prod.mk.injEq]at hm
 rcases hm with⟨rfl,rfl⟩|⟨rfl,rfl⟩<;>assumption
theorem se {R Qv V S d U:Nat} (h1:d*(V*S)≤R) (h2:R<(d+1)*(V*S)) (hU:U=Qv*V+R):R - d*(V*S)<V*S∧U=(Qv+d*S)*V+(R - d*(V*S)):=by
 rw[Nat.add_mul,Nat.one_mul]at h2
 refine⟨aa, ?_⟩
 rw[Nat.add_mul,show d*S*V=d*(V*S)from by rw[Nat.mul_assoc,Nat.mul_comm S V]]
 omega
theorem nJ {v m L:Nat} (hv:v<4294967296^m) (hm:m≤L):aB (bJ v L) m=v:=by
 rw[←eD (xs:=bJ v L) (k:=m) (n:=L) (fun i h1 _=>sc hv h1) hm,gM,Nat.mod_eq_of_lt (Nat.lt_of_lt_of_le hv (Nat.pow_le_pow_right aI hm))]
theorem J7 {X Y V Qv R s:Nat} (hV:Y*2^s=V) (h:X*2^s=Qv*V+R) (hR:R<V):X/Y=Qv∧R/2^s=X % Y:=by
 have hs:0<2^s:=Nat.two_pow_pos s
 have hY:0<Y:=by
  rcases Nat.eq_zero_or_pos Y with rfl|h'
  ·rw[Nat.zero_mul]at hV;omega
  ·exact h'
 have h1:X*2^s/(Y*2^s)=Qv:=by
  rw[h,hV,Nat.add_comm,Nat.add_mul_div_right _ _ aa,Nat.div_eq_of_lt hR,Nat.zero_add]
 have h2:X*2^s % (Y*2^s)=R:=by
  rw[h,hV,Nat.add_comm,Nat.add_mul_mod_self_right,Nat.mod_eq_of_lt hR]
 rw[Nat.mul_div_mul_right _ _ hs]at h1
 rw[Nat.mul_mod_mul_right]at h2
 exact⟨h1,by rw[←h2,Nat.mul_div_cancel _ hs]⟩
theorem Gm {a b:Nat} (ha:a<4294967296) (hb:b<4294967296):D7 .u64 (jJ .u64 (a:Int) 32) (b:Int)=((a*4294967296+b:Nat):Int):=by
 have e1:jJ .u64 (a:Int) 32=((a*4294967296:Nat):Int):=by
  show IntKind.u64.wrap ((a:Int)*4294967296)=_
  rw[show(a:Int)*4294967296=((a*4294967296:Nat):Int)from aa,ep aa]
 rw[e1,vQ aa aa,Nat.mul_comm,←Nat.two_pow_add_eq_or_of_lt (i:=32) (b:=b) aa a]
theorem Yo (xs ys:List Int) (l n X Y:Nat) (hl:l≤xs.length) (hn:n≤ys.length) (MZ:xs.length<549755813888) (Hf:ys.length<549755813888) (hx:fL xs) (hy:fL ys) (hX:aB xs l=X) (hY:aB ys n=Y)
  (h2:2≤n) (xy:ys.getD (n - 1) 0≠0) (Zv:n≤l) (K1 K2 Q1 Q2:Nat) (hk1:Q1≠K1∧Q2≠K1) (hk2:Q1≠K2∧Q2≠K2) (hq:Q1≠Q2):
  ab Tryz.prog 336 [.aO K1 1 0 l,.aO K2 1 0 n] [(K1,⟨23,false,.ints .u32 xs⟩),(K2,⟨23,false,.ints .u32 ys⟩)] (.ck [.aO Q1 1 0 (l+1 - n),.aO Q2 1 0 (l+1)])
   [(Q1,⟨23,true,.ints .u32 (bJ (X/Y) (l+1 - n))⟩),(Q2,⟨23,true,.ints .u32 (bJ (X % Y) (l+1))⟩)] []:=by
 obtain⟨y,hyt⟩:=Int.eq_ofNat_of_zero_le (hy (n - 1)).1
 have Zu:=(hy (n - 1)).2
 have kz:=Ye y aa
 have gV:1≤sz y∧sz y≤32:=by
  refine⟨?_,fo.2 (show y<2^32 by have:(2:Nat)^32=4294967296:=rfl;omega)⟩
  refine Classical.byContradiction fun h=> ?_
  have h3:=fo.1 (show sz y≤0 by omega)
  rw[Nat.pow_zero]at h3
  exact xy (by rw[hyt];omega)
 obtain⟨s,hs⟩:∃s,32 - sz y=s:=⟨_,rfl⟩
 rw[hs]at kz
 have Yp:s<32:=aa
 have ku:=zP xs l hl aa hx s Yp 0 2001 aI false X hX
 have kv:=zP ys n hn aa hy s Yp 1 2002 aI false Y hY
 obtain⟨V,hVd⟩:∃V,Y*2^s=V:=⟨_,rfl⟩
 rw[hVd]at kv
 have hXl:X<4294967296^l:=by have:=gy hx l;rw[hX,←cX]at this;omega
 have e0:Hid (IntKind.i64.wrap ((n:Int) - 1)=((n - 1:Nat):Int)):=show IntKind.i64.wrap ((n:Int) - 1)=((n - 1:Nat):Int)from by rw[wrap_i64 aa aa];omega
 have e1:Hid (0+((n - 1:Nat):Int).toNat=n - 1):=show 0+((n - 1:Nat):Int).toNat=n - 1 from aa
 have Yq:∀q∈az [(0,(⟨23,false,.ints .u32 xs⟩:aF)),(1,⟨23,false,.ints .u32 ys⟩)],cE [(0,K1),(1,K2),(39,Q1),(2001,Q2)] 39≠cE [(0,K1),(1,K2),(39,Q1),(2001,Q2)] q∧cE [(0,K1),(1,K2),(39,Q1),(2001,Q2)] 2001≠cE [(0,K1),(1,K2),(39,Q1),(2001,Q2)] q:=fun q hq=>by
  have hq:q=0∨q=1:=by simpa [az]using hq
  rcases hq with rfl|rfl
  ·exact hk1
  ·exact hk2
 refine gh (Z:=[]) aJ bO Tryz.func336 rfl av (args:=[.aO 0 1 0 l,.aO 1 1 0 n]) (fk:=[(0,⟨23,false,.ints .u32 xs⟩),(1,⟨23,false,.ints .u32 ys⟩)])
  (c:=.ck [.aO 39 1 0 (l+1 - n),.aO 2001 1 0 (l+1)]) (new:=[(39,⟨23,true,.ints .u32 (bJ (X/Y) (l+1 - n))⟩),(2001,⟨23,true,.ints .u32 (bJ (X % Y) (l+1))⟩)]) (upd:=[]) (cI.of rfl rfl rfl rfl rfl rfl rfl rfl rfl rfl rfl) rfl (cE [(0,K1),(1,K2),(39,Q1),(2001,Q2)]) (bo.Yn rfl Yq hq) ?_
 intro W0 w0 ρ0 hE
 conv=>whnf
 have e3:Hid (((n:Int) - 0).toNat=n):=show((n:Int) - 0).toNat=n from aa
 have e4:Hid (IntKind.i64.wrap (((l+1:Nat):Int) - (n:Int))=((l+1 - n:Nat):Int)):=show IntKind.i64.wrap (((l+1:Nat):Int) - (n:Int))=((l+1 - n:Nat):Int)from by rw[wrap_i64 aa aa];omega
 have e5:Hid (0+Int.toNat 0=0):=show 0+Int.toNat 0=0 from rfl
 have e6:Hid (IntKind.i64.wrap (((l+1 - n:Nat):Int) - 1)=((l+1 - n:Nat):Int) - 1):=show IntKind.i64.wrap (((l+1 - n:Nat):Int) - 1)=((l+1 - n:Nat):Int) - 1 from wrap_i64 aa aa
 (repeat((first|refine aq av ?_|refine bg Q3 ?_|refine aC Q3 ?_|refine aS (by assumption) ?_|refine F5 (by assumption) rfl rfl ?_|rw[e0.out]|rw[e1.out]|rw[hyt]|rw[e3.out]|rw[e5.out]|rw[e4.out]);conv=>whnf))
 have e7:Hid (IntKind.i64.wrap ((((l+1 - n:Nat):Int).toNat:Int) - 1)=((l+1 - n:Nat):Int) - 1):=show IntKind.i64.wrap ((((l+1 - n:Nat):Int).toNat:Int) - 1)=((l+1 - n:Nat):Int) - 1 from wrap_i64 aa aa
 rw[e7.out]
 obtain⟨hVn,hVg⟩:=HG hy h2 hyt hY hs hVd gV.1 gV.2
 have RF:aB (bJ V (n+1)) n=V:=nJ hVn aa
 have NP:fL (bJ V (n+1)):=gj _ _
 have ae5:(bJ V (n+1)).length=n+1:=c6 _ _
 refine aj hE (fun k=>k) [4,6,7,8,9,10] [0,1,39,2001,2002] (fun j fr hp=>∃(R Qv:Nat) (q:List Int),j≤l+1 - n∧R<V*4294967296^j∧X*2^s=Qv*V+R∧q.length=l+1 - n∧fL q∧(∀i,i<j→q.getD i 0=0)∧aB q (l+1 - n)=Qv∧
  fr=[(4,.aO 39 1 0 (l+1 - n)),(6,.val (.int .i64 s)),(7,.aO 2001 1 0 (l+1)),(8,.aO 2002 1 0 n),(9,.val (.int .i64 n)),(10,.val (.int .i64 ((j:Int) - 1)))]∧hp=[(0,⟨23,false,.ints .u32 xs⟩),(1,⟨23,false,.ints .u32 ys⟩),(39,⟨23,true,.ints .u32 q⟩),(2001,⟨23,true,.ints .u32 (bJ R (l+1))⟩),(2002,⟨23,true,.ints .u32 (bJ V (n+1))⟩)]) (l+1 - n) ?_ ?_ ?_
 ·kernel_rfl
 ·exact⟨X*2^s,0,List.replicate (l+1 - n) 0,Nat.le_refl _,EY hXl Yp hVg h2 Zv,aa,by simp,(fun i=>by rw[bB];decide),(fun i _=>bB),by rw[eD (k:=0) (fun i _ _=>bB) aa];simp[aB],rfl,rfl⟩
 rintro j _ _ ⟨R,Qv,q,hj,hR,hXR,NO,hqw,hq0,Yr,rfl,rfl⟩
 by_cases h0:j=0
 ·subst h0
  have t1:Hid (decide (((0:Nat):Int) - 1≥0)=false):=show decide (((0:Nat):Int) - 1≥0)=false from rfl
  conv=>whnf
  (repeat(first|(refine ae rfl rfl ?_;conv=>whnf)|(rw[t1.out];conv=>whnf)))
  have hRV:R<V:=by simpa using hR
  obtain⟨hdq,hdr⟩:=J7 hVd hXR hRV
  have J8:R<4294967296^(l+1):=Nat.lt_of_lt_of_le (Nat.lt_trans hRV hVn) (Nat.pow_le_pow_right aI aa)
  have hqd:q=bJ (X/Y) (l+1 - n):=oM NO hqw (by rw[Yr,hdq])
  refine aj hE (fun k=>k) [4,7,167,168] [0,1,39,2001] (fun m fr hp=>∃(i:Nat),m=s - i∧i≤s∧
   fr=[(4,.aO 39 1 0 (l+1 - n)),(7,.aO 2001 1 0 (l+1)),(167,.val (.int .i64 s)),(168,.val (.int .i64 i))]∧hp=[(0,⟨23,false,.ints .u32 xs⟩),(1,⟨23,false,.ints .u32 ys⟩),(39,⟨23,true,.ints .u32 q⟩),(2001,⟨23,true,.ints .u32 (bJ (R/2^i) (l+1))⟩)]) s ?_ ?_ ?_
  ·kernel_rfl
  ·exact⟨0,aa,aa,rfl,by rw[Nat.pow_zero,Nat.div_one];rfl⟩
  rintro m _ _ ⟨i,rfl,hi,rfl,rfl⟩
  by_cases aE:i<s
  ·have t2:Hid (decide ((i:Int)<(s:Int))=true):=show decide ((i:Int)<(s:Int))=true from decide_eq_true aa
   have f4:Hid (IntKind.i64.wrap ((i:Int)+1)=((i+1:Nat):Int)):=show IntKind.i64.wrap ((i:Int)+1)=((i+1:Nat):Int)from by rw[wrap_i64 aa aa];omega
   have kh:=Yj (bJ (R/2^i) (l+1)) (by rw[c6];omega) (gj _ _) 2001 (R/2^i) (by rw[c6,gM,Nat.mod_eq_of_lt (Nat.lt_of_le_of_lt (Nat.div_le_self _ _) J8)])
   rw[c6,Nat.div_div_eq_div_mul,←Nat.pow_succ]at kh
   conv=>whnf
   (repeat(first|(refine ag rfl rfl ?_;conv=>whnf)|(refine F6 (by assumption) rfl rfl ?_;conv=>whnf)|(rw[t2.out];conv=>whnf)))
   rw[f4.out]
   exact⟨s - (i+1),fun k=>k,[4,7,167,168],[0,1,39,2001],aa,av,i+1,rfl,aa,rfl,rfl⟩
  ·have jx:i=s:=aa
   subst jx
   have t2:Hid (decide ((i:Int)<(i:Int))=false):=show decide ((i:Int)<(i:Int))=false from decide_eq_false aa
   rw[hqd,hdr]
   conv=>whnf
   (repeat(first|(refine ae rfl rfl ?_;conv=>whnf)|(rw[t2.out];conv=>whnf)))
   exact⟨au.refl _,fY rfl rfl,(fun _ _ h=>by cases h)⟩
 obtain⟨k,rfl⟩:∃k,j=k+1:=⟨j - 1,aa⟩
 have t1:Hid (decide (((k+1:Nat):Int) - 1≥0)=true):=show decide (((k+1:Nat):Int) - 1≥0)=true from decide_eq_true aa
 have hP:0<4294967296^(n - 2):=Nat.pow_pos aI
 have hS:0<4294967296^k:=Nat.pow_pos aI
 have qm:(bJ R (l+1)).length=l+1:=c6 _ _
 obtain⟨P,hPd⟩:∃P,4294967296^(n - 2)=P:=⟨_,rfl⟩
 obtain⟨S,hSd⟩:∃S,4294967296^k=S:=⟨_,rfl⟩
 rw[hPd]at hP
 rw[hSd]at hS
 have jD:R<V*(S*4294967296):=by rw[←hSd,←Nat.pow_succ];exact hR
 obtain⟨t,ht⟩:∃t,R/(P*S)/4294967296=t:=⟨_,rfl⟩
 obtain⟨u0,hu0⟩:∃u0,R/(P*S) % 4294967296=u0:=⟨_,rfl⟩
 obtain⟨v1,hv1⟩:∃v1,V/P/4294967296=v1:=⟨_,rfl⟩
 obtain⟨v2,hv2⟩:∃v2,V/P % 4294967296=v2:=⟨_,rfl⟩
 obtain⟨Ym,hVSB,hVW,hv1a,hta,g1',g2',g3',g4',g5'⟩:=EZ (l:=l) h2 aa hPd hSd hVn hVg jD
 have adW:V/P % 4294967296<4294967296:=Nat.mod_lt _ aI
 have abW:R/(P*S) % 4294967296<4294967296:=Nat.mod_lt _ aI
 rw[hv1]at hv1a g4'
 rw[ht]at hta g1' g2'
 rw[hu0]at g3' abW
 rw[hv2]at g5' adW
 have g1:Hid ((bJ R (l+1)).getD (k+n) 0=((t/4294967296:Nat):Int)):=show(bJ R (l+1)).getD (k+n) 0=((t/4294967296:Nat):Int)from g1'
 have g2:Hid ((bJ R (l+1)).getD (k+(n - 1)) 0=((t % 4294967296:Nat):Int)):=show(bJ R (l+1)).getD (k+(n - 1)) 0=((t % 4294967296:Nat):Int)from g2'
 have g3:Hid ((bJ R (l+1)).getD (k+(n - 2)) 0=(u0:Int)):=show(bJ R (l+1)).getD (k+(n - 2)) 0=(u0:Int)from g3'
 have g4:Hid ((bJ V (n+1)).getD (n - 1) 0=(v1:Int)):=show(bJ V (n+1)).getD (n - 1) 0=(v1:Int)from g4'
 have g5:Hid ((bJ V (n+1)).getD (n - 2) 0=(v2:Int)):=show(bJ V (n+1)).getD (n - 2) 0=(v2:Int)from g5'
 clear g1' g2' g3' g4' g5'
 have i1:Hid (((k+1:Nat):Int) - 1=(k:Int)):=show((k+1:Nat):Int) - 1=(k:Int)from aa
 have i2:Hid (IntKind.i64.wrap ((k:Int)+(n:Int))=((k+n:Nat):Int)):=show IntKind.i64.wrap ((k:Int)+(n:Int))=((k+n:Nat):Int)from by rw[wrap_i64 aa aa];omega
 have i3:Hid (0+((k+n:Nat):Int).toNat=k+n):=show 0+((k+n:Nat):Int).toNat=k+n from aa
 have i4:Hid (IntKind.i64.wrap (((k+n:Nat):Int) - 1)=((k+(n - 1):Nat):Int)):=show IntKind.i64.wrap (((k+n:Nat):Int) - 1)=((k+(n - 1):Nat):Int)from by rw[wrap_i64 aa aa];omega
 have i5:Hid (0+((k+(n - 1):Nat):Int).toNat=k+(n - 1)):=show 0+((k+(n - 1):Nat):Int).toNat=k+(n - 1)from aa
 have i6:Hid (IntKind.u64.wrap ((t/4294967296:Nat):Int)=((t/4294967296:Nat):Int)):=show IntKind.u64.wrap ((t/4294967296:Nat):Int)=((t/4294967296:Nat):Int)from ep aa
 have i7:Hid (IntKind.u64.wrap ((t % 4294967296:Nat):Int)=((t % 4294967296:Nat):Int)):=show IntKind.u64.wrap ((t % 4294967296:Nat):Int)=((t % 4294967296:Nat):Int)from ep aa
 have i8:Hid (D7 .u64 (jJ .u64 ((t/4294967296:Nat):Int) 32) ((t % 4294967296:Nat):Int)=(t:Int)):=show D7 .u64 (jJ .u64 ((t/4294967296:Nat):Int) 32) ((t % 4294967296:Nat):Int)=(t:Int)from by rw[Gm aa aa];congr 1;omega
 have i9:Hid (IntKind.u64.wrap (v1:Int)=(v1:Int)):=show IntKind.u64.wrap (v1:Int)=(v1:Int)from ep aa
 have i10:Hid (((v1:Int) != 0)=true):=show((v1:Int) != 0)=true from by simp;omega
 have i11:Hid ((t:Int).tdiv (v1:Int)=((t/v1:Nat):Int)):=show(t:Int).tdiv (v1:Int)=((t/v1:Nat):Int)from rfl
 have i12:Hid ((t:Int).tmod (v1:Int)=((t % v1:Nat):Int)):=show(t:Int).tmod (v1:Int)=((t % v1:Nat):Int)from rfl
 have hq1:t/v1≤t:=Nat.div_le_self _ _
 have hq2:t % v1<v1:=Nat.mod_lt _ aa
 have i13:Hid (IntKind.u64.wrap ((t/v1:Nat):Int)=((t/v1:Nat):Int)):=show IntKind.u64.wrap ((t/v1:Nat):Int)=((t/v1:Nat):Int)from ep aa
 have i14:Hid (IntKind.u64.wrap ((t % v1:Nat):Int)=((t % v1:Nat):Int)):=show IntKind.u64.wrap ((t % v1:Nat):Int)=((t % v1:Nat):Int)from ep aa
 conv=>whnf
 (repeat((first|refine ag rfl rfl ?_|refine aq av ?_|refine bg Q3 ?_|refine gz Q3 ?_|refine aC Q3 ?_|refine bX Q3 ?_|rw[t1.out]|rw[i1.out]|rw[i2.out]|rw[i3.out]|rw[i4.out]|rw[i5.out]|rw[g1.out]|rw[g2.out]|rw[i6.out]|rw[i7.out]|rw[i8.out]|rw[e0.out]|rw[e1.out]|rw[g4.out]|rw[i9.out]|rw[i11.out]|rw[i12.out]|rw[i13.out]);conv=>whnf))
 have adY:R<(t/v1+1)*V*S:=EW (W:=4294967296) hP hS aI (by rw[hv1];exact Nat.lt_of_lt_of_le aI hv1a.1) (by rw[ht,hv1])
 have hdm:t/v1*v1+t % v1=t:=by rw[Nat.mul_comm];exact Nat.div_add_mod t v1
 refine aj hE (fun k=>k) [4,6,7,8,9,10,12,13] [0,1,39,2001,2002] (fun d fr hp=>∃(r:Nat),d<18446744073709551616∧d*v1+r=t∧r<8589934592∧R<(d+1)*V*S∧
  fr=[(4,.aO 39 1 0 (l+1 - n)),(6,.val (.int .i64 s)),(7,.aO 2001 1 0 (l+1)),(8,.aO 2002 1 0 n),(9,.val (.int .i64 n)),(10,.val (.int .i64 k)),(12,.val (.int .u64 d)),(13,.val (.int .u64 r))]∧hp=[(0,⟨23,false,.ints .u32 xs⟩),(1,⟨23,false,.ints .u32 ys⟩),(39,⟨23,true,.ints .u32 q⟩),(2001,⟨23,true,.ints .u32 (bJ R (l+1))⟩),(2002,⟨23,true,.ints .u32 (bJ V (n+1))⟩)]) (t/v1) ?_ ?_ ?_
 ·kernel_rfl
 ·exact⟨t % v1,aa,hdm,aa,adY,rfl,rfl⟩
 rintro d _ _ ⟨r,hd64,hdr,hr33,Ce,rfl,rfl⟩
 by_cases hrW:r<4294967296
 ·have t2:Hid (decide ((r:Int)≤4294967295)=true):=show decide ((r:Int)≤4294967295)=true from decide_eq_true aa
  have j1:Hid (IntKind.u64.wrap ((v2:Nat):Int)=(v2:Int)):=show IntKind.u64.wrap ((v2:Nat):Int)=(v2:Int)from ep aa
  have j2:Hid (IntKind.i64.wrap ((n:Int) - 2)=((n - 2:Nat):Int)):=show IntKind.i64.wrap ((n:Int) - 2)=((n - 2:Nat):Int)from by rw[wrap_i64 aa aa];omega
  have j3:Hid (0+((n - 2:Nat):Int).toNat=n - 2):=show 0+((n - 2:Nat):Int).toNat=n - 2 from aa
  have j4:Hid (IntKind.i64.wrap (((k+n:Nat):Int) - 2)=((k+(n - 2):Nat):Int)):=show IntKind.i64.wrap (((k+n:Nat):Int) - 2)=((k+(n - 2):Nat):Int)from by rw[wrap_i64 aa aa];omega
  have j5:Hid (0+((k+(n - 2):Nat):Int).toNat=k+(n - 2)):=show 0+((k+(n - 2):Nat):Int).toNat=k+(n - 2)from aa
  have j6:Hid (IntKind.u64.wrap ((u0:Nat):Int)=(u0:Int)):=show IntKind.u64.wrap ((u0:Nat):Int)=(u0:Int)from ep aa
  have j9:Hid (IntKind.u64.wrap ((r:Int)+(v1:Int))=((r+v1:Nat):Int)):=show IntKind.u64.wrap ((r:Int)+(v1:Int))=((r+v1:Nat):Int)from by rw[←Int.natCast_add,ep aa]
  have y5:R<d*V*S→0<d∧d - 1<18446744073709551616∧(d - 1)*v1+(r+v1)=t∧r+v1<8589934592∧R<(d - 1+1)*V*S∧IntKind.u64.wrap ((d:Int) - 1)=((d - 1:Nat):Int):=fun h=>by
   have p8:0<d:=by
    rcases Nat.eq_zero_or_pos d with rfl|h'
    ·rw[Nat.zero_mul,Nat.zero_mul]at h;exact absurd h (Nat.not_lt_zero _)
    ·exact h'
   have Yl:d - 1+1=d:=Nat.succ_pred_eq_of_pos p8
   have hm:d*v1=(d - 1)*v1+v1:=by
    have:=Nat.succ_mul (d - 1) v1
    rw[Nat.succ_eq_add_one,Yl]at this;exact this
   refine⟨p8,aa,aa,aa,by rw[Yl];exact h, ?_⟩
   rw[show(d:Int) - 1=((d - 1:Nat):Int)from aa,ep aa]
  by_cases Ys:d<4294967296
  ·have t3:Hid (decide ((d:Int)≤4294967295)=true):=show decide ((d:Int)≤4294967295)=true from decide_eq_true aa
   have Qq:d*v2≤4294967295*4294967295:=Nat.mul_le_mul aa aa
   have j7:Hid (IntKind.u64.wrap ((d:Int)*(v2:Int))=((d*v2:Nat):Int)):=show IntKind.u64.wrap ((d:Int)*(v2:Int))=((d*v2:Nat):Int)from by rw[←Int.natCast_mul,ep aa]
   have j8:Hid (D7 .u64 (jJ .u64 (r:Int) 32) (u0:Int)=((r*4294967296+u0:Nat):Int)):=show D7 .u64 (jJ .u64 (r:Int) 32) (u0:Int)=((r*4294967296+u0:Nat):Int)from Gm hrW abW
   by_cases hg:d*v2≤r*4294967296+u0
   ·have t4:Hid (decide (((d*v2:Nat):Int)≤((r*4294967296+u0:Nat):Int))=true):=show decide (((d*v2:Nat):Int)≤((r*4294967296+u0:Nat):Int))=true from decide_eq_true aa
    have Cf:d*V*S≤R+V*S:=HE (W:=4294967296) hP hS aI Ys (by rw[ht,hv1];exact hdr) (by rw[hu0,hv2];exact hg) hVW
    conv=>whnf
    (repeat((first|refine ag rfl rfl ?_|refine aq av ?_|refine bg Q3 ?_|refine gz Q3 ?_|refine aC Q3 ?_|refine ah dO ?_|rw[t2.out]|rw[t3.out]|rw[j2.out]|rw[j3.out]|rw[g5.out]|rw[j1.out]|rw[i2.out]|rw[j4.out]|rw[j5.out]|rw[g3.out]|rw[j6.out]|rw[j7.out]|rw[j8.out]|rw[t4.out]);conv=>whnf))
    have l1:Hid (IntKind.i64.wrap (((k+n:Nat):Int)+1)=((k+n+1:Nat):Int)):=show IntKind.i64.wrap (((k+n:Nat):Int)+1)=((k+n+1:Nat):Int)from by rw[wrap_i64 aa aa];omega
    have l2:Hid (0+(k:Int).toNat=k):=show 0+(k:Int).toNat=k from aa
    have l3:Hid ((((k+n+1:Nat):Int) - (k:Int)).toNat=n+1):=show(((k+n+1:Nat):Int) - (k:Int)).toNat=n+1 from aa
    have l4:Hid (IntKind.u32.wrap (d:Int)=(d:Int)):=show IntKind.u32.wrap (d:Int)=(d:Int)from oh Ys
    have l5:Hid (IntKind.i64.wrap ((k:Int) - 1)=(k:Int) - 1):=show IntKind.i64.wrap ((k:Int) - 1)=(k:Int) - 1 from wrap_i64 aa aa
    have kl:=J3 (l+1) k n R d V (bJ V (n+1)) aa aa Ym aa aa NP RF Ys 2001 2002 aI
    rw[hSd]at kl
    obtain⟨B,hB⟩:∃B,4294967296^(k+n+1)=B:=⟨_,rfl⟩
    have hDB:V*S≤B:=by rw[←hB,←hSd];exact hVSB
    have E0:R<B:=by rw[←hB];exact Ym
    rw[hB]at kl
    have J9:=hq0 k (Nat.lt_succ_self k)
    by_cases hneg:R<d*V*S
    ·have t5:Hid (decide (R<d*V*S)=true):=show decide (R<d*V*S)=true from decide_eq_true hneg
     rw[Nat.mul_assoc]at hneg Cf
     obtain⟨m1,m2,m3,p8⟩:=C8 hneg Cf E0 hDB
     rw[←Nat.mul_assoc]at m1
     have Ka:(R+B - d*V*S) % B<4294967296^(k+n+1):=by rw[hB];exact Nat.mod_lt _ (Nat.lt_of_le_of_lt (Nat.zero_le _) E0)
     obtain⟨R1,hR1d⟩:∃R1,(R+B - d*V*S) % B=R1:=⟨_,rfl⟩
     rw[hR1d]at kl m1 Ka
     have Yt:(bJ R1 (l+1)).length=l+1:=c6 _ _
     have xE:=gj R1 (l+1)
     have J4:=nJ (L:=l+1) Ka aa
     have Yu:∀j,k+n+1≤j→(bJ R1 (l+1)).getD j 0=0:=fun j hj=>sc Ka hj
     have l6:Hid (IntKind.u64.wrap ((d:Int) - 1)=((d - 1:Nat):Int)):=show IntKind.u64.wrap ((d:Int) - 1)=((d - 1:Nat):Int)from by rw[show(d:Int) - 1=((d - 1:Nat):Int)from aa,ep aa]
     (repeat((first|refine ag rfl rfl ?_|refine aC Q3 ?_|refine⟨[_,_],_,[],[_,_],(by assumption),fY rfl rfl,aA,vR (List.mem_cons_self ..) rfl rfl rfl (List.mem_cons_of_mem _ (List.mem_cons_self ..)) rfl rfl rfl, ?_⟩|rw[l1.out]|rw[l2.out]|rw[l3.out]|rw[t5.out]);conv=>whnf))
     rw[l6.out]
     generalize hus:bJ R1 (l+1)=us at*
     refine aj hE (fun k=>k) [4,6,7,8,9,10,12,14,128,129,130] [0,1,39,2001,2002] (fun m fr hp=>∃(i:Nat) (o:List Int) (c:Nat),m=n - i∧i≤n∧o.length=l+1∧fL o∧c≤1∧(∀j,k+i≤j→o.getD j 0=us.getD j 0)∧aB o (k+i)+c*4294967296^(k+i)=aB us (k+i)+aB (bJ V (n+1)) i*4294967296^k∧
      fr=[(4,.aO 39 1 0 (l+1 - n)),(6,.val (.int .i64 s)),(7,.aO 2001 1 0 (l+1)),(8,.aO 2002 1 0 n),(9,.val (.int .i64 n)),(10,.val (.int .i64 k)),(12,.val (.int .u64 (d - 1:Nat))),(14,.val (.int .u32 c)),(128,.aO 2002 1 0 n),(129,.val (.int .i64 n)),(130,.val (.int .i64 i))]∧hp=[(0,⟨23,false,.ints .u32 xs⟩),(1,⟨23,false,.ints .u32 ys⟩),(39,⟨23,true,.ints .u32 q⟩),(2001,⟨23,true,.ints .u32 o⟩),(2002,⟨23,true,.ints .u32 (bJ V (n+1))⟩)]) n ?_ ?_ ?_
     ·kernel_rfl
     ·exact⟨0,us,0,aa,aa,Yt,xE,aa,(fun _ _=>rfl),by simp[aB],rfl,rfl⟩
     rintro m _ _ ⟨i,o,c,rfl,hi,hlen,hw,hc,cx,bZ,rfl,rfl⟩
     obtain⟨x,hx⟩:=Int.eq_ofNat_of_zero_le (xE (k+i)).1
     have MH:=(xE (k+i)).2
     have QA:Hid (o.getD (k+i) 0=(x:Int)):=show o.getD (k+i) 0=(x:Int)from by rw[cx _ (Nat.le_refl _)];exact hx
     by_cases aE:i<n
     ·have t1:Hid (decide ((i:Int)<(n:Int))=true):=show decide ((i:Int)<(n:Int))=true from decide_eq_true aa
      have f1:Hid (0+(i:Int).toNat=i):=show 0+(i:Int).toNat=i from aa
      have f2:Hid (IntKind.i64.wrap ((k:Int)+(i:Int))=((k+i:Nat):Int)):=show IntKind.i64.wrap ((k:Int)+(i:Int))=((k+i:Nat):Int)from by rw[wrap_i64 aa aa];omega
      have f3:Hid (0+((k+i:Nat):Int).toNat=k+i):=show 0+((k+i:Nat):Int).toNat=k+i from aa
      have f4:Hid (IntKind.i64.wrap ((i:Int)+1)=((i+1:Nat):Int)):=show IntKind.i64.wrap ((i:Int)+1)=((i+1:Nat):Int)from by rw[wrap_i64 aa aa];omega
      obtain⟨w,hww⟩:=Int.eq_ofNat_of_zero_le (NP i).1
      have nv:=(NP i).2
      have f5:Hid ((bJ V (n+1)).getD i 0=(w:Int)):=show(bJ V (n+1)).getD i 0=(w:Int)from hww
      have ML:=ma x w c aa aa hc
      have ca:=zQ aa hx hww bZ
      have om:(x+w+c)/4294967296≤1:=aa
      conv=>whnf
      (repeat((first|refine ag rfl rfl ?_|refine bg Q3 ?_|refine aC Q3 ?_|refine aS (by assumption) ?_|rw[t1.out]|rw[f1.out]|rw[f5.out]|rw[f2.out]|rw[f3.out]|rw[QA.out]);conv=>whnf))
      rw[f4.out]
      exact⟨n - (i+1),fun k=>k,[4,6,7,8,9,10,12,14,128,129,130],[0,1,39,2001,2002],aa,av,i+1,_,_,rfl,aa,by simpa using hlen,hw.set aa aa,om,(fun j hj=>by rw[aZ,if_neg aa];exact cx j aa),ca,rfl,rfl⟩
     ·have jx:i=n:=aa
      subst jx
      have t1:Hid (decide ((i:Int)<(i:Int))=false):=show decide ((i:Int)<(i:Int))=false from decide_eq_false aa
      have f6:Hid (IntKind.u32.wrap ((x:Int)+(c:Int))=(((x+c) % 4294967296:Nat):Int)):=show IntKind.u32.wrap ((x:Int)+(c:Int))=(((x+c) % 4294967296:Nat):Int)from by rw[←Int.natCast_add,oO]
      have f7:Hid (IntKind.u32.wrap ((d - 1:Nat):Int)=((d - 1:Nat):Int)):=show IntKind.u32.wrap ((d - 1:Nat):Int)=((d - 1:Nat):Int)from oh aa
      have yV:fL (o.set (k+i) (((x+c) % 4294967296:Nat):Int)):=hw.set aa aa
      have ga:=C6 aa hx hc aa J4 RF bZ yV
      rw[hSd,hB,m1]at ga
      have Hd:=xD (L:=l+1) (by simpa using hlen) yV (fun j hj=>by rw[aZ,if_neg aa,cx j aa];exact Yu j hj) aa ga
      obtain⟨p1,p2⟩:=se (U:=X*2^s) m2 m3 hXR
      conv=>whnf
      (repeat((first|refine ae rfl rfl ?_|refine bg Q3 ?_|refine aC Q3 ?_|rw[t1.out]|rw[i2.out]|rw[i3.out]|rw[QA.out]|rw[f6.out]|rw[f7.out]|rw[l2.out]);conv=>whnf))
      rw[l5.out,Hd]
      exact⟨k,fun k=>k,[4,6,7,8,9,10],[0,1,39,2001,2002],aa,av,R - (d - 1)*(V*S),Qv+(d - 1)*S,q.set k ((d - 1:Nat):Int),aa,by rw[hSd];exact p1,p2,by simpa using NO,hqw.set aa aa,(fun j hj=>by rw[aZ,if_neg aa];exact hq0 j aa),by rw[mO aa aa,Yr,J9,←cX,hSd,Int.sub_zero,←Int.natCast_mul,←Int.natCast_add],rfl,rfl⟩
    ·have t5:Hid (decide (R<d*V*S)=false):=show decide (R<d*V*S)=false from decide_eq_false hneg
     rw[Nat.mul_assoc]at hneg Ce
     have C9:=Nat.le_of_not_lt hneg
     have p9:=C7 (d:=d) (D:=V*S) C9 E0
     rw[←Nat.mul_assoc]at p9
     rw[p9]at kl
     obtain⟨p1,p2⟩:=se (U:=X*2^s) C9 Ce hXR
     rw[←Nat.mul_assoc]at p1 p2
     (repeat((first|refine ae rfl rfl ?_|refine bg Q3 ?_|refine aC Q3 ?_|refine⟨[_,_],_,[],[_,_],(by assumption),fY rfl rfl,aA,vR (List.mem_cons_self ..) rfl rfl rfl (List.mem_cons_of_mem _ (List.mem_cons_self ..)) rfl rfl rfl, ?_⟩|rw[l1.out]|rw[l2.out]|rw[l3.out]|rw[t5.out]|rw[l4.out]);conv=>whnf))
     rw[l5.out]
     exact⟨k,fun k=>k,[4,6,7,8,9,10],[0,1,39,2001,2002],aa,av,R - d*V*S,Qv+d*S,q.set k (d:Int),aa,by rw[hSd];exact p1,p2,by simpa using NO,hqw.set aa aa,(fun j hj=>by rw[aZ,if_neg aa];exact hq0 j aa),by rw[mO aa aa,Yr,J9,←cX,hSd,Int.sub_zero,←Int.natCast_mul,←Int.natCast_add],rfl,rfl⟩
   ·have t4:Hid (decide (((d*v2:Nat):Int)≤((r*4294967296+u0:Nat):Int))=false):=show decide (((d*v2:Nat):Int)≤((r*4294967296+u0:Nat):Int))=false from decide_eq_false aa
    have EN:R<d*V*S:=J5 (W:=4294967296) hP hS aI (by rw[ht,hv1];exact hdr) (by rw[hu0,hv2];omega)
    obtain⟨n1,n2,n3,n4,n5,n6⟩:=y5 EN
    conv=>whnf
    (repeat((first|refine ag rfl rfl ?_|refine ae rfl rfl ?_|refine aq av ?_|refine bg Q3 ?_|refine gz Q3 ?_|refine aC Q3 ?_|refine ah dO ?_|rw[t2.out]|rw[t3.out]|rw[j2.out]|rw[j3.out]|rw[g5.out]|rw[j1.out]|rw[i2.out]|rw[j4.out]|rw[j5.out]|rw[g3.out]|rw[j6.out]|rw[j7.out]|rw[j8.out]|rw[t4.out]|rw[e0.out]|rw[e1.out]|rw[g4.out]|rw[i9.out]);conv=>whnf))
    rw[j9.out,n6]
    exact⟨d - 1,fun k=>k,[4,6,7,8,9,10,12,13],[0,1,39,2001,2002],aa,av,r+v1,n2,n3,n4,n5,rfl,rfl⟩
  ·have t3:Hid (decide ((d:Int)≤4294967295)=false):=show decide ((d:Int)≤4294967295)=false from decide_eq_false aa
   have EN:R<d*V*S:=by
    have h1:4294967296*(V*S)≤d*(V*S):=Nat.mul_le_mul_right _ aa
    rw[Nat.mul_assoc]
    refine Nat.lt_of_lt_of_le jD (Nat.le_trans (Nat.le_of_eq ?_) h1)
    rw[Nat.mul_comm 4294967296,Nat.mul_assoc]
   obtain⟨n1,n2,n3,n4,n5,n6⟩:=y5 EN
   conv=>whnf
   (repeat((first|refine ag rfl rfl ?_|refine ae rfl rfl ?_|refine aq av ?_|refine bg Q3 ?_|refine aC Q3 ?_|refine ah dP ?_|rw[t2.out]|rw[t3.out]|rw[e0.out]|rw[e1.out]|rw[g4.out]|rw[i9.out]);conv=>whnf))
   rw[j9.out,n6]
   exact⟨d - 1,fun k=>k,[4,6,7,8,9,10,12,13],[0,1,39,2001,2002],aa,av,r+v1,n2,n3,n4,n5,rfl,rfl⟩
 ·have t2:Hid (decide ((r:Int)≤4294967295)=false):=show decide ((r:Int)≤4294967295)=false from decide_eq_false aa
  have Ys:d<4294967296:=EU (W:=4294967296) hP hS aI (by rw[ht,hv1];exact hdr) aa jD
  have Cf:d*V*S≤R+V*S:=Nat.le_trans (HF (W:=4294967296) hP hS aI Ys (by rw[ht,hv1];exact hdr) aa) (Nat.le_add_right _ _)
  conv=>whnf
  (repeat(first|(refine ae rfl rfl ?_;conv=>whnf)|(rw[t2.out];conv=>whnf)))
  have l1:Hid (IntKind.i64.wrap (((k+n:Nat):Int)+1)=((k+n+1:Nat):Int)):=show IntKind.i64.wrap (((k+n:Nat):Int)+1)=((k+n+1:Nat):Int)from by rw[wrap_i64 aa aa];omega
  have l2:Hid (0+(k:Int).toNat=k):=show 0+(k:Int).toNat=k from aa
  have l3:Hid ((((k+n+1:Nat):Int) - (k:Int)).toNat=n+1):=show(((k+n+1:Nat):Int) - (k:Int)).toNat=n+1 from aa
  have l4:Hid (IntKind.u32.wrap (d:Int)=(d:Int)):=show IntKind.u32.wrap (d:Int)=(d:Int)from oh Ys
  have l5:Hid (IntKind.i64.wrap ((k:Int) - 1)=(k:Int) - 1):=show IntKind.i64.wrap ((k:Int) - 1)=(k:Int) - 1 from wrap_i64 aa aa
  have kl:=J3 (l+1) k n R d V (bJ V (n+1)) aa aa Ym aa aa NP RF Ys 2001 2002 aI
  rw[hSd]at kl
  obtain⟨B,hB⟩:∃B,4294967296^(k+n+1)=B:=⟨_,rfl⟩
  have hDB:V*S≤B:=by rw[←hB,←hSd];exact hVSB
  have E0:R<B:=by rw[←hB];exact Ym
  rw[hB]at kl
  have J9:=hq0 k (Nat.lt_succ_self k)
  by_cases hneg:R<d*V*S
  ·have t5:Hid (decide (R<d*V*S)=true):=show decide (R<d*V*S)=true from decide_eq_true hneg
   rw[Nat.mul_assoc]at hneg Cf
   obtain⟨m1,m2,m3,p8⟩:=C8 hneg Cf E0 hDB
   rw[←Nat.mul_assoc]at m1
   have Ka:(R+B - d*V*S) % B<4294967296^(k+n+1):=by rw[hB];exact Nat.mod_lt _ (Nat.lt_of_le_of_lt (Nat.zero_le _) E0)
   obtain⟨R1,hR1d⟩:∃R1,(R+B - d*V*S) % B=R1:=⟨_,rfl⟩
   rw[hR1d]at kl m1 Ka
   have Yt:(bJ R1 (l+1)).length=l+1:=c6 _ _
   have xE:=gj R1 (l+1)
   have J4:=nJ (L:=l+1) Ka aa
   have Yu:∀j,k+n+1≤j→(bJ R1 (l+1)).getD j 0=0:=fun j hj=>sc Ka hj
   have l6:Hid (IntKind.u64.wrap ((d:Int) - 1)=((d - 1:Nat):Int)):=show IntKind.u64.wrap ((d:Int) - 1)=((d - 1:Nat):Int)from by rw[show(d:Int) - 1=((d - 1:Nat):Int)from aa,ep aa]
   (repeat((first|refine ag rfl rfl ?_|refine aC Q3 ?_|refine⟨[_,_],_,[],[_,_],(by assumption),fY rfl rfl,aA,vR (List.mem_cons_self ..) rfl rfl rfl (List.mem_cons_of_mem _ (List.mem_cons_self ..)) rfl rfl rfl, ?_⟩|rw[i2.out]|rw[l1.out]|rw[l2.out]|rw[l3.out]|rw[t5.out]);conv=>whnf))
   rw[l6.out]
   generalize hus:bJ R1 (l+1)=us at*
   refine aj hE (fun k=>k) [4,6,7,8,9,10,12,14,128,129,130] [0,1,39,2001,2002] (fun m fr hp=>∃(i:Nat) (o:List Int) (c:Nat),m=n - i∧i≤n∧o.length=l+1∧fL o∧c≤1∧(∀j,k+i≤j→o.getD j 0=us.getD j 0)∧aB o (k+i)+c*4294967296^(k+i)=aB us (k+i)+aB (bJ V (n+1)) i*4294967296^k∧
    fr=[(4,.aO 39 1 0 (l+1 - n)),(6,.val (.int .i64 s)),(7,.aO 2001 1 0 (l+1)),(8,.aO 2002 1 0 n),(9,.val (.int .i64 n)),(10,.val (.int .i64 k)),(12,.val (.int .u64 (d - 1:Nat))),(14,.val (.int .u32 c)),(128,.aO 2002 1 0 n),(129,.val (.int .i64 n)),(130,.val (.int .i64 i))]∧hp=[(0,⟨23,false,.ints .u32 xs⟩),(1,⟨23,false,.ints .u32 ys⟩),(39,⟨23,true,.ints .u32 q⟩),(2001,⟨23,true,.ints .u32 o⟩),(2002,⟨23,true,.ints .u32 (bJ V (n+1))⟩)]) n ?_ ?_ ?_
   ·kernel_rfl
   ·exact⟨0,us,0,aa,aa,Yt,xE,aa,(fun _ _=>rfl),by simp[aB],rfl,rfl⟩
   rintro m _ _ ⟨i,o,c,rfl,hi,hlen,hw,hc,cx,bZ,rfl,rfl⟩
   obtain⟨x,hx⟩:=Int.eq_ofNat_of_zero_le (xE (k+i)).1
   have MH:=(xE (k+i)).2
   have QA:Hid (o.getD (k+i) 0=(x:Int)):=show o.getD (k+i) 0=(x:Int)from by rw[cx _ (Nat.le_refl _)];exact hx
   by_cases aE:i<n
   ·have t1:Hid (decide ((i:Int)<(n:Int))=true):=show decide ((i:Int)<(n:Int))=true from decide_eq_true aa
    have f1:Hid (0+(i:Int).toNat=i):=show 0+(i:Int).toNat=i from aa
    have f2:Hid (IntKind.i64.wrap ((k:Int)+(i:Int))=((k+i:Nat):Int)):=show IntKind.i64.wrap ((k:Int)+(i:Int))=((k+i:Nat):Int)from by rw[wrap_i64 aa aa];omega
    have f3:Hid (0+((k+i:Nat):Int).toNat=k+i):=show 0+((k+i:Nat):Int).toNat=k+i from aa
    have f4:Hid (IntKind.i64.wrap ((i:Int)+1)=((i+1:Nat):Int)):=show IntKind.i64.wrap ((i:Int)+1)=((i+1:Nat):Int)from by rw[wrap_i64 aa aa];omega
    obtain⟨w,hww⟩:=Int.eq_ofNat_of_zero_le (NP i).1
    have nv:=(NP i).2
    have f5:Hid ((bJ V (n+1)).getD i 0=(w:Int)):=show(bJ V (n+1)).getD i 0=(w:Int)from hww
    have ML:=ma x w c aa aa hc
    have ca:=zQ aa hx hww bZ
    have om:(x+w+c)/4294967296≤1:=aa
    conv=>whnf
    (repeat((first|refine ag rfl rfl ?_|refine bg Q3 ?_|refine aC Q3 ?_|refine aS (by assumption) ?_|rw[t1.out]|rw[f1.out]|rw[f5.out]|rw[f2.out]|rw[f3.out]|rw[QA.out]);conv=>whnf))
    rw[f4.out]
    exact⟨n - (i+1),fun k=>k,[4,6,7,8,9,10,12,14,128,129,130],[0,1,39,2001,2002],aa,av,i+1,_,_,rfl,aa,by simpa using hlen,hw.set aa aa,om,(fun j hj=>by rw[aZ,if_neg aa];exact cx j aa),ca,rfl,rfl⟩
   ·have jx:i=n:=aa
    subst jx
    have t1:Hid (decide ((i:Int)<(i:Int))=false):=show decide ((i:Int)<(i:Int))=false from decide_eq_false aa
    have f6:Hid (IntKind.u32.wrap ((x:Int)+(c:Int))=(((x+c) % 4294967296:Nat):Int)):=show IntKind.u32.wrap ((x:Int)+(c:Int))=(((x+c) % 4294967296:Nat):Int)from by rw[←Int.natCast_add,oO]
    have f7:Hid (IntKind.u32.wrap ((d - 1:Nat):Int)=((d - 1:Nat):Int)):=show IntKind.u32.wrap ((d - 1:Nat):Int)=((d - 1:Nat):Int)from oh aa
    have yV:fL (o.set (k+i) (((x+c) % 4294967296:Nat):Int)):=hw.set aa aa
    have ga:=C6 aa hx hc aa J4 RF bZ yV
    rw[hSd,hB,m1]at ga
    have Hd:=xD (L:=l+1) (by simpa using hlen) yV (fun j hj=>by rw[aZ,if_neg aa,cx j aa];exact Yu j hj) aa ga
    obtain⟨p1,p2⟩:=se (U:=X*2^s) m2 m3 hXR
    conv=>whnf
    (repeat((first|refine ae rfl rfl ?_|refine bg Q3 ?_|refine aC Q3 ?_|rw[t1.out]|rw[i2.out]|rw[i3.out]|rw[QA.out]|rw[f6.out]|rw[f7.out]|rw[l2.out]);conv=>whnf))
    rw[l5.out,Hd]
    exact⟨k,fun k=>k,[4,6,7,8,9,10],[0,1,39,2001,2002],aa,av,R - (d - 1)*(V*S),Qv+(d - 1)*S,q.set k ((d - 1:Nat):Int),aa,by rw[hSd];exact p1,p2,by simpa using NO,hqw.set aa aa,(fun j hj=>by rw[aZ,if_neg aa];exact hq0 j aa),by rw[mO aa aa,Yr,J9,←cX,hSd,Int.sub_zero,←Int.natCast_mul,←Int.natCast_add],rfl,rfl⟩
  ·have t5:Hid (decide (R<d*V*S)=false):=show decide (R<d*V*S)=false from decide_eq_false hneg
   rw[Nat.mul_assoc]at hneg Ce
   have C9:=Nat.le_of_not_lt hneg
   have p9:=C7 (d:=d) (D:=V*S) C9 E0
   rw[←Nat.mul_assoc]at p9
   rw[p9]at kl
   obtain⟨p1,p2⟩:=se (U:=X*2^s) C9 Ce hXR
   rw[←Nat.mul_assoc]at p1 p2
   (repeat((first|refine ae rfl rfl ?_|refine bg Q3 ?_|refine aC Q3 ?_|refine⟨[_,_],_,[],[_,_],(by assumption),fY rfl rfl,aA,vR (List.mem_cons_self ..) rfl rfl rfl (List.mem_cons_of_mem _ (List.mem_cons_self ..)) rfl rfl rfl, ?_⟩|rw[i2.out]|rw[l1.out]|rw[l2.out]|rw[l3.out]|rw[t5.out]|rw[l4.out]);conv=>whnf))
   rw[l5.out]
   exact⟨k,fun k=>k,[4,6,7,8,9,10],[0,1,39,2001,2002],aa,av,R - d*V*S,Qv+d*S,q.set k (d:Int),aa,by rw[hSd];exact p1,p2,by simpa using NO,hqw.set aa aa,(fun j hj=>by rw[aZ,if_neg aa];exact hq0 j aa),by rw[mO aa aa,Yr,J9,←cX,hSd,Int.sub_zero,←Int.natCast_mul,←Int.natCast_add],rfl,rfl⟩
end Go.Proofs.YtfpagioknjjacaaGreatDoor
