/- The texts Ej. -/
import Derived.Test.YthaeohlijigplaaGreatQLTopFound3
namespace Go.Proofs.YthaeohlijigplaaGreat
open Go.Sx
set_option linter.unusedSimpArgs false
set_option linter.unusedVariables false
set_option maxRecDepth 100000
set_option maxHeartbeats 80000000
theorem NamesOK.roNew2 {fk:List (Nat×Blk)} {m p:Nat} {b c:Blk} {σ:Nat→Nat} (h:allRo fk=true) (hn:∀q∈keysOf fk,σ m≠σ q∧σ p≠σ q) (hmp:σ m≠σ p):NamesOK fk [(m,b),(p,c)] σ:=
 ⟨(fun q q' b b' hq _ _ hw=>by rw[allRo_spec h q b hq]at hw;cases hw),(fun x y h1 h2 hne=>by
  have h1:x=m∨x=p:=by simpa [keysOf]using h1
  have h2:y=m∨y=p:=by simpa [keysOf]using h2
  rcases h1 with rfl|rfl<;>rcases h2 with rfl|rfl
  ·exact absurd rfl hne
  ·exact hmp
  ·exact hmp.symm
  ·exact absurd rfl hne),(fun x q h1 h2=>by
  have h1:x=m∨x=p:=by simpa [keysOf]using h1
  rcases h1 with rfl|rfl
  ·exact(hn q h2).1
  ·exact(hn q h2).2)⟩
theorem two_new {hp:List (Nat×Blk)} {k l:Nat} {b c:Blk} (h:find hp k=none) (h':find hp l=none):∀j d,(j,d)∈[(k,b),(l,c)]→find hp j=none:=fun j d hm=>by
 simp only[List.mem_cons,List.not_mem_nil,or_false,Prod.mk.injEq]at hm
 rcases hm with⟨rfl,rfl⟩|⟨rfl,rfl⟩<;>assumption
theorem long_end {R Qv V S d U:Nat} (h1:d*(V*S)≤R) (h2:R<(d+1)*(V*S)) (hU:U=Qv*V+R):R - d*(V*S)<V*S∧U=(Qv+d*S)*V+(R - d*(V*S)):=by
 rw[Nat.add_mul,Nat.one_mul]at h2
 refine⟨by omega, ?_⟩
 rw[Nat.add_mul,show d*S*V=d*(V*S)from by rw[Nat.mul_assoc,Nat.mul_comm S V]]
 omega
theorem valI_digs_lo {v m L:Nat} (hv:v<4294967296^m) (hm:m≤L):valI (digs v L) m=v:=by
 rw[←valI_zeros (xs:=digs v L) (k:=m) (n:=L) (fun i h1 _=>digs_hi hv h1) hm,valI_digs,Nat.mod_eq_of_lt (Nat.lt_of_lt_of_le hv (Nat.pow_le_pow_right (by decide) hm))]
theorem long_out {X Y V Qv R s:Nat} (hV:Y*2^s=V) (h:X*2^s=Qv*V+R) (hR:R<V):X/Y=Qv∧R/2^s=X % Y:=by
 have hs:0<2^s:=Nat.two_pow_pos s
 have hY:0<Y:=by
  rcases Nat.eq_zero_or_pos Y with rfl|h'
  ·rw[Nat.zero_mul]at hV;omega
  ·exact h'
 have h1:X*2^s/(Y*2^s)=Qv:=by
  rw[h,hV,Nat.add_comm,Nat.add_mul_div_right _ _ (by omega),Nat.div_eq_of_lt hR,Nat.zero_add]
 have h2:X*2^s % (Y*2^s)=R:=by
  rw[h,hV,Nat.add_comm,Nat.add_mul_mod_self_right,Nat.mod_eq_of_lt hR]
 rw[Nat.mul_div_mul_right _ _ hs]at h1
 rw[Nat.mul_mod_mul_right]at h2
 exact⟨h1,by rw[←h2,Nat.mul_div_cancel _ hs]⟩
theorem shl_ior {a b:Nat} (ha:a<4294967296) (hb:b<4294967296):ior .u64 (ishl .u64 (a:Int) 32) (b:Int)=((a*4294967296+b:Nat):Int):=by
 have e1:ishl .u64 (a:Int) 32=((a*4294967296:Nat):Int):=by
  show IntKind.u64.wrap ((a:Int)*4294967296)=_
  rw[show(a:Int)*4294967296=((a*4294967296:Nat):Int)from by omega,wu64 (by omega)]
 rw[e1,ior_u64 (by omega) (by omega),Nat.mul_comm,←Nat.two_pow_add_eq_or_of_lt (i:=32) (b:=b) (by omega) a]
theorem c_long (xs ys:List Int) (l n X Y:Nat) (hl:l≤xs.length) (hn:n≤ys.length) (hxl:xs.length<549755813888) (hyl:ys.length<549755813888) (hx:W32 xs) (hy:W32 ys) (hX:valI xs l=X) (hY:valI ys n=Y)
  (h2:2≤n) (htop:ys.getD (n - 1) 0≠0) (hnl:n≤l) (K1 K2 Q1 Q2:Nat) (hk1:Q1≠K1∧Q2≠K1) (hk2:Q1≠K2∧Q2≠K2) (hq:Q1≠Q2):
  CallOK Tryz.prog 90 [.slc K1 1 0 l,.slc K2 1 0 n] [(K1,⟨104,false,.ints .u32 xs⟩),(K2,⟨104,false,.ints .u32 ys⟩)] (.tup [.slc Q1 1 0 (l+1 - n),.slc Q2 1 0 (l+1)])
   [(Q1,⟨104,true,.ints .u32 (digs (X/Y) (l+1 - n))⟩),(Q2,⟨104,true,.ints .u32 (digs (X % Y) (l+1))⟩)] []:=by
 obtain⟨y,hyt⟩:=Int.eq_ofNat_of_zero_le (hy (n - 1)).1
 have hy2:=(hy (n - 1)).2
 have kz:=c_LZ32 y (by omega)
 have hsz:1≤sz y∧sz y≤32:=by
  refine⟨?_,sz_le.2 (show y<2^32 by have:(2:Nat)^32=4294967296:=rfl;omega)⟩
  refine Classical.byContradiction fun h=> ?_
  have h3:=sz_le.1 (show sz y≤0 by omega)
  rw[Nat.pow_zero]at h3
  exact htop (by rw[hyt];omega)
 obtain⟨s,hs⟩:∃s,32 - sz y=s:=⟨_,rfl⟩
 rw[hs]at kz
 have hs32:s<32:=by omega
 have ku:=c_shifted xs l hl (by omega) hx s hs32 0 2001 (by decide) false X hX
 have kv:=c_shifted ys n hn (by omega) hy s hs32 1 2002 (by decide) false Y hY
 obtain⟨V,hVd⟩:∃V,Y*2^s=V:=⟨_,rfl⟩
 rw[hVd]at kv
 have hXl:X<4294967296^l:=by have:=valI_lt hx l;rw[hX,←natPowW]at this;omega
 have e0:Hid (IntKind.i64.wrap ((n:Int) - 1)=((n - 1:Nat):Int)):=show IntKind.i64.wrap ((n:Int) - 1)=((n - 1:Nat):Int)from by rw[wrap_i64 (by omega) (by omega)];omega
 have e1:Hid (0+((n - 1:Nat):Int).toNat=n - 1):=show 0+((n - 1:Nat):Int).toNat=n - 1 from by omega
 have hnames:∀q∈keysOf [(0,(⟨104,false,.ints .u32 xs⟩:Blk)),(1,⟨104,false,.ints .u32 ys⟩)],renBy [(0,K1),(1,K2),(39,Q1),(2001,Q2)] 39≠renBy [(0,K1),(1,K2),(39,Q1),(2001,Q2)] q∧renBy [(0,K1),(1,K2),(39,Q1),(2001,Q2)] 2001≠renBy [(0,K1),(1,K2),(39,Q1),(2001,Q2)] q:=fun q hq=>by
  have hq:q=0∨q=1:=by simpa [keysOf]using hq
  rcases hq with rfl|rfl
  ·exact hk1
  ·exact hk2
 refine callK (Z:=[]) tabOK mixedOK Tryz.func90 rfl (by kernel_rfl) (args:=[.slc 0 1 0 l,.slc 1 1 0 n]) (fk:=[(0,⟨104,false,.ints .u32 xs⟩),(1,⟨104,false,.ints .u32 ys⟩)])
  (c:=.tup [.slc 39 1 0 (l+1 - n),.slc 2001 1 0 (l+1)]) (new:=[(39,⟨104,true,.ints .u32 (digs (X/Y) (l+1 - n))⟩),(2001,⟨104,true,.ints .u32 (digs (X % Y) (l+1))⟩)]) (upd:=[]) (ShapeOK.of rfl rfl rfl rfl rfl rfl rfl rfl rfl rfl rfl) rfl (renBy [(0,K1),(1,K2),(39,Q1),(2001,Q2)]) (NamesOK.roNew2 rfl hnames hq) ?_
 intro W0 w0 ρ0 hE
 conv=>whnf
 have e3:Hid (((n:Int) - 0).toNat=n):=show((n:Int) - 0).toNat=n from by omega
 have e4:Hid (IntKind.i64.wrap (((l+1:Nat):Int) - (n:Int))=((l+1 - n:Nat):Int)):=show IntKind.i64.wrap (((l+1:Nat):Int) - (n:Int))=((l+1 - n:Nat):Int)from by rw[wrap_i64 (by omega) (by omega)];omega
 have e5:Hid (0+Int.toNat 0=0):=show 0+Int.toNat 0=0 from rfl
 have e6:Hid (IntKind.i64.wrap (((l+1 - n:Nat):Int) - 1)=((l+1 - n:Nat):Int) - 1):=show IntKind.i64.wrap (((l+1 - n:Nat):Int) - 1)=((l+1 - n:Nat):Int) - 1 from wrap_i64 (by omega) (by omega)
 (repeat((first|refine step_i (by kernel_rfl) ?_|refine step_oL (by first|omega|decide|(simp only[tl0,dlen,List.length_replicate,List.length_set,List.length_map,List.length_zipWith,List.length_take,List.length_append,List.length_cons,List.length_nil];omega)) ?_|refine step_oA (by first|omega|decide|(simp only[tl0,dlen,List.length_replicate,List.length_set,List.length_map,List.length_zipWith,List.length_take,List.length_append,List.length_cons,List.length_nil];omega)) ?_|refine g_c (by assumption) ?_|refine g_c1n (by assumption) rfl rfl ?_|rw[e0.out]|rw[e1.out]|rw[hyt]|rw[e3.out]|rw[e5.out]|rw[e4.out]);conv=>whnf))
 have e7:Hid (IntKind.i64.wrap ((((l+1 - n:Nat):Int).toNat:Int) - 1)=((l+1 - n:Nat):Int) - 1):=show IntKind.i64.wrap ((((l+1 - n:Nat):Int).toNat:Int) - 1)=((l+1 - n:Nat):Int) - 1 from wrap_i64 (by omega) (by omega)
 rw[e7.out]
 obtain⟨hVn,hVg⟩:=long_norm hy h2 hyt hY hs hVd hsz.1 hsz.2
 have hvs:valI (digs V (n+1)) n=V:=valI_digs_lo hVn (by omega)
 have hvw:W32 (digs V (n+1)):=digs_w32 _ _
 have hvlen:(digs V (n+1)).length=n+1:=digs_len _ _
 refine SW_loopN hE (fun k=>k) [4,6,7,8,9,10] [0,1,39,2001,2002] (fun j fr hp=>∃(R Qv:Nat) (q:List Int),j≤l+1 - n∧R<V*4294967296^j∧X*2^s=Qv*V+R∧q.length=l+1 - n∧W32 q∧(∀i,i<j→q.getD i 0=0)∧valI q (l+1 - n)=Qv∧
  fr=[(4,.slc 39 1 0 (l+1 - n)),(6,.val (.int .i64 s)),(7,.slc 2001 1 0 (l+1)),(8,.slc 2002 1 0 n),(9,.val (.int .i64 n)),(10,.val (.int .i64 ((j:Int) - 1)))]∧hp=[(0,⟨104,false,.ints .u32 xs⟩),(1,⟨104,false,.ints .u32 ys⟩),(39,⟨104,true,.ints .u32 q⟩),(2001,⟨104,true,.ints .u32 (digs R (l+1))⟩),(2002,⟨104,true,.ints .u32 (digs V (n+1))⟩)]) (l+1 - n) ?_ ?_ ?_
 ·kernel_rfl
 ·exact⟨X*2^s,0,List.replicate (l+1 - n) 0,Nat.le_refl _,long_first hXl hs32 hVg h2 hnl,by omega,by simp,(fun i=>by rw[getD_replicate];decide),(fun i _=>getD_replicate),by rw[valI_zeros (k:=0) (fun i _ _=>getD_replicate) (by omega)];simp[valI],rfl,rfl⟩
 rintro j _ _ ⟨R,Qv,q,hj,hR,hXR,hql,hqw,hq0,hqv,rfl,rfl⟩
 by_cases h0:j=0
 ·subst h0
  have t1:Hid (decide (((0:Nat):Int) - 1≥0)=false):=show decide (((0:Nat):Int) - 1≥0)=false from rfl
  conv=>whnf
  (repeat(first|(refine step_w2 rfl rfl ?_;conv=>whnf)|(rw[t1.out];conv=>whnf)))
  have hRV:R<V:=by simpa using hR
  obtain⟨hdq,hdr⟩:=long_out hVd hXR hRV
  have hRl:R<4294967296^(l+1):=Nat.lt_of_lt_of_le (Nat.lt_trans hRV hVn) (Nat.pow_le_pow_right (by decide) (by omega))
  have hqd:q=digs (X/Y) (l+1 - n):=digs_of' hql hqw (by rw[hqv,hdq])
  refine SW_loopN hE (fun k=>k) [4,7,167,168] [0,1,39,2001] (fun m fr hp=>∃(i:Nat),m=s - i∧i≤s∧
   fr=[(4,.slc 39 1 0 (l+1 - n)),(7,.slc 2001 1 0 (l+1)),(167,.val (.int .i64 s)),(168,.val (.int .i64 i))]∧hp=[(0,⟨104,false,.ints .u32 xs⟩),(1,⟨104,false,.ints .u32 ys⟩),(39,⟨104,true,.ints .u32 q⟩),(2001,⟨104,true,.ints .u32 (digs (R/2^i) (l+1))⟩)]) s ?_ ?_ ?_
  ·kernel_rfl
  ·exact⟨0,by omega,by omega,rfl,by rw[Nat.pow_zero,Nat.div_one];rfl⟩
  rintro m _ _ ⟨i,rfl,hi,rfl,rfl⟩
  by_cases hlt:i<s
  ·have t2:Hid (decide ((i:Int)<(s:Int))=true):=show decide ((i:Int)<(s:Int))=true from decide_eq_true (by omega)
   have f4:Hid (IntKind.i64.wrap ((i:Int)+1)=((i+1:Nat):Int)):=show IntKind.i64.wrap ((i:Int)+1)=((i+1:Nat):Int)from by rw[wrap_i64 (by omega) (by omega)];omega
   have kh:=c_half (digs (R/2^i) (l+1)) (by rw[digs_len];omega) (digs_w32 _ _) 2001 (R/2^i) (by rw[digs_len,valI_digs,Nat.mod_eq_of_lt (Nat.lt_of_le_of_lt (Nat.div_le_self _ _) hRl)])
   rw[digs_len,Nat.div_div_eq_div_mul,←Nat.pow_succ]at kh
   conv=>whnf
   (repeat(first|(refine step_w1 rfl rfl ?_;conv=>whnf)|(refine g_c1u (by assumption) rfl rfl ?_;conv=>whnf)|(rw[t2.out];conv=>whnf)))
   rw[f4.out]
   exact⟨s - (i+1),fun k=>k,[4,7,167,168],[0,1,39,2001],by omega,by kernel_rfl,i+1,rfl,by omega,rfl,rfl⟩
  ·have hi':i=s:=by omega
   subst hi'
   have t2:Hid (decide ((i:Int)<(i:Int))=false):=show decide ((i:Int)<(i:Int))=false from decide_eq_false (by omega)
   rw[hqd,hdr]
   conv=>whnf
   (repeat(first|(refine step_w2 rfl rfl ?_;conv=>whnf)|(rw[t2.out];conv=>whnf)))
   exact⟨Recast.refl _,two_fk rfl rfl,(fun _ _ h=>by cases h)⟩
 obtain⟨k,rfl⟩:∃k,j=k+1:=⟨j - 1,by omega⟩
 have t1:Hid (decide (((k+1:Nat):Int) - 1≥0)=true):=show decide (((k+1:Nat):Int) - 1≥0)=true from decide_eq_true (by omega)
 have hP:0<4294967296^(n - 2):=Nat.pow_pos (by decide)
 have hS:0<4294967296^k:=Nat.pow_pos (by decide)
 have hul:(digs R (l+1)).length=l+1:=digs_len _ _
 obtain⟨P,hPd⟩:∃P,4294967296^(n - 2)=P:=⟨_,rfl⟩
 obtain⟨S,hSd⟩:∃S,4294967296^k=S:=⟨_,rfl⟩
 rw[hPd]at hP
 rw[hSd]at hS
 have hR':R<V*(S*4294967296):=by rw[←hSd,←Nat.pow_succ];exact hR
 obtain⟨t,ht⟩:∃t,R/(P*S)/4294967296=t:=⟨_,rfl⟩
 obtain⟨u0,hu0⟩:∃u0,R/(P*S) % 4294967296=u0:=⟨_,rfl⟩
 obtain⟨v1,hv1⟩:∃v1,V/P/4294967296=v1:=⟨_,rfl⟩
 obtain⟨v2,hv2⟩:∃v2,V/P % 4294967296=v2:=⟨_,rfl⟩
 obtain⟨hRB,hVSB,hVW,hv1a,hta,g1',g2',g3',g4',g5'⟩:=long_words (l:=l) h2 (by omega) hPd hSd hVn hVg hR'
 have hv2a:V/P % 4294967296<4294967296:=Nat.mod_lt _ (by decide)
 have hu0a:R/(P*S) % 4294967296<4294967296:=Nat.mod_lt _ (by decide)
 rw[hv1]at hv1a g4'
 rw[ht]at hta g1' g2'
 rw[hu0]at g3' hu0a
 rw[hv2]at g5' hv2a
 have g1:Hid ((digs R (l+1)).getD (k+n) 0=((t/4294967296:Nat):Int)):=show(digs R (l+1)).getD (k+n) 0=((t/4294967296:Nat):Int)from g1'
 have g2:Hid ((digs R (l+1)).getD (k+(n - 1)) 0=((t % 4294967296:Nat):Int)):=show(digs R (l+1)).getD (k+(n - 1)) 0=((t % 4294967296:Nat):Int)from g2'
 have g3:Hid ((digs R (l+1)).getD (k+(n - 2)) 0=(u0:Int)):=show(digs R (l+1)).getD (k+(n - 2)) 0=(u0:Int)from g3'
 have g4:Hid ((digs V (n+1)).getD (n - 1) 0=(v1:Int)):=show(digs V (n+1)).getD (n - 1) 0=(v1:Int)from g4'
 have g5:Hid ((digs V (n+1)).getD (n - 2) 0=(v2:Int)):=show(digs V (n+1)).getD (n - 2) 0=(v2:Int)from g5'
 clear g1' g2' g3' g4' g5'
 have i1:Hid (((k+1:Nat):Int) - 1=(k:Int)):=show((k+1:Nat):Int) - 1=(k:Int)from by omega
 have i2:Hid (IntKind.i64.wrap ((k:Int)+(n:Int))=((k+n:Nat):Int)):=show IntKind.i64.wrap ((k:Int)+(n:Int))=((k+n:Nat):Int)from by rw[wrap_i64 (by omega) (by omega)];omega
 have i3:Hid (0+((k+n:Nat):Int).toNat=k+n):=show 0+((k+n:Nat):Int).toNat=k+n from by omega
 have i4:Hid (IntKind.i64.wrap (((k+n:Nat):Int) - 1)=((k+(n - 1):Nat):Int)):=show IntKind.i64.wrap (((k+n:Nat):Int) - 1)=((k+(n - 1):Nat):Int)from by rw[wrap_i64 (by omega) (by omega)];omega
 have i5:Hid (0+((k+(n - 1):Nat):Int).toNat=k+(n - 1)):=show 0+((k+(n - 1):Nat):Int).toNat=k+(n - 1)from by omega
 have i6:Hid (IntKind.u64.wrap ((t/4294967296:Nat):Int)=((t/4294967296:Nat):Int)):=show IntKind.u64.wrap ((t/4294967296:Nat):Int)=((t/4294967296:Nat):Int)from wu64 (by omega)
 have i7:Hid (IntKind.u64.wrap ((t % 4294967296:Nat):Int)=((t % 4294967296:Nat):Int)):=show IntKind.u64.wrap ((t % 4294967296:Nat):Int)=((t % 4294967296:Nat):Int)from wu64 (by omega)
 have i8:Hid (ior .u64 (ishl .u64 ((t/4294967296:Nat):Int) 32) ((t % 4294967296:Nat):Int)=(t:Int)):=show ior .u64 (ishl .u64 ((t/4294967296:Nat):Int) 32) ((t % 4294967296:Nat):Int)=(t:Int)from by rw[shl_ior (by omega) (by omega)];congr 1;omega
 have i9:Hid (IntKind.u64.wrap (v1:Int)=(v1:Int)):=show IntKind.u64.wrap (v1:Int)=(v1:Int)from wu64 (by omega)
 have i10:Hid (((v1:Int) != 0)=true):=show((v1:Int) != 0)=true from by simp;omega
 have i11:Hid ((t:Int).tdiv (v1:Int)=((t/v1:Nat):Int)):=show(t:Int).tdiv (v1:Int)=((t/v1:Nat):Int)from rfl
 have i12:Hid ((t:Int).tmod (v1:Int)=((t % v1:Nat):Int)):=show(t:Int).tmod (v1:Int)=((t % v1:Nat):Int)from rfl
 have hq1:t/v1≤t:=Nat.div_le_self _ _
 have hq2:t % v1<v1:=Nat.mod_lt _ (by omega)
 have i13:Hid (IntKind.u64.wrap ((t/v1:Nat):Int)=((t/v1:Nat):Int)):=show IntKind.u64.wrap ((t/v1:Nat):Int)=((t/v1:Nat):Int)from wu64 (by omega)
 have i14:Hid (IntKind.u64.wrap ((t % v1:Nat):Int)=((t % v1:Nat):Int)):=show IntKind.u64.wrap ((t % v1:Nat):Int)=((t % v1:Nat):Int)from wu64 (by omega)
 conv=>whnf
 (repeat((first|refine step_w1 rfl rfl ?_|refine step_i (by kernel_rfl) ?_|refine step_oL (by first|omega|decide|(simp only[tl0,dlen,List.length_replicate,List.length_set,List.length_map,List.length_zipWith,List.length_take,List.length_append,List.length_cons,List.length_nil];omega)) ?_|refine step_oM (by first|omega|decide|(simp only[tl0,dlen,List.length_replicate,List.length_set,List.length_map,List.length_zipWith,List.length_take,List.length_append,List.length_cons,List.length_nil];omega)) ?_|refine step_oA (by first|omega|decide|(simp only[tl0,dlen,List.length_replicate,List.length_set,List.length_map,List.length_zipWith,List.length_take,List.length_append,List.length_cons,List.length_nil];omega)) ?_|refine step_oN (by first|omega|decide|(simp only[tl0,dlen,List.length_replicate,List.length_set,List.length_map,List.length_zipWith,List.length_take,List.length_append,List.length_cons,List.length_nil];omega)) ?_|rw[t1.out]|rw[i1.out]|rw[i2.out]|rw[i3.out]|rw[i4.out]|rw[i5.out]|rw[g1.out]|rw[g2.out]|rw[i6.out]|rw[i7.out]|rw[i8.out]|rw[e0.out]|rw[e1.out]|rw[g4.out]|rw[i9.out]|rw[i11.out]|rw[i12.out]|rw[i13.out]);conv=>whnf))
 have hlo0:R<(t/v1+1)*V*S:=long_guess (W:=4294967296) hP hS (by decide) (by rw[hv1];exact Nat.lt_of_lt_of_le (by decide) hv1a.1) (by rw[ht,hv1])
 have hdm:t/v1*v1+t % v1=t:=by rw[Nat.mul_comm];exact Nat.div_add_mod t v1
 refine SW_loopN hE (fun k=>k) [4,6,7,8,9,10,12,13] [0,1,39,2001,2002] (fun d fr hp=>∃(r:Nat),d<18446744073709551616∧d*v1+r=t∧r<8589934592∧R<(d+1)*V*S∧
  fr=[(4,.slc 39 1 0 (l+1 - n)),(6,.val (.int .i64 s)),(7,.slc 2001 1 0 (l+1)),(8,.slc 2002 1 0 n),(9,.val (.int .i64 n)),(10,.val (.int .i64 k)),(12,.val (.int .u64 d)),(13,.val (.int .u64 r))]∧hp=[(0,⟨104,false,.ints .u32 xs⟩),(1,⟨104,false,.ints .u32 ys⟩),(39,⟨104,true,.ints .u32 q⟩),(2001,⟨104,true,.ints .u32 (digs R (l+1))⟩),(2002,⟨104,true,.ints .u32 (digs V (n+1))⟩)]) (t/v1) ?_ ?_ ?_
 ·kernel_rfl
 ·exact⟨t % v1,by omega,hdm,by omega,hlo0,rfl,rfl⟩
 rintro d _ _ ⟨r,hd64,hdr,hr33,hlo,rfl,rfl⟩
 by_cases hrW:r<4294967296
 ·have t2:Hid (decide ((r:Int)≤4294967295)=true):=show decide ((r:Int)≤4294967295)=true from decide_eq_true (by omega)
  have j1:Hid (IntKind.u64.wrap ((v2:Nat):Int)=(v2:Int)):=show IntKind.u64.wrap ((v2:Nat):Int)=(v2:Int)from wu64 (by omega)
  have j2:Hid (IntKind.i64.wrap ((n:Int) - 2)=((n - 2:Nat):Int)):=show IntKind.i64.wrap ((n:Int) - 2)=((n - 2:Nat):Int)from by rw[wrap_i64 (by omega) (by omega)];omega
  have j3:Hid (0+((n - 2:Nat):Int).toNat=n - 2):=show 0+((n - 2:Nat):Int).toNat=n - 2 from by omega
  have j4:Hid (IntKind.i64.wrap (((k+n:Nat):Int) - 2)=((k+(n - 2):Nat):Int)):=show IntKind.i64.wrap (((k+n:Nat):Int) - 2)=((k+(n - 2):Nat):Int)from by rw[wrap_i64 (by omega) (by omega)];omega
  have j5:Hid (0+((k+(n - 2):Nat):Int).toNat=k+(n - 2)):=show 0+((k+(n - 2):Nat):Int).toNat=k+(n - 2)from by omega
  have j6:Hid (IntKind.u64.wrap ((u0:Nat):Int)=(u0:Int)):=show IntKind.u64.wrap ((u0:Nat):Int)=(u0:Int)from wu64 (by omega)
  have j9:Hid (IntKind.u64.wrap ((r:Int)+(v1:Int))=((r+v1:Nat):Int)):=show IntKind.u64.wrap ((r:Int)+(v1:Int))=((r+v1:Nat):Int)from by rw[←Int.natCast_add,wu64 (by omega)]
  have hdec:R<d*V*S→0<d∧d - 1<18446744073709551616∧(d - 1)*v1+(r+v1)=t∧r+v1<8589934592∧R<(d - 1+1)*V*S∧IntKind.u64.wrap ((d:Int) - 1)=((d - 1:Nat):Int):=fun h=>by
   have hd0:0<d:=by
    rcases Nat.eq_zero_or_pos d with rfl|h'
    ·rw[Nat.zero_mul,Nat.zero_mul]at h;exact absurd h (Nat.not_lt_zero _)
    ·exact h'
   have hd1:d - 1+1=d:=Nat.succ_pred_eq_of_pos hd0
   have hm:d*v1=(d - 1)*v1+v1:=by
    have:=Nat.succ_mul (d - 1) v1
    rw[Nat.succ_eq_add_one,hd1]at this;exact this
   refine⟨hd0,by omega,by omega,by omega,by rw[hd1];exact h, ?_⟩
   rw[show(d:Int) - 1=((d - 1:Nat):Int)from by omega,wu64 (by omega)]
  by_cases hdW:d<4294967296
  ·have t3:Hid (decide ((d:Int)≤4294967295)=true):=show decide ((d:Int)≤4294967295)=true from decide_eq_true (by omega)
   have hdv:d*v2≤4294967295*4294967295:=Nat.mul_le_mul (by omega) (by omega)
   have j7:Hid (IntKind.u64.wrap ((d:Int)*(v2:Int))=((d*v2:Nat):Int)):=show IntKind.u64.wrap ((d:Int)*(v2:Int))=((d*v2:Nat):Int)from by rw[←Int.natCast_mul,wu64 (by omega)]
   have j8:Hid (ior .u64 (ishl .u64 (r:Int) 32) (u0:Int)=((r*4294967296+u0:Nat):Int)):=show ior .u64 (ishl .u64 (r:Int) 32) (u0:Int)=((r*4294967296+u0:Nat):Int)from shl_ior hrW hu0a
   by_cases hg:d*v2≤r*4294967296+u0
   ·have t4:Hid (decide (((d*v2:Nat):Int)≤((r*4294967296+u0:Nat):Int))=true):=show decide (((d*v2:Nat):Int)≤((r*4294967296+u0:Nat):Int))=true from decide_eq_true (by omega)
    have hhi:d*V*S≤R+V*S:=long_high (W:=4294967296) hP hS (by decide) hdW (by rw[ht,hv1];exact hdr) (by rw[hu0,hv2];exact hg) hVW
    conv=>whnf
    (repeat((first|refine step_w1 rfl rfl ?_|refine step_i (by kernel_rfl) ?_|refine step_oL (by first|omega|decide|(simp only[tl0,dlen,List.length_replicate,List.length_set,List.length_map,List.length_zipWith,List.length_take,List.length_append,List.length_cons,List.length_nil];omega)) ?_|refine step_oM (by first|omega|decide|(simp only[tl0,dlen,List.length_replicate,List.length_set,List.length_map,List.length_zipWith,List.length_take,List.length_append,List.length_cons,List.length_nil];omega)) ?_|refine step_oA (by first|omega|decide|(simp only[tl0,dlen,List.length_replicate,List.length_set,List.length_map,List.length_zipWith,List.length_take,List.length_append,List.length_cons,List.length_nil];omega)) ?_|refine g_o (op_pickT rfl (ev_ok rfl) (ev_ok rfl)) ?_|rw[t2.out]|rw[t3.out]|rw[j2.out]|rw[j3.out]|rw[g5.out]|rw[j1.out]|rw[i2.out]|rw[j4.out]|rw[j5.out]|rw[g3.out]|rw[j6.out]|rw[j7.out]|rw[j8.out]|rw[t4.out]);conv=>whnf))
    have l1:Hid (IntKind.i64.wrap (((k+n:Nat):Int)+1)=((k+n+1:Nat):Int)):=show IntKind.i64.wrap (((k+n:Nat):Int)+1)=((k+n+1:Nat):Int)from by rw[wrap_i64 (by omega) (by omega)];omega
    have l2:Hid (0+(k:Int).toNat=k):=show 0+(k:Int).toNat=k from by omega
    have l3:Hid ((((k+n+1:Nat):Int) - (k:Int)).toNat=n+1):=show(((k+n+1:Nat):Int) - (k:Int)).toNat=n+1 from by omega
    have l4:Hid (IntKind.u32.wrap (d:Int)=(d:Int)):=show IntKind.u32.wrap (d:Int)=(d:Int)from wu32 hdW
    have l5:Hid (IntKind.i64.wrap ((k:Int) - 1)=(k:Int) - 1):=show IntKind.i64.wrap ((k:Int) - 1)=(k:Int) - 1 from wrap_i64 (by omega) (by omega)
    have kl:=c_less (l+1) k n R d V (digs V (n+1)) (by omega) (by omega) hRB (by omega) (by omega) hvw hvs hdW 2001 2002 (by decide)
    rw[hSd]at kl
    obtain⟨B,hB⟩:∃B,4294967296^(k+n+1)=B:=⟨_,rfl⟩
    have hDB:V*S≤B:=by rw[←hB,←hSd];exact hVSB
    have hRB':R<B:=by rw[←hB];exact hRB
    rw[hB]at kl
    have hq00:=hq0 k (Nat.lt_succ_self k)
    by_cases hneg:R<d*V*S
    ·have t5:Hid (decide (R<d*V*S)=true):=show decide (R<d*V*S)=true from decide_eq_true hneg
     rw[Nat.mul_assoc]at hneg hhi
     obtain⟨m1,m2,m3,hd0⟩:=long_neg hneg hhi hRB' hDB
     rw[←Nat.mul_assoc]at m1
     have hR1:(R+B - d*V*S) % B<4294967296^(k+n+1):=by rw[hB];exact Nat.mod_lt _ (Nat.lt_of_le_of_lt (Nat.zero_le _) hRB')
     obtain⟨R1,hR1d⟩:∃R1,(R+B - d*V*S) % B=R1:=⟨_,rfl⟩
     rw[hR1d]at kl m1 hR1
     have hus1:(digs R1 (l+1)).length=l+1:=digs_len _ _
     have husw:=digs_w32 R1 (l+1)
     have husv:=valI_digs_lo (L:=l+1) hR1 (by omega)
     have husz:∀j,k+n+1≤j→(digs R1 (l+1)).getD j 0=0:=fun j hj=>digs_hi hR1 hj
     have l6:Hid (IntKind.u64.wrap ((d:Int) - 1)=((d - 1:Nat):Int)):=show IntKind.u64.wrap ((d:Int) - 1)=((d - 1:Nat):Int)from by rw[show(d:Int) - 1=((d - 1:Nat):Int)from by omega,wu64 (by omega)]
     (repeat((first|refine step_w1 rfl rfl ?_|refine step_oA (by first|omega|decide|(simp only[tl0,dlen,List.length_replicate,List.length_set,List.length_map,List.length_zipWith,List.length_take,List.length_append,List.length_cons,List.length_nil];omega)) ?_|refine⟨[_,_],_,[],[_,_],(by assumption),two_fk rfl rfl,nil_new,two_upd (List.mem_cons_self ..) rfl rfl rfl (List.mem_cons_of_mem _ (List.mem_cons_self ..)) rfl rfl rfl, ?_⟩|rw[l1.out]|rw[l2.out]|rw[l3.out]|rw[t5.out]);conv=>whnf))
     rw[l6.out]
     generalize hus:digs R1 (l+1)=us at*
     refine SW_loopN hE (fun k=>k) [4,6,7,8,9,10,12,14,128,129,130] [0,1,39,2001,2002] (fun m fr hp=>∃(i:Nat) (o:List Int) (c:Nat),m=n - i∧i≤n∧o.length=l+1∧W32 o∧c≤1∧(∀j,k+i≤j→o.getD j 0=us.getD j 0)∧valI o (k+i)+c*4294967296^(k+i)=valI us (k+i)+valI (digs V (n+1)) i*4294967296^k∧
      fr=[(4,.slc 39 1 0 (l+1 - n)),(6,.val (.int .i64 s)),(7,.slc 2001 1 0 (l+1)),(8,.slc 2002 1 0 n),(9,.val (.int .i64 n)),(10,.val (.int .i64 k)),(12,.val (.int .u64 (d - 1:Nat))),(14,.val (.int .u32 c)),(128,.slc 2002 1 0 n),(129,.val (.int .i64 n)),(130,.val (.int .i64 i))]∧hp=[(0,⟨104,false,.ints .u32 xs⟩),(1,⟨104,false,.ints .u32 ys⟩),(39,⟨104,true,.ints .u32 q⟩),(2001,⟨104,true,.ints .u32 o⟩),(2002,⟨104,true,.ints .u32 (digs V (n+1))⟩)]) n ?_ ?_ ?_
     ·kernel_rfl
     ·exact⟨0,us,0,by omega,by omega,hus1,husw,by omega,(fun _ _=>rfl),by simp[valI],rfl,rfl⟩
     rintro m _ _ ⟨i,o,c,rfl,hi,hlen,hw,hc,hrest,hval,rfl,rfl⟩
     obtain⟨x,hx⟩:=Int.eq_ofNat_of_zero_le (husw (k+i)).1
     have hx2:=(husw (k+i)).2
     have hox:Hid (o.getD (k+i) 0=(x:Int)):=show o.getD (k+i) 0=(x:Int)from by rw[hrest _ (Nat.le_refl _)];exact hx
     by_cases hlt:i<n
     ·have t1:Hid (decide ((i:Int)<(n:Int))=true):=show decide ((i:Int)<(n:Int))=true from decide_eq_true (by omega)
      have f1:Hid (0+(i:Int).toNat=i):=show 0+(i:Int).toNat=i from by omega
      have f2:Hid (IntKind.i64.wrap ((k:Int)+(i:Int))=((k+i:Nat):Int)):=show IntKind.i64.wrap ((k:Int)+(i:Int))=((k+i:Nat):Int)from by rw[wrap_i64 (by omega) (by omega)];omega
      have f3:Hid (0+((k+i:Nat):Int).toNat=k+i):=show 0+((k+i:Nat):Int).toNat=k+i from by omega
      have f4:Hid (IntKind.i64.wrap ((i:Int)+1)=((i+1:Nat):Int)):=show IntKind.i64.wrap ((i:Int)+1)=((i+1:Nat):Int)from by rw[wrap_i64 (by omega) (by omega)];omega
      obtain⟨w,hww⟩:=Int.eq_ofNat_of_zero_le (hvw i).1
      have hw2:=(hvw i).2
      have f5:Hid ((digs V (n+1)).getD i 0=(w:Int)):=show(digs V (n+1)).getD i 0=(w:Int)from hww
      have k32:=c_Add32 x w c (by omega) (by omega) hc
      have hstep:=back_step (by omega) hx hww hval
      have hc':(x+w+c)/4294967296≤1:=by omega
      conv=>whnf
      (repeat((first|refine step_w1 rfl rfl ?_|refine step_oL (by first|omega|decide|(simp only[tl0,dlen,List.length_replicate,List.length_set,List.length_map,List.length_zipWith,List.length_take,List.length_append,List.length_cons,List.length_nil];omega)) ?_|refine step_oA (by first|omega|decide|(simp only[tl0,dlen,List.length_replicate,List.length_set,List.length_map,List.length_zipWith,List.length_take,List.length_append,List.length_cons,List.length_nil];omega)) ?_|refine g_c (by assumption) ?_|rw[t1.out]|rw[f1.out]|rw[f5.out]|rw[f2.out]|rw[f3.out]|rw[hox.out]);conv=>whnf))
      rw[f4.out]
      exact⟨n - (i+1),fun k=>k,[4,6,7,8,9,10,12,14,128,129,130],[0,1,39,2001,2002],by omega,by kernel_rfl,i+1,_,_,rfl,by omega,by simpa using hlen,hw.set (by omega) (by omega),hc',(fun j hj=>by rw[getD_set,if_neg (by omega)];exact hrest j (by omega)),hstep,rfl,rfl⟩
     ·have hi':i=n:=by omega
      subst hi'
      have t1:Hid (decide ((i:Int)<(i:Int))=false):=show decide ((i:Int)<(i:Int))=false from decide_eq_false (by omega)
      have f6:Hid (IntKind.u32.wrap ((x:Int)+(c:Int))=(((x+c) % 4294967296:Nat):Int)):=show IntKind.u32.wrap ((x:Int)+(c:Int))=(((x+c) % 4294967296:Nat):Int)from by rw[←Int.natCast_add,wu32m]
      have f7:Hid (IntKind.u32.wrap ((d - 1:Nat):Int)=((d - 1:Nat):Int)):=show IntKind.u32.wrap ((d - 1:Nat):Int)=((d - 1:Nat):Int)from wu32 (by omega)
      have hw':W32 (o.set (k+i) (((x+c) % 4294967296:Nat):Int)):=hw.set (by omega) (by omega)
      have hfin:=back_fin (by omega) hx hc (by omega) husv hvs hval hw'
      rw[hSd,hB,m1]at hfin
      have ho':=digs_low (L:=l+1) (by simpa using hlen) hw' (fun j hj=>by rw[getD_set,if_neg (by omega),hrest j (by omega)];exact husz j hj) (by omega) hfin
      obtain⟨p1,p2⟩:=long_end (U:=X*2^s) m2 m3 hXR
      conv=>whnf
      (repeat((first|refine step_w2 rfl rfl ?_|refine step_oL (by first|omega|decide|(simp only[tl0,dlen,List.length_replicate,List.length_set,List.length_map,List.length_zipWith,List.length_take,List.length_append,List.length_cons,List.length_nil];omega)) ?_|refine step_oA (by first|omega|decide|(simp only[tl0,dlen,List.length_replicate,List.length_set,List.length_map,List.length_zipWith,List.length_take,List.length_append,List.length_cons,List.length_nil];omega)) ?_|rw[t1.out]|rw[i2.out]|rw[i3.out]|rw[hox.out]|rw[f6.out]|rw[f7.out]|rw[l2.out]);conv=>whnf))
      rw[l5.out,ho']
      exact⟨k,fun k=>k,[4,6,7,8,9,10],[0,1,39,2001,2002],by omega,by kernel_rfl,R - (d - 1)*(V*S),Qv+(d - 1)*S,q.set k ((d - 1:Nat):Int),by omega,by rw[hSd];exact p1,p2,by simpa using hql,hqw.set (by omega) (by omega),(fun j hj=>by rw[getD_set,if_neg (by omega)];exact hq0 j (by omega)),by rw[valI_set (by omega) (by omega),hqv,hq00,←natPowW,hSd,Int.sub_zero,←Int.natCast_mul,←Int.natCast_add],rfl,rfl⟩
    ·have t5:Hid (decide (R<d*V*S)=false):=show decide (R<d*V*S)=false from decide_eq_false hneg
     rw[Nat.mul_assoc]at hneg hlo
     have hneg':=Nat.le_of_not_lt hneg
     have hpos:=long_pos (d:=d) (D:=V*S) hneg' hRB'
     rw[←Nat.mul_assoc]at hpos
     rw[hpos]at kl
     obtain⟨p1,p2⟩:=long_end (U:=X*2^s) hneg' hlo hXR
     rw[←Nat.mul_assoc]at p1 p2
     (repeat((first|refine step_w2 rfl rfl ?_|refine step_oL (by first|omega|decide|(simp only[tl0,dlen,List.length_replicate,List.length_set,List.length_map,List.length_zipWith,List.length_take,List.length_append,List.length_cons,List.length_nil];omega)) ?_|refine step_oA (by first|omega|decide|(simp only[tl0,dlen,List.length_replicate,List.length_set,List.length_map,List.length_zipWith,List.length_take,List.length_append,List.length_cons,List.length_nil];omega)) ?_|refine⟨[_,_],_,[],[_,_],(by assumption),two_fk rfl rfl,nil_new,two_upd (List.mem_cons_self ..) rfl rfl rfl (List.mem_cons_of_mem _ (List.mem_cons_self ..)) rfl rfl rfl, ?_⟩|rw[l1.out]|rw[l2.out]|rw[l3.out]|rw[t5.out]|rw[l4.out]);conv=>whnf))
     rw[l5.out]
     exact⟨k,fun k=>k,[4,6,7,8,9,10],[0,1,39,2001,2002],by omega,by kernel_rfl,R - d*V*S,Qv+d*S,q.set k (d:Int),by omega,by rw[hSd];exact p1,p2,by simpa using hql,hqw.set (by omega) (by omega),(fun j hj=>by rw[getD_set,if_neg (by omega)];exact hq0 j (by omega)),by rw[valI_set (by omega) (by omega),hqv,hq00,←natPowW,hSd,Int.sub_zero,←Int.natCast_mul,←Int.natCast_add],rfl,rfl⟩
   ·have t4:Hid (decide (((d*v2:Nat):Int)≤((r*4294967296+u0:Nat):Int))=false):=show decide (((d*v2:Nat):Int)≤((r*4294967296+u0:Nat):Int))=false from decide_eq_false (by omega)
    have hlow:R<d*V*S:=long_low (W:=4294967296) hP hS (by decide) (by rw[ht,hv1];exact hdr) (by rw[hu0,hv2];omega)
    obtain⟨n1,n2,n3,n4,n5,n6⟩:=hdec hlow
    conv=>whnf
    (repeat((first|refine step_w1 rfl rfl ?_|refine step_w2 rfl rfl ?_|refine step_i (by kernel_rfl) ?_|refine step_oL (by first|omega|decide|(simp only[tl0,dlen,List.length_replicate,List.length_set,List.length_map,List.length_zipWith,List.length_take,List.length_append,List.length_cons,List.length_nil];omega)) ?_|refine step_oM (by first|omega|decide|(simp only[tl0,dlen,List.length_replicate,List.length_set,List.length_map,List.length_zipWith,List.length_take,List.length_append,List.length_cons,List.length_nil];omega)) ?_|refine step_oA (by first|omega|decide|(simp only[tl0,dlen,List.length_replicate,List.length_set,List.length_map,List.length_zipWith,List.length_take,List.length_append,List.length_cons,List.length_nil];omega)) ?_|refine g_o (op_pickT rfl (ev_ok rfl) (ev_ok rfl)) ?_|rw[t2.out]|rw[t3.out]|rw[j2.out]|rw[j3.out]|rw[g5.out]|rw[j1.out]|rw[i2.out]|rw[j4.out]|rw[j5.out]|rw[g3.out]|rw[j6.out]|rw[j7.out]|rw[j8.out]|rw[t4.out]|rw[e0.out]|rw[e1.out]|rw[g4.out]|rw[i9.out]);conv=>whnf))
    rw[j9.out,n6]
    exact⟨d - 1,fun k=>k,[4,6,7,8,9,10,12,13],[0,1,39,2001,2002],by omega,by kernel_rfl,r+v1,n2,n3,n4,n5,rfl,rfl⟩
  ·have t3:Hid (decide ((d:Int)≤4294967295)=false):=show decide ((d:Int)≤4294967295)=false from decide_eq_false (by omega)
   have hlow:R<d*V*S:=by
    have h1:4294967296*(V*S)≤d*(V*S):=Nat.mul_le_mul_right _ (by omega)
    rw[Nat.mul_assoc]
    refine Nat.lt_of_lt_of_le hR' (Nat.le_trans (Nat.le_of_eq ?_) h1)
    rw[Nat.mul_comm 4294967296,Nat.mul_assoc]
   obtain⟨n1,n2,n3,n4,n5,n6⟩:=hdec hlow
   conv=>whnf
   (repeat((first|refine step_w1 rfl rfl ?_|refine step_w2 rfl rfl ?_|refine step_i (by kernel_rfl) ?_|refine step_oL (by first|omega|decide|(simp only[tl0,dlen,List.length_replicate,List.length_set,List.length_map,List.length_zipWith,List.length_take,List.length_append,List.length_cons,List.length_nil];omega)) ?_|refine step_oA (by first|omega|decide|(simp only[tl0,dlen,List.length_replicate,List.length_set,List.length_map,List.length_zipWith,List.length_take,List.length_append,List.length_cons,List.length_nil];omega)) ?_|refine g_o (op_pickF rfl (ev_ok rfl) (ev_ok rfl)) ?_|rw[t2.out]|rw[t3.out]|rw[e0.out]|rw[e1.out]|rw[g4.out]|rw[i9.out]);conv=>whnf))
   rw[j9.out,n6]
   exact⟨d - 1,fun k=>k,[4,6,7,8,9,10,12,13],[0,1,39,2001,2002],by omega,by kernel_rfl,r+v1,n2,n3,n4,n5,rfl,rfl⟩
 ·have t2:Hid (decide ((r:Int)≤4294967295)=false):=show decide ((r:Int)≤4294967295)=false from decide_eq_false (by omega)
  have hdW:d<4294967296:=long_small (W:=4294967296) hP hS (by decide) (by rw[ht,hv1];exact hdr) (by omega) hR'
  have hhi:d*V*S≤R+V*S:=Nat.le_trans (long_rest (W:=4294967296) hP hS (by decide) hdW (by rw[ht,hv1];exact hdr) (by omega)) (Nat.le_add_right _ _)
  conv=>whnf
  (repeat(first|(refine step_w2 rfl rfl ?_;conv=>whnf)|(rw[t2.out];conv=>whnf)))
  have l1:Hid (IntKind.i64.wrap (((k+n:Nat):Int)+1)=((k+n+1:Nat):Int)):=show IntKind.i64.wrap (((k+n:Nat):Int)+1)=((k+n+1:Nat):Int)from by rw[wrap_i64 (by omega) (by omega)];omega
  have l2:Hid (0+(k:Int).toNat=k):=show 0+(k:Int).toNat=k from by omega
  have l3:Hid ((((k+n+1:Nat):Int) - (k:Int)).toNat=n+1):=show(((k+n+1:Nat):Int) - (k:Int)).toNat=n+1 from by omega
  have l4:Hid (IntKind.u32.wrap (d:Int)=(d:Int)):=show IntKind.u32.wrap (d:Int)=(d:Int)from wu32 hdW
  have l5:Hid (IntKind.i64.wrap ((k:Int) - 1)=(k:Int) - 1):=show IntKind.i64.wrap ((k:Int) - 1)=(k:Int) - 1 from wrap_i64 (by omega) (by omega)
  have kl:=c_less (l+1) k n R d V (digs V (n+1)) (by omega) (by omega) hRB (by omega) (by omega) hvw hvs hdW 2001 2002 (by decide)
  rw[hSd]at kl
  obtain⟨B,hB⟩:∃B,4294967296^(k+n+1)=B:=⟨_,rfl⟩
  have hDB:V*S≤B:=by rw[←hB,←hSd];exact hVSB
  have hRB':R<B:=by rw[←hB];exact hRB
  rw[hB]at kl
  have hq00:=hq0 k (Nat.lt_succ_self k)
  by_cases hneg:R<d*V*S
  ·have t5:Hid (decide (R<d*V*S)=true):=show decide (R<d*V*S)=true from decide_eq_true hneg
   rw[Nat.mul_assoc]at hneg hhi
   obtain⟨m1,m2,m3,hd0⟩:=long_neg hneg hhi hRB' hDB
   rw[←Nat.mul_assoc]at m1
   have hR1:(R+B - d*V*S) % B<4294967296^(k+n+1):=by rw[hB];exact Nat.mod_lt _ (Nat.lt_of_le_of_lt (Nat.zero_le _) hRB')
   obtain⟨R1,hR1d⟩:∃R1,(R+B - d*V*S) % B=R1:=⟨_,rfl⟩
   rw[hR1d]at kl m1 hR1
   have hus1:(digs R1 (l+1)).length=l+1:=digs_len _ _
   have husw:=digs_w32 R1 (l+1)
   have husv:=valI_digs_lo (L:=l+1) hR1 (by omega)
   have husz:∀j,k+n+1≤j→(digs R1 (l+1)).getD j 0=0:=fun j hj=>digs_hi hR1 hj
   have l6:Hid (IntKind.u64.wrap ((d:Int) - 1)=((d - 1:Nat):Int)):=show IntKind.u64.wrap ((d:Int) - 1)=((d - 1:Nat):Int)from by rw[show(d:Int) - 1=((d - 1:Nat):Int)from by omega,wu64 (by omega)]
   (repeat((first|refine step_w1 rfl rfl ?_|refine step_oA (by first|omega|decide|(simp only[tl0,dlen,List.length_replicate,List.length_set,List.length_map,List.length_zipWith,List.length_take,List.length_append,List.length_cons,List.length_nil];omega)) ?_|refine⟨[_,_],_,[],[_,_],(by assumption),two_fk rfl rfl,nil_new,two_upd (List.mem_cons_self ..) rfl rfl rfl (List.mem_cons_of_mem _ (List.mem_cons_self ..)) rfl rfl rfl, ?_⟩|rw[i2.out]|rw[l1.out]|rw[l2.out]|rw[l3.out]|rw[t5.out]);conv=>whnf))
   rw[l6.out]
   generalize hus:digs R1 (l+1)=us at*
   refine SW_loopN hE (fun k=>k) [4,6,7,8,9,10,12,14,128,129,130] [0,1,39,2001,2002] (fun m fr hp=>∃(i:Nat) (o:List Int) (c:Nat),m=n - i∧i≤n∧o.length=l+1∧W32 o∧c≤1∧(∀j,k+i≤j→o.getD j 0=us.getD j 0)∧valI o (k+i)+c*4294967296^(k+i)=valI us (k+i)+valI (digs V (n+1)) i*4294967296^k∧
    fr=[(4,.slc 39 1 0 (l+1 - n)),(6,.val (.int .i64 s)),(7,.slc 2001 1 0 (l+1)),(8,.slc 2002 1 0 n),(9,.val (.int .i64 n)),(10,.val (.int .i64 k)),(12,.val (.int .u64 (d - 1:Nat))),(14,.val (.int .u32 c)),(128,.slc 2002 1 0 n),(129,.val (.int .i64 n)),(130,.val (.int .i64 i))]∧hp=[(0,⟨104,false,.ints .u32 xs⟩),(1,⟨104,false,.ints .u32 ys⟩),(39,⟨104,true,.ints .u32 q⟩),(2001,⟨104,true,.ints .u32 o⟩),(2002,⟨104,true,.ints .u32 (digs V (n+1))⟩)]) n ?_ ?_ ?_
   ·kernel_rfl
   ·exact⟨0,us,0,by omega,by omega,hus1,husw,by omega,(fun _ _=>rfl),by simp[valI],rfl,rfl⟩
   rintro m _ _ ⟨i,o,c,rfl,hi,hlen,hw,hc,hrest,hval,rfl,rfl⟩
   obtain⟨x,hx⟩:=Int.eq_ofNat_of_zero_le (husw (k+i)).1
   have hx2:=(husw (k+i)).2
   have hox:Hid (o.getD (k+i) 0=(x:Int)):=show o.getD (k+i) 0=(x:Int)from by rw[hrest _ (Nat.le_refl _)];exact hx
   by_cases hlt:i<n
   ·have t1:Hid (decide ((i:Int)<(n:Int))=true):=show decide ((i:Int)<(n:Int))=true from decide_eq_true (by omega)
    have f1:Hid (0+(i:Int).toNat=i):=show 0+(i:Int).toNat=i from by omega
    have f2:Hid (IntKind.i64.wrap ((k:Int)+(i:Int))=((k+i:Nat):Int)):=show IntKind.i64.wrap ((k:Int)+(i:Int))=((k+i:Nat):Int)from by rw[wrap_i64 (by omega) (by omega)];omega
    have f3:Hid (0+((k+i:Nat):Int).toNat=k+i):=show 0+((k+i:Nat):Int).toNat=k+i from by omega
    have f4:Hid (IntKind.i64.wrap ((i:Int)+1)=((i+1:Nat):Int)):=show IntKind.i64.wrap ((i:Int)+1)=((i+1:Nat):Int)from by rw[wrap_i64 (by omega) (by omega)];omega
    obtain⟨w,hww⟩:=Int.eq_ofNat_of_zero_le (hvw i).1
    have hw2:=(hvw i).2
    have f5:Hid ((digs V (n+1)).getD i 0=(w:Int)):=show(digs V (n+1)).getD i 0=(w:Int)from hww
    have k32:=c_Add32 x w c (by omega) (by omega) hc
    have hstep:=back_step (by omega) hx hww hval
    have hc':(x+w+c)/4294967296≤1:=by omega
    conv=>whnf
    (repeat((first|refine step_w1 rfl rfl ?_|refine step_oL (by first|omega|decide|(simp only[tl0,dlen,List.length_replicate,List.length_set,List.length_map,List.length_zipWith,List.length_take,List.length_append,List.length_cons,List.length_nil];omega)) ?_|refine step_oA (by first|omega|decide|(simp only[tl0,dlen,List.length_replicate,List.length_set,List.length_map,List.length_zipWith,List.length_take,List.length_append,List.length_cons,List.length_nil];omega)) ?_|refine g_c (by assumption) ?_|rw[t1.out]|rw[f1.out]|rw[f5.out]|rw[f2.out]|rw[f3.out]|rw[hox.out]);conv=>whnf))
    rw[f4.out]
    exact⟨n - (i+1),fun k=>k,[4,6,7,8,9,10,12,14,128,129,130],[0,1,39,2001,2002],by omega,by kernel_rfl,i+1,_,_,rfl,by omega,by simpa using hlen,hw.set (by omega) (by omega),hc',(fun j hj=>by rw[getD_set,if_neg (by omega)];exact hrest j (by omega)),hstep,rfl,rfl⟩
   ·have hi':i=n:=by omega
    subst hi'
    have t1:Hid (decide ((i:Int)<(i:Int))=false):=show decide ((i:Int)<(i:Int))=false from decide_eq_false (by omega)
    have f6:Hid (IntKind.u32.wrap ((x:Int)+(c:Int))=(((x+c) % 4294967296:Nat):Int)):=show IntKind.u32.wrap ((x:Int)+(c:Int))=(((x+c) % 4294967296:Nat):Int)from by rw[←Int.natCast_add,wu32m]
    have f7:Hid (IntKind.u32.wrap ((d - 1:Nat):Int)=((d - 1:Nat):Int)):=show IntKind.u32.wrap ((d - 1:Nat):Int)=((d - 1:Nat):Int)from wu32 (by omega)
    have hw':W32 (o.set (k+i) (((x+c) % 4294967296:Nat):Int)):=hw.set (by omega) (by omega)
    have hfin:=back_fin (by omega) hx hc (by omega) husv hvs hval hw'
    rw[hSd,hB,m1]at hfin
    have ho':=digs_low (L:=l+1) (by simpa using hlen) hw' (fun j hj=>by rw[getD_set,if_neg (by omega),hrest j (by omega)];exact husz j hj) (by omega) hfin
    obtain⟨p1,p2⟩:=long_end (U:=X*2^s) m2 m3 hXR
    conv=>whnf
    (repeat((first|refine step_w2 rfl rfl ?_|refine step_oL (by first|omega|decide|(simp only[tl0,dlen,List.length_replicate,List.length_set,List.length_map,List.length_zipWith,List.length_take,List.length_append,List.length_cons,List.length_nil];omega)) ?_|refine step_oA (by first|omega|decide|(simp only[tl0,dlen,List.length_replicate,List.length_set,List.length_map,List.length_zipWith,List.length_take,List.length_append,List.length_cons,List.length_nil];omega)) ?_|rw[t1.out]|rw[i2.out]|rw[i3.out]|rw[hox.out]|rw[f6.out]|rw[f7.out]|rw[l2.out]);conv=>whnf))
    rw[l5.out,ho']
    exact⟨k,fun k=>k,[4,6,7,8,9,10],[0,1,39,2001,2002],by omega,by kernel_rfl,R - (d - 1)*(V*S),Qv+(d - 1)*S,q.set k ((d - 1:Nat):Int),by omega,by rw[hSd];exact p1,p2,by simpa using hql,hqw.set (by omega) (by omega),(fun j hj=>by rw[getD_set,if_neg (by omega)];exact hq0 j (by omega)),by rw[valI_set (by omega) (by omega),hqv,hq00,←natPowW,hSd,Int.sub_zero,←Int.natCast_mul,←Int.natCast_add],rfl,rfl⟩
  ·have t5:Hid (decide (R<d*V*S)=false):=show decide (R<d*V*S)=false from decide_eq_false hneg
   rw[Nat.mul_assoc]at hneg hlo
   have hneg':=Nat.le_of_not_lt hneg
   have hpos:=long_pos (d:=d) (D:=V*S) hneg' hRB'
   rw[←Nat.mul_assoc]at hpos
   rw[hpos]at kl
   obtain⟨p1,p2⟩:=long_end (U:=X*2^s) hneg' hlo hXR
   rw[←Nat.mul_assoc]at p1 p2
   (repeat((first|refine step_w2 rfl rfl ?_|refine step_oL (by first|omega|decide|(simp only[tl0,dlen,List.length_replicate,List.length_set,List.length_map,List.length_zipWith,List.length_take,List.length_append,List.length_cons,List.length_nil];omega)) ?_|refine step_oA (by first|omega|decide|(simp only[tl0,dlen,List.length_replicate,List.length_set,List.length_map,List.length_zipWith,List.length_take,List.length_append,List.length_cons,List.length_nil];omega)) ?_|refine⟨[_,_],_,[],[_,_],(by assumption),two_fk rfl rfl,nil_new,two_upd (List.mem_cons_self ..) rfl rfl rfl (List.mem_cons_of_mem _ (List.mem_cons_self ..)) rfl rfl rfl, ?_⟩|rw[i2.out]|rw[l1.out]|rw[l2.out]|rw[l3.out]|rw[t5.out]|rw[l4.out]);conv=>whnf))
   rw[l5.out]
   exact⟨k,fun k=>k,[4,6,7,8,9,10],[0,1,39,2001,2002],by omega,by kernel_rfl,R - d*V*S,Qv+d*S,q.set k (d:Int),by omega,by rw[hSd];exact p1,p2,by simpa using hql,hqw.set (by omega) (by omega),(fun j hj=>by rw[getD_set,if_neg (by omega)];exact hq0 j (by omega)),by rw[valI_set (by omega) (by omega),hqv,hq00,←natPowW,hSd,Int.sub_zero,←Int.natCast_mul,←Int.natCast_add],rfl,rfl⟩
end Go.Proofs.YthaeohlijigplaaGreat
