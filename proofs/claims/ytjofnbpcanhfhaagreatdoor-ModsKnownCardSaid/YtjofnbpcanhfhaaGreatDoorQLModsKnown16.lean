/- The texts Ra, Eg, Eh, Ei, Fa. -/
import Derived.Test.YtjofnbpcanhfhaaGreatDoorQLModsKnown15
namespace Go.Proofs.YtjofnbpcanhfhaaGreatDoor
open Go.Sx
set_option linter.unusedSimpArgs false
set_option linter.unusedVariables false
set_option maxRecDepth 100000
set_option maxHeartbeats 4000000
def tdF:Nat→Nat→List Nat
 |0,_=>[]
 |f+1,n=>if n=0 then[]else n % 10000::tdF f (n/10000)
def tdW (n:Nat):List Nat:=tdF n n
theorem tdF_lt:∀(f n w:Nat),w∈tdF f n→w<10000
 |0,_,w,h=>by cases h
 |f+1,n,w,h=>by
  rw[tdF]at h
  split at h
  ·cases h
  ·rcases List.mem_cons.1 h with rfl|h
   ·omega
   ·exact tdF_lt f _ w h
theorem tdW_lt {n w:Nat} (h:w∈tdW n):w<10000:=tdF_lt n n w h
def valT (xs:List Int):Nat→Int
 |0=>0
 |k+1=>valT xs k+xs.getD k 0*10000^k
def W4 (xs:List Int):Prop:=∀i,0≤xs.getD i 0∧xs.getD i 0<10000
theorem W4.set {xs:List Int} (h:W4 xs) {i:Nat} {v:Int} (h0:0≤v) (h1:v<10000):W4 (xs.set i v):=by
 intro j
 rw[getD_set]
 split
 ·exact⟨h0,h1⟩
 ·exact h j
theorem W4_of {xs:List Int} (h:∀x∈xs,0≤x∧x<10000):W4 xs:=by
 intro i
 rw[List.getD_eq_getElem?_getD]
 cases hx:xs[i]? with
 |none=>simp
 |some v=>simpa using h v (List.mem_of_getElem? hx)
theorem W4.mem {xs:List Int} (h:W4 xs):∀x∈xs,0≤x∧x<10000:=by
 intro x hx
 obtain⟨i,hi⟩:=List.getElem?_of_mem hx
 have:=h i
 rw[List.getD_eq_getElem?_getD,hi]at this
 exact this
theorem valT_congr {xs ys:List Int}:∀{k:Nat},(∀i,i<k→xs.getD i 0=ys.getD i 0)→valT xs k=valT ys k
 |0,_=>rfl
 |k+1,h=>by rw[valT,valT,valT_congr (fun i hi=>h i (by omega)),h k (by omega)]
theorem valT_set_ge {xs:List Int} {i k:Nat} {v:Int} (h:k≤i):valT (xs.set i v) k=valT xs k:=
 valT_congr fun j hj=>by rw[getD_set,if_neg (by omega)]
theorem valT_nonneg {xs:List Int} (h:W4 xs):∀k,0≤valT xs k
 |0=>Int.le_refl _
 |k+1=>by
  have:=valT_nonneg h k
  have h1:0≤xs.getD k 0*10000^k:=Int.mul_nonneg (h k).1 (Int.pow_nonneg (by decide))
  rw[valT];omega
theorem powT_pos (k:Nat):(0:Int)<10000^k:=Int.pow_pos (by decide)
theorem valT_lt {xs:List Int} (h:W4 xs):∀k,valT xs k<10000^k
 |0=>by simp[valT]
 |k+1=>by
  have h1:=valT_lt h k
  have h2:xs.getD k 0*10000^k≤9999*10000^k:=Int.mul_le_mul_of_nonneg_right (by have:=(h k).2;omega) (Int.le_of_lt (powT_pos k))
  rw[valT,Int.pow_succ];omega
theorem valT_zeros {xs:List Int} {k:Nat}:∀{n:Nat},(∀i,k≤i→i<n→xs.getD i 0=0)→k≤n→valT xs n=valT xs k
 |0,_,hk=>by obtain rfl:k=0:=by omega
             rfl
 |n+1,h,hk=>by
  by_cases he:k=n+1
  ·subst he;rfl
  ·rw[valT,h n (by omega) (by omega),valT_zeros (n:=n) (fun i h1 h2=>h i h1 (by omega)) (by omega),Int.zero_mul,Int.add_zero]
theorem valT_ge {xs:List Int} (h:W4 xs) {k:Nat} (ht:xs.getD k 0≠0):10000^k≤valT xs (k+1):=by
 have h1:=valT_nonneg h k
 have h2:1*10000^k≤xs.getD k 0*10000^k:=Int.mul_le_mul_of_nonneg_right (by have:=(h k).1;omega) (Int.le_of_lt (powT_pos k))
 rw[valT];omega
theorem tdF_eq:∀(f g n:Nat),n≤f→n≤g→tdF f n=tdF g n
 |0,0,_,_,_=>rfl
 |0,g+1,n,h,_=>by obtain rfl:n=0:=by omega
                  simp[tdF]
 |f+1,0,n,_,h=>by obtain rfl:n=0:=by omega
                  simp[tdF]
 |f+1,g+1,n,h,h'=>by
  unfold tdF
  split
  ·rfl
  ·rw[tdF_eq f g (n/10000) (by omega) (by omega)]
theorem tdW_succ {n:Nat} (h:n≠0):tdW n=n % 10000::tdW (n/10000):=by
 unfold tdW
 obtain⟨m,rfl⟩:∃m,n=m+1:=⟨n - 1,by omega⟩
 rw[tdF,if_neg h,tdF_eq m ((m+1)/10000) _ (by omega) (Nat.le_refl _)]
def td (n:Nat):List Int:=(tdW n).map Int.ofNat
theorem td_zero:td 0=[]:=rfl
theorem td_succ {n:Nat} (h:n≠0):td n=((n % 10000:Nat):Int)::td (n/10000):=by
 rw[td,tdW_succ h];rfl
theorem valT_cons (x:Int) (xs:List Int):∀k,valT (x::xs) (k+1)=x+10000*valT xs k
 |0=>by simp[valT]
 |k+1=>by
  rw[valT,valT_cons x xs k,valT,List.getD_cons_succ,Int.pow_succ]
  grind
theorem td_val (n:Nat):valT (td n) (td n).length=n:=by
 induction n using Nat.strongRecOn with
 |_ n ih=>
  by_cases h:n=0
  ·subst h;rfl
  ·rw[td_succ h,List.length_cons,valT_cons,ih _ (by omega)];omega
theorem td_w32 (n:Nat):W4 (td n):=by
 refine W4_of fun x hx=> ?_
 obtain⟨w,hw,rfl⟩:=List.mem_map.1 hx
 have:=tdW_lt hw
 exact⟨Int.natCast_nonneg _,by show(w:Int)<_;omega⟩
theorem td_top {n:Nat} (h:n≠0):(td n).length≠0∧(td n).getD ((td n).length - 1) 0≠0:=by
 induction n using Nat.strongRecOn with
 |_ n ih=>
  rw[td_succ h]
  refine⟨by simp, ?_⟩
  by_cases h1:n/10000=0
  ·rw[h1,td_zero]
   simp only[List.length_singleton,Nat.sub_self,List.getD_cons_zero]
   omega
  ·obtain⟨h2,h3⟩:=ih _ (by omega) h1
   obtain⟨l,hl⟩:∃l,(td (n/10000)).length=l+1:=⟨(td (n/10000)).length - 1,by omega⟩
   simp only[List.length_cons,hl,Nat.add_sub_cancel,List.getD_cons_succ]
   rw[hl]at h3
   simpa using h3
theorem td_of:∀(k:Nat) (xs:List Int),W4 xs→k≤xs.length→(k=0∨xs.getD (k - 1) 0≠0)→td (valT xs k).toNat=xs.take k
 |0,xs,_,_,_=>by simp[valT,td_zero]
 |k+1,[],_,h,_=>by simp at h
 |k+1,x::xs,hw,h,ht=>by
  have hx:=hw 0
  simp only[List.getD_cons_zero]at hx
  have hws:W4 xs:=fun i=>by have:=hw (i+1);simpa using this
  have hv:=valT_nonneg hws k
  have hrec:=td_of k xs hws (by simpa using h) (by
   cases k with
   |zero=>exact .inl rfl
   |succ k=>right;have:=ht.resolve_left (by omega);simpa using this)
  have hn:(valT (x::xs) (k+1)).toNat≠0:=by
   have ht':=ht.resolve_left (by omega)
   have:=valT_ge hw (k:=k) (by simpa using ht')
   have:=powT_pos k
   omega
  rw[td_succ hn,valT_cons,List.take_succ_cons]
  have e1:(x+10000*valT xs k).toNat % 10000=x.toNat:=by omega
  have e2:(x+10000*valT xs k).toNat/10000=(valT xs k).toNat:=by omega
  rw[e1,e2,hrec]
  congr 1
  omega
theorem natPowT (k:Nat):(((10000^k:Nat)):Int)=(10000:Int)^k:=by rw[Int.natCast_pow];rfl
theorem tlen_le {n k:Nat} (h:n<10000^k):(td n).length≤k:=by
 by_cases hn:n=0
 ·subst hn;simp[td_zero]
 ·obtain⟨h1,h2⟩:=td_top hn
  obtain⟨l,hl⟩:∃l,(td n).length=l+1:=⟨(td n).length - 1,by omega⟩
  rw[hl]at h2
  have h3:=valT_ge (td_w32 n) (k:=l) (by simpa using h2)
  rw[←hl,td_val]at h3
  refine Nat.le_of_not_lt fun hlt=> ?_
  have h4:(10000:Int)^k≤10000^l:=by
   have:(10000:Nat)^k≤10000^l:=Nat.pow_le_pow_right (by decide) (by omega)
   rw[←natPowT,←natPowT];exact Int.ofNat_le.2 this
  have h5:(n:Int)<10000^k:=by rw[←natPowT];exact Int.ofNat_lt.2 h
  omega
theorem tlt_len (n:Nat):n<10000^(td n).length:=by
 have:=valT_lt (td_w32 n) (td n).length
 rw[td_val,←natPowT]at this
 exact Int.ofNat_lt.1 this
theorem valT_mod {xs:List Int} (hx:W4 xs) {n:Nat}:∀{k:Nat},k≤n→valT xs n % 10000^k=valT xs k:=by
 intro k hk
 induction n with
 |zero=>
  obtain rfl:k=0:=by omega
  simp[valT]
 |succ n ih=>
  by_cases he:k=n+1
  ·subst he
   exact Int.emod_eq_of_lt (valT_nonneg hx _) (valT_lt hx _)
  ·rw[valT,show n=k+(n - k)from by omega,Int.pow_add,←show n=k+(n - k)from by omega,Int.mul_left_comm,Int.add_mul_emod_self_left]
   exact ih (by omega)
theorem valT_div {xs:List Int} (hx:W4 xs) {i n:Nat} (h:i<n):valT xs n/10000^i % 10000=xs.getD i 0:=by
 have h1:=valT_mod hx (n:=n) (k:=i+1) (by omega)
 have hp:=powT_pos i
 have e:valT xs n=valT xs (i+1)+10000^(i+1)*(valT xs n/10000^(i+1)):=by
  rw[←h1];exact(Int.emod_add_mul_ediv _ _).symm
 have h0:=valT_nonneg hx i
 have hl:=valT_lt hx i
 have e2:valT xs n=valT xs i+10000^i*(xs.getD i 0+10000*(valT xs n/10000^(i+1))):=by
  conv=>lhs;rw[e]
  rw[valT,Int.pow_succ]
  grind
 rw[e2,Int.add_mul_ediv_left _ _ (by omega),Int.ediv_eq_zero_of_lt h0 hl,Int.zero_add,Int.add_mul_emod_self_left]
 exact Int.emod_eq_of_lt (hx i).1 (hx i).2
theorem valT_set {xs:List Int} {i:Nat} {v:Int}:∀{n:Nat},i<n→i<xs.length→valT (xs.set i v) n=valT xs n+(v - xs.getD i 0)*10000^i
 |0,h,_=>by omega
 |n+1,h,hl=>by
  by_cases he:i=n
  ·subst he
   rw[valT,valT,valT_set_ge (Nat.le_refl _),getD_set,if_pos ⟨rfl,hl⟩];grind
  ·rw[valT,valT,valT_set (n:=n) (by omega) hl,getD_set,if_neg (by omega)];grind
abbrev nN (n:Nat):SV:=ivec .i64 (td n)
theorem td_is {x:List Int} (hw:W4 x) (h:x.length=0∨x.getD (x.length - 1) 0≠0):td (valT x x.length).toNat=x:=by
 rw[td_of x.length x hw (Nat.le_refl _) h,List.take_length]
theorem td_valN (n k:Nat) (h:(td n).length≤k):valT (td n) k=n:=by
 rw[valT_zeros (k:=(td n).length) (fun i h1 _=>getD_ge h1) h,td_val]
theorem valT_take {x:List Int} {k j:Nat} (h:j≤k):valT (x.take k) j=valT x j:=valT_congr fun i hi=>by rw[getD_take,if_pos (by omega)]
theorem W4_take {x:List Int} (h:W4 x) (k:Nat):W4 (x.take k):=by
 intro i;rw[getD_take];split
 ·exact h i
 ·omega
theorem valT_last {x:List Int} (h0:0<x.length) (hz:x.getD (x.length - 1) 0=0):valT (x.take (x.length - 1)) (x.take (x.length - 1)).length=valT x x.length:=by
 have hl:(x.take (x.length - 1)).length=x.length - 1:=by simp
 rw[hl,valT_take (Nat.le_refl _)]
 exact(valT_zeros (k:=x.length - 1) (n:=x.length) (fun i h1 h2=>by
  have:i=x.length - 1:=by omega
  rw[this];exact hz) (by omega)).symm
theorem W4_snoc {x:List Int} (h:W4 x) {d:Int} (h0:0≤d) (h1:d<10000):W4 (x++[d]):=W4_of fun y hy=>by
 rcases List.mem_append.1 hy with hy|hy
 ·exact h.mem y hy
 ·rw[List.mem_singleton.1 hy];exact⟨h0,h1⟩
theorem valT_snoc (x:List Int) (d:Int):valT (x++[d]) (x.length+1)=valT x x.length+d*10000^x.length:=by
 rw[valT,getD_append,if_neg (by omega),Nat.sub_self,valT_congr (ys:=x) (k:=x.length) (fun i hi=>by rw[getD_append,if_pos hi])]
 rfl
theorem td_lt_pow {n k:Nat} (h:(td n).length≤k):n<10000^k:=Nat.lt_of_lt_of_le (tlt_len n) (Nat.pow_le_pow_right (by decide) h)
theorem td_ge_pow {n:Nat} (h:n≠0):10000^((td n).length - 1)≤n:=by
 obtain⟨h1,h2⟩:=td_top h
 have h3:=valT_ge (td_w32 n) h2
 rw[show(td n).length - 1+1=(td n).length by omega,td_val,←natPowT]at h3
 omega
theorem td_len_mono {a b:Nat} (h:a≤b):(td a).length≤(td b).length:=tlen_le (Nat.lt_of_le_of_lt h (tlt_len b))
theorem td_len_lt {a b:Nat} (h:(td a).length<(td b).length):a<b:=by
 rcases Nat.lt_or_ge a b with g|g
 ·exact g
 ·have:=td_len_mono g;omega
theorem td_len_zero {n:Nat}:(td n).length=0↔n=0:=by
 constructor
 ·intro h
  rcases Nat.eq_zero_or_pos n with g|g
  ·exact g
  ·exact absurd h (td_top (by omega)).1
 ·rintro rfl;rfl
theorem td_get (n i:Nat):(td n).getD i 0=((n/10000^i % 10000:Nat):Int):=by
 have h:=td_w32 n
 rcases Nat.lt_or_ge i (td n).length with hi|hi
 ·rw[←valT_div h hi,td_val,Int.natCast_emod,Int.natCast_ediv,natPowT];rfl
 ·rw[getD_ge hi,Nat.div_eq_of_lt (td_lt_pow hi)];rfl
end Go.Proofs.YtjofnbpcanhfhaaGreatDoor
namespace Go.Proofs.YtjofnbpcanhfhaaGreatDoor
open Go.Sx
set_option linter.unusedSimpArgs false
set_option linter.unusedVariables false
set_option maxRecDepth 100000
set_option maxHeartbeats 4000000
theorem c_short (xs:List Int) (n:Nat) (hn:n≤xs.length) (hl:xs.length<1099511627776) (hx:W32 xs) (y:Nat) (hy0:y≠0) (hy:y<4294967296) (K Q:Nat) (hKQ:Q≠K) (wr:Bool) (X:Nat) (hX:valI xs n=X):
  CallOK Tryz.prog 104 [.slc K 1 0 n,.val (.int .u32 y)] [(K,⟨22,wr,.ints .u32 xs⟩)] (.tup [.slc Q 1 0 n,.val (.int .u32 (X % y:Nat))]) [(Q,⟨22,true,.ints .u32 (digs (X/y) n)⟩)] []:=by
 refine CallOK.anyWr ?_
 refine callK (Z:=[]) tabOK mixedOK Tryz.func104 rfl (by kernel_rfl) (args:=[.slc 0 1 0 n,.val (.int .u32 y)]) (fk:=[(0,⟨22,false,.ints .u32 xs⟩)]) (c:=.tup [.slc 9 1 0 n,.val (.int .u32 (X % y:Nat))]) (new:=[(9,⟨22,true,.ints .u32 (digs (X/y) n)⟩)]) (upd:=[]) (ShapeOK.of rfl rfl rfl rfl rfl rfl rfl rfl rfl rfl rfl) rfl (renBy [(0,K),(9,Q)]) (NamesOK.roNew rfl (fun q hq=>by simp[keysOf]at hq;subst hq;exact hKQ)) ?_
 intro W0 w0 ρ0 hE
 conv=>whnf
 have e0:IntKind.i64.wrap ((n:Int) - 1)=(n:Int) - 1:=wrap_i64 (by omega) (by omega)
 (repeat(first|(refine And.intro (by first|decide|omega|(simp only[tl0,dlen,List.length_replicate,List.length_set,List.length_map,List.length_zipWith,List.length_take,List.length_append,List.length_cons,List.length_nil];omega)) ?_;conv=>whnf)|(rw[e0];conv=>whnf)))
 refine SW_loopN hE (fun k=>k) [0,1,4,5,6] [0,9] (fun j fr hp=>∃(q:List Int) (r:Nat),j≤n∧q.length=n∧W32 q∧(∀i,i<j→q.getD i 0=0)∧r<y∧valI q n*y+r*4294967296^j=X - valI xs j∧
  fr=[(0,.slc 0 1 0 n),(1,.val (.int .u32 y)),(4,.slc 9 1 0 n),(5,.val (.int .u32 r)),(6,.val (.int .i64 ((j:Int) - 1)))]∧hp=[(0,⟨22,false,.ints .u32 xs⟩),(9,⟨22,true,.ints .u32 q⟩)]) n ?_ ?_ ?_
 ·kernel_rfl
 ·exact⟨List.replicate n 0,0,by omega,by simp,(fun i=>by rw[getD_replicate];decide),(fun i _=>getD_replicate),by omega,by rw[valI_zeros (k:=0) (fun i _ _=>getD_replicate) (by omega),hX];simp[valI],rfl,rfl⟩
 rintro j _ _ ⟨q,r,hj,hql,hq,hq0,hr,hval,rfl,rfl⟩
 by_cases h0:j=0
 ·subst h0
  have t2:decide (((0:Nat):Int) - 1≥0)=false:=rfl
  obtain⟨Qv,hQ⟩:=Int.eq_ofNat_of_zero_le (valI_nonneg hq n)
  have hX2:Qv*y+r=X:=by
   rw[hQ,Int.pow_zero,Int.mul_one,valI,Int.sub_zero,←Int.natCast_mul]at hval
   omega
  have hdiv:X/y=Qv:=by rw[←hX2,Nat.add_comm,Nat.add_mul_div_right _ _ (by omega),Nat.div_eq_of_lt hr,Nat.zero_add]
  have hmod:X % y=r:=by rw[←hX2,Nat.add_comm,Nat.add_mul_mod_self_right,Nat.mod_eq_of_lt hr]
  rw[hdiv,hmod,←digs_of' hql hq hQ]
  conv=>whnf
  (repeat(first|(refine step_w2 rfl rfl ?_;conv=>whnf)))
  exact⟨Recast.refl _,one_get rfl,(fun _ _ h=>by cases h)⟩
 ·obtain⟨i,rfl⟩:∃i,j=i+1:=⟨j - 1,by omega⟩
  have ei:(((i+1:Nat):Int) - 1)=(i:Int):=by omega
  rw[ei]
  have t2:decide ((i:Int)≥0)=true:=decide_eq_true (by omega)
  have e1:0+(i:Int).toNat=i:=by omega
  have e2:IntKind.i64.wrap ((i:Int) - 1)=(i:Int) - 1:=wrap_i64 (by omega) (by omega)
  obtain⟨w,hww⟩:=Int.eq_ofNat_of_zero_le (hx i).1
  have hw2:=(hx i).2
  have kd:=c_Div32 r w y hr (by omega) hy
  have hrl:(r*4294967296+w) % y<y:=Nat.mod_lt _ (by omega)
  have hqd:(r*4294967296+w)/y<4294967296:=Nat.div_lt_of_lt_mul (by
   have:=Nat.mul_le_mul_right 4294967296 (show r+1≤y by omega)
   rw[Nat.mul_comm y];omega)
  have hstep:valI (q.set i (((r*4294967296+w)/y:Nat):Int)) n*y+(((r*4294967296+w) % y:Nat):Int)*4294967296^i=X - valI xs i:=by
   rw[valI_set (by omega) (by omega),hq0 i (by omega),Int.sub_zero]
   have hdm:((y:Int)*(((r*4294967296+w)/y:Nat):Int)+(((r*4294967296+w) % y:Nat):Int))=(r:Int)*4294967296+w:=by
    have:=Nat.div_add_mod (r*4294967296+w) y
    rw[←Int.natCast_mul,←Int.natCast_add,this];omega
   rw[Int.pow_succ,valI,hww]at hval
   generalize (((r*4294967296+w)/y:Nat):Int)=d at*
   generalize (((r*4294967296+w) % y:Nat):Int)=e at*
   generalize (4294967296:Int)^i=P at*
   grind
  conv=>whnf
  (repeat((first|refine step_w1 rfl rfl ?_|refine And.intro (by first|decide|omega|(simp only[tl0,dlen,List.length_replicate,List.length_set,List.length_map,List.length_zipWith,List.length_take,List.length_append,List.length_cons,List.length_nil];omega)) ?_|refine g_c (by assumption) ?_|rw[t2]|rw[e1]|rw[hww]|rw[e2]);conv=>whnf))
  exact⟨i,fun k=>k,[0,1,4,5,6],[0,9],by omega,by kernel_rfl,_,_,by omega,by simpa using hql,hq.set (Int.natCast_nonneg _) (Int.ofNat_lt.2 hqd),(fun j hj=>by rw[getD_set,if_neg (by omega)];exact hq0 j (by omega)),hrl,hstep,rfl,rfl⟩
theorem shl_or {w s c:Nat} (hs:s<32) (hc:c<2^s) (hw:w<4294967296):
  ior .u32 (ishl .u32 (w:Int) (s:Int)) (c:Int)=((w*2^s % 4294967296+c:Nat):Int)∧w*2^s % 4294967296+c<4294967296:=by
 have hmin:min (s:Int).toNat IntKind.u32.bits=s:=by simp[IntKind.bits];omega
 have e:ishl .u32 (w:Int) (s:Int)=((w*2^s % 4294967296:Nat):Int):=by
  rw[ishl,hmin,show(w:Int)*2^s=((w*2^s:Nat):Int)from by rw[Int.natCast_mul,Int.natCast_pow];rfl]
  exact wu32m _
 have hW:4294967296=2^(32 - s)*2^s:=by rw[←Nat.pow_add,show 32 - s+s=32 from by omega]
 have e2:w*2^s % 4294967296=2^s*(w % 2^(32 - s)):=by
  rw[hW,Nat.mul_mod_mul_right,Nat.mul_comm]
 have hm:w*2^s % 4294967296<4294967296:=Nat.mod_lt _ (by decide)
 have hlt:w % 2^(32 - s)<2^(32 - s):=Nat.mod_lt _ (Nat.two_pow_pos _)
 have hsum:w*2^s % 4294967296+c<4294967296:=by
  rw[e2]
  have:=Nat.mul_le_mul_left (2^s) (show w % 2^(32 - s)+1≤2^(32 - s)from hlt)
  rw[Nat.mul_comm (2^s) (2^(32 - s)),←hW,Nat.mul_add,Nat.mul_one]at this
  omega
 refine⟨?_,hsum⟩
 rw[e,ior_u32 hm (by omega)]
 congr 1
 rw[e2,←Nat.two_pow_add_eq_or_of_lt hc]
theorem c_shifted (xs:List Int) (n:Nat) (hn:n≤xs.length) (hl:xs.length<1099511627776) (hx:W32 xs) (s:Nat) (hs:s<32) (K Q:Nat) (hKQ:Q≠K) (wr:Bool) (X:Nat) (hX:valI xs n=X):
  CallOK Tryz.prog 111 [.slc K 1 0 n,.val (.int .i64 s)] [(K,⟨22,wr,.ints .u32 xs⟩)] (.slc Q 1 0 (n+1)) [(Q,⟨22,true,.ints .u32 (digs (X*2^s) (n+1))⟩)] []:=by
 refine CallOK.anyWr ?_
 refine callK (Z:=[]) tabOK mixedOK Tryz.func111 rfl (by kernel_rfl) (args:=[.slc 0 1 0 n,.val (.int .i64 s)]) (fk:=[(0,⟨22,false,.ints .u32 xs⟩)]) (c:=.slc 12 1 0 (n+1)) (new:=[(12,⟨22,true,.ints .u32 (digs (X*2^s) (n+1))⟩)]) (upd:=[]) (ShapeOK.of rfl rfl rfl rfl rfl rfl rfl rfl rfl rfl rfl) rfl (renBy [(0,K),(12,Q)]) (NamesOK.roNew rfl (fun q hq=>by simp[keysOf]at hq;subst hq;exact hKQ)) ?_
 intro W0 w0 ρ0 hE
 conv=>whnf
 have ew:IntKind.i64.wrap ((n:Int)+1)=((n+1:Nat):Int):=by rw[wrap_i64 (by omega) (by omega)];omega
 (repeat(first|(refine And.intro (by first|decide|omega|(simp only[tl0,dlen,List.length_replicate,List.length_set,List.length_map,List.length_zipWith,List.length_take,List.length_append,List.length_cons,List.length_nil];omega)) ?_;conv=>whnf)|(rw[ew];conv=>whnf)))
 refine SW_loopN hE (fun k=>k) [0,1,5,6,13,14,15] [0,12] (fun m fr hp=>∃(i:Nat) (out:List Int) (c:Nat),m=n - i∧i≤n∧out.length=n+1∧W32 out∧c<2^s∧valI out i+c*4294967296^i=valI xs i*2^s∧
  fr=[(0,.slc 0 1 0 n),(1,.val (.int .i64 s)),(5,.slc 12 1 0 (n+1)),(6,.val (.int .u32 c)),(13,.slc 0 1 0 n),(14,.val (.int .i64 n)),(15,.val (.int .i64 i))]∧hp=[(0,⟨22,false,.ints .u32 xs⟩),(12,⟨22,true,.ints .u32 out⟩)]) n ?_ ?_ ?_
 ·kernel_rfl
 ·exact⟨0,List.replicate (n+1) 0,0,by omega,by omega,by simp,(fun i=>by rw[getD_replicate];decide),Nat.two_pow_pos s,by simp[valI],rfl,rfl⟩
 rintro m _ _ ⟨i,out,c,rfl,hi,hlen,hw,hc,hval,rfl,rfl⟩
 have hs64:2^s≤2147483648:=Nat.le_trans (Nat.pow_le_pow_right (by decide) (show s≤31 by omega)) (by decide)
 by_cases hlt:i<n
 ·have t1:decide ((i:Int)<(n:Int))=true:=decide_eq_true (by omega)
  have e1:0+(i:Int).toNat=i:=by omega
  have e2:IntKind.i64.wrap ((i:Int)+1)=((i+1:Nat):Int):=by rw[wrap_i64 (by omega) (by omega)];omega
  obtain⟨w,hww⟩:=Int.eq_ofNat_of_zero_le (hx i).1
  have hw2:=(hx i).2
  obtain⟨f1,f2⟩:=shl_or (w:=w) hs hc (by omega)
  have hws:w*2^s≤4294967295*2147483648:=Nat.mul_le_mul (by omega) hs64
  have f3:IntKind.u32.wrap (ishr .u64 (ishl .u64 (IntKind.u64.wrap (w:Int)) (s:Int)) 32)=((w*2^s/4294967296:Nat):Int):=by
   have hmin:min (s:Int).toNat IntKind.u64.bits=s:=by simp[IntKind.bits];omega
   rw[wu64 (n:=w) (by omega),ishl,hmin,show(w:Int)*2^s=((w*2^s:Nat):Int)from by rw[Int.natCast_mul,Int.natCast_pow];rfl,wu64 (by omega),ishr_hi,wu32 (by omega)]
  have hc':w*2^s/4294967296<2^s:=Nat.div_lt_of_lt_mul (by
   exact Nat.mul_lt_mul_of_pos_right (by omega) (Nat.two_pow_pos s))
  have hstep:valI (out.set i ((w*2^s % 4294967296+c:Nat):Int)) (i+1)+((w*2^s/4294967296:Nat):Int)*4294967296^(i+1)=valI xs (i+1)*2^s:=by
   rw[valI,valI,valI_set_ge (Nat.le_refl _),getD_set,if_pos ⟨rfl,by omega⟩,hww,Int.pow_succ]
   have hd:((w*2^s % 4294967296+c:Nat):Int)=(w:Int)*2^s+c - ((w*2^s/4294967296:Nat):Int)*4294967296:=by
    have:=Nat.div_add_mod (w*2^s) 4294967296
    have h2:((w*2^s:Nat):Int)=(w:Int)*2^s:=by rw[Int.natCast_mul,Int.natCast_pow];rfl
    omega
   rw[hd]
   generalize ((w*2^s/4294967296:Nat):Int)=q
   generalize (4294967296:Int)^i=P at*
   generalize (2:Int)^s=S at*
   grind
  conv=>whnf
  (repeat((first|refine step_w1 rfl rfl ?_|refine And.intro (by first|decide|omega|(simp only[tl0,dlen,List.length_replicate,List.length_set,List.length_map,List.length_zipWith,List.length_take,List.length_append,List.length_cons,List.length_nil];omega)) ?_|rw[t1]|rw[e1]|rw[hww]|rw[f1]|rw[f3]|rw[e2]);conv=>whnf))
  exact⟨n - (i+1),fun k=>k,[0,1,5,6,13,14,15],[0,12],by omega,by kernel_rfl,i+1,_,_,rfl,by omega,by simpa using hlen,hw.set (by omega) (by omega),hc',hstep,rfl,rfl⟩
 ·have hi':i=n:=by omega
  subst hi'
  have t1:decide ((i:Int)<(i:Int))=false:=decide_eq_false (by omega)
  have e1:0+(i:Int).toNat=i:=by omega
  have hcl:c<4294967296:=by omega
  have hfin:valI (out.set i (c:Int)) (i+1)=((X*2^s:Nat):Int):=by
   rw[valI,valI_set_ge (Nat.le_refl _),getD_set,if_pos ⟨rfl,by omega⟩,hval,hX,Int.natCast_mul,Int.natCast_pow];rfl
  rw[←digs_of' (xs:=out.set i (c:Int)) (by simpa using hlen) (hw.set (by omega) (by omega)) hfin]
  conv=>whnf
  (repeat((first|refine step_w2 rfl rfl ?_|refine And.intro (by first|decide|omega|(simp only[tl0,dlen,List.length_replicate,List.length_set,List.length_map,List.length_zipWith,List.length_take,List.length_append,List.length_cons,List.length_nil];omega)) ?_|rw[t1]|rw[e1]);conv=>whnf))
  exact⟨Recast.refl _,one_get rfl,(fun _ _ h=>by cases h)⟩
theorem c_half (us:List Int) (hl:us.length<1099511627776) (hu:W32 us) (K:Nat) (U:Nat) (hU:valI us us.length=U):
  CallOK Tryz.prog 113 [.slc K 1 0 us.length] [(K,⟨22,true,.ints .u32 us⟩)] (.tup []) [] [(K,⟨22,true,.ints .u32 (digs (U/2) us.length)⟩)]:=by
 refine callK (Z:=[]) tabOK mixedOK Tryz.func113 rfl (by kernel_rfl) (args:=[.slc 0 1 0 us.length]) (fk:=[(0,⟨22,true,.ints .u32 us⟩)]) (c:=.tup []) (new:=[]) (upd:=[(0,⟨22,true,.ints .u32 (digs (U/2) us.length)⟩)]) (ShapeOK.of rfl rfl rfl rfl rfl rfl rfl rfl rfl rfl rfl) rfl (fun _=>K) NamesOK.upd ?_
 intro W0 w0 ρ0 hE
 conv=>whnf
 skip
 refine SW_loopN hE (fun k=>k) [0,4,5] [0] (fun m fr hp=>∃(i:Nat) (o:List Int),m=us.length - i∧i≤us.length∧o.length=us.length∧W32 o∧(∀j,i≤j→o.getD j 0=us.getD j 0)∧2*valI o i+us.getD 0 0 % 2=valI us i+us.getD i 0 % 2*4294967296^i∧
  fr=[(0,.slc 0 1 0 us.length),(4,.val (.int .i64 us.length)),(5,.val (.int .i64 i))]∧hp=[(0,⟨22,true,.ints .u32 o⟩)]) us.length ?_ ?_ ?_
 ·kernel_rfl
 ·exact⟨0,us,by omega,by omega,rfl,hu,(fun _ _=>rfl),by simp[valI],rfl,rfl⟩
 rintro m _ _ ⟨i,o,rfl,hi,hlen,hw,hrest,hval,rfl,rfl⟩
 by_cases hlt:i<us.length
 ·have t1:decide ((i:Int)<(us.length:Int))=true:=decide_eq_true (by omega)
  have e1:0+(i:Int).toNat=i:=by omega
  have e2:IntKind.i64.wrap ((i:Int)+1)=((i+1:Nat):Int):=by rw[wrap_i64 (by omega) (by omega)];omega
  obtain⟨w,hww⟩:=Int.eq_ofNat_of_zero_le (hu i).1
  have hw2:=(hu i).2
  have how:o.getD i 0=(w:Int):=by rw[hrest i (Nat.le_refl _)];exact hww
  have f1:ishr .u32 (w:Int) 1=((w/2:Nat):Int):=ishr_nat .u32 (s:=1) (by decide)
  obtain⟨z,hz⟩:=Int.eq_ofNat_of_zero_le (hu (i+1)).1
  have hz2:=(hu (i+1)).2
  have f2:∀q:Nat,q<2147483648→ior .u32 (q:Int) (ishl .u32 (z:Int) 31)=((q+z % 2*2147483648:Nat):Int):=fun q hq=>by
   have e:ishl .u32 (z:Int) 31=((2147483648*(z % 2):Nat):Int):=by
    show IntKind.u32.wrap ((z:Int)*2147483648)=_
    rw[show(z:Int)*2147483648=((z*2147483648:Nat):Int)from by omega,wu32m]
    congr 1;omega
   rw[e,ior_u32 (by omega) (by omega),Nat.or_comm,show 2147483648*(z % 2)=2^31*(z % 2)from rfl,←Nat.two_pow_add_eq_or_of_lt (i:=31) hq]
   congr 1;omega
  have hstep:∀t:Int,t=us.getD (i+1) 0 % 2→2*valI (o.set i (((w/2:Nat):Int)+t*2147483648)) (i+1)+us.getD 0 0 % 2=valI us (i+1)+us.getD (i+1) 0 % 2*4294967296^(i+1):=fun t ht=>by
   rw[←ht,valI,valI,valI_set_ge (Nat.le_refl _),getD_set,if_pos ⟨rfl,by omega⟩,hww,Int.pow_succ]
   rw[hww]at hval
   have hd:2*((w/2:Nat):Int)=(w:Int) - (w:Int) % 2:=by omega
   generalize ((w/2:Nat):Int)=q at*
   generalize (w:Int) % 2=p at*
   generalize (4294967296:Int)^i=P at*
   generalize us.getD 0 0 % 2=b at*
   grind
  have hrest':∀(v:Int) j,i+1≤j→(o.set i v).getD j 0=us.getD j 0:=fun v j hj=>by
   rw[getD_set,if_neg (by omega)];exact hrest j (by omega)
  by_cases hn:i+1<us.length
  ·have t2:decide (((i+1:Nat):Int)<(us.length:Int))=true:=decide_eq_true (by omega)
   have e3:0+((i+1:Nat):Int).toNat=i+1:=by omega
   have g1:∀v:Int,(o.set i v).getD i 0=v:=fun v=>by rw[getD_set,if_pos ⟨rfl,by omega⟩]
   have g2:∀v:Int,(o.set i v).getD (i+1) 0=(z:Int):=fun v=>by rw[hrest' v _ (Nat.le_refl _)];exact hz
   have g3:∀u v:Int,(o.set i u).set i v=o.set i v:=fun u v=>by rw[List.set_set]
   have g4:((w/2+z % 2*2147483648:Nat):Int)=((w/2:Nat):Int)+us.getD (i+1) 0 % 2*2147483648:=by rw[hz];omega
   conv=>whnf
   have g5:∀v:Int,(o.set i v).length=us.length:=fun v=>by simpa using hlen
   (repeat((first|refine step_w1 rfl rfl ?_|refine step_i (by kernel_rfl) ?_|refine And.intro (by first|decide|omega|(simp only[tl0,dlen,List.length_replicate,List.length_set,List.length_map,List.length_zipWith,List.length_take,List.length_append,List.length_cons,List.length_nil];omega)) ?_|rw[t1]|rw[e1]|rw[how]|rw[f1]|rw[e2]|rw[t2]|rw[e3]|rw[g1]|rw[g2]|rw[f2 (w/2) (by omega)]|rw[g3]|rw[g4]);conv=>whnf))
   exact⟨us.length - (i+1),fun k=>k,[0,4,5],[0],by omega,by kernel_rfl,i+1,_,rfl,by omega,by simpa using hlen,hw.set (by omega) (by omega),hrest' _,hstep _ rfl,rfl,rfl⟩
  ·have t2:decide (((i+1:Nat):Int)<(us.length:Int))=false:=decide_eq_false (by omega)
   have hz0:us.getD (i+1) 0=0:=getD_ge (by omega)
   have:=hstep 0 (by rw[hz0];rfl)
   rw[Int.zero_mul,Int.add_zero]at this
   conv=>whnf
   (repeat((first|refine step_w1 rfl rfl ?_|refine step_w2 rfl rfl ?_|refine And.intro (by first|decide|omega|(simp only[tl0,dlen,List.length_replicate,List.length_set,List.length_map,List.length_zipWith,List.length_take,List.length_append,List.length_cons,List.length_nil];omega)) ?_|rw[t1]|rw[e1]|rw[how]|rw[f1]|rw[e2]|rw[t2]);conv=>whnf))
   exact⟨us.length - (i+1),fun k=>k,[0,4,5],[0],by omega,by kernel_rfl,i+1,_,rfl,by omega,by simpa using hlen,hw.set (by omega) (by omega),hrest' _,this,rfl,rfl⟩
 ·have hi':i=us.length:=by omega
  subst hi'
  have t1:decide ((us.length:Int)<(us.length:Int))=false:=decide_eq_false (by omega)
  rw[getD_ge (xs:=us) (i:=us.length) (Nat.le_refl _),hU]at hval
  have hfin:valI o us.length=((U/2:Nat):Int):=by
   rw[show(0:Int) % 2=0 from rfl,Int.zero_mul,Int.add_zero]at hval
   omega
  rw[←digs_of' hlen hw hfin]
  conv=>whnf
  (repeat(first|(refine step_w2 rfl rfl ?_;conv=>whnf)|(rw[t1];conv=>whnf)))
  exact⟨Recast.refl _,(fun _ _ h=>by cases h),one_get rfl⟩
end Go.Proofs.YtjofnbpcanhfhaaGreatDoor
namespace Go.Proofs.YtjofnbpcanhfhaaGreatDoor
open Go.Sx
set_option linter.unusedSimpArgs false
set_option linter.unusedVariables false
set_option maxRecDepth 100000
set_option maxHeartbeats 4000000
theorem digs_hi {v m L i:Nat} (hv:v<4294967296^m) (hi:m≤i):(digs v L).getD i 0=0:=by
 by_cases h2:i<L
 ·rw[digs_get h2,Nat.div_eq_of_lt (Nat.lt_of_lt_of_le hv (Nat.pow_le_pow_right (by decide) hi))];rfl
 ·exact getD_ge (by rw[digs_len];omega)
theorem digs_low {o:List Int} {L m v:Nat} (hl:o.length=L) (hw:W32 o) (hz:∀j,m≤j→o.getD j 0=0) (hm:m≤L) (hv:valI o m=v):o=digs v L:=
 digs_of' hl hw (by rw[valI_zeros (k:=m) (fun i h1 _=>hz i h1) hm,hv])
theorem less_step {o us vs:List Int} {s i d w c l x:Nat} (hi:s+i<o.length) (hx:us.getD (s+i) 0=x) (hv:vs.getD i 0=w) (hl:l≤1) (hxl:x<4294967296)
  (hval:valI o (s+i)=valI us (s+i) - d*valI vs i*4294967296^s+((c:Int)+l)*4294967296^(s+i)):
  valI (o.set (s+i) (((x+4294967296 - (c+d*w) % 4294967296 - l) % 4294967296:Nat):Int)) (s+(i+1))=valI us (s+(i+1)) - d*valI vs (i+1)*4294967296^s+((((c+d*w)/4294967296:Nat):Int)+((if x<(c+d*w) % 4294967296+l then 1 else 0:Nat):Int))*4294967296^(s+(i+1)):=by
 rw[show s+(i+1)=(s+i)+1 from by omega,valI,valI,valI,valI_set_ge (Nat.le_refl _),getD_set,if_pos ⟨rfl,hi⟩,hx,hv,Int.pow_succ]
 have hlo:(c+d*w) % 4294967296<4294967296:=Nat.mod_lt _ (by decide)
 have hd:(((x+4294967296 - (c+d*w) % 4294967296 - l) % 4294967296:Nat):Int)=(x:Int) - (((c+d*w) % 4294967296:Nat):Int) - l+((if x<(c+d*w) % 4294967296+l then 1 else 0:Nat):Int)*4294967296:=by
  split<;>omega
 have hc:(((c+d*w) % 4294967296:Nat):Int)=(c:Int)+d*w - (((c+d*w)/4294967296:Nat):Int)*4294967296:=by
  have:=Nat.div_add_mod (c+d*w) 4294967296
  have h2:((d*w:Nat):Int)=(d:Int)*w:=Int.natCast_mul _ _
  omega
 rw[hd,hc,hval,Int.pow_add]
 generalize ((if x<(c+d*w) % 4294967296+l then 1 else 0:Nat):Int)=l'
 generalize (((c+d*w)/4294967296:Nat):Int)=q
 generalize (4294967296:Int)^s=S
 generalize (4294967296:Int)^i=P
 grind
theorem less_fin {o us vs:List Int} {s n d c l x:Nat} (hi:s+n<o.length) (hx:us.getD (s+n) 0=x) (hl:l≤1) (hc:c<4294967296) (hxl:x<4294967296)
  (hval:valI o (s+n)=valI us (s+n) - d*valI vs n*4294967296^s+((c:Int)+l)*4294967296^(s+n)):
  valI (o.set (s+n) (((x+4294967296 - c - l) % 4294967296:Nat):Int)) (s+n+1)=valI us (s+n+1) - d*valI vs n*4294967296^s+((if x<c+l then 1 else 0:Nat):Int)*4294967296^(s+n+1):=by
 rw[valI,valI,valI_set_ge (Nat.le_refl _),getD_set,if_pos ⟨rfl,hi⟩,hx,Int.pow_succ]
 have hd:(((x+4294967296 - c - l) % 4294967296:Nat):Int)=(x:Int) - c - l+((if x<c+l then 1 else 0:Nat):Int)*4294967296:=by
  split<;>omega
 rw[hd,hval]
 generalize ((if x<c+l then 1 else 0:Nat):Int)=l'
 generalize (4294967296:Int)^(s+n)=S
 generalize (4294967296:Int)^s=P
 grind
theorem less_end {R D B l:Nat} {v:Int} (hl:l≤1) (h0:0≤v) (h1:v<B) (hR:R<B) (hv:v=(R:Int) - D+l*B):
  decide ((l:Int)>0)=decide (R<D)∧v=(((R+B - D) % B:Nat):Int):=by
 have hcc:l=0∨l=1:=by omega
 rcases hcc with rfl|rfl
 ·have h2:D≤R:=by omega
  refine⟨by rw[decide_eq_false (show ¬R<D by omega)];rfl, ?_⟩
  rw[show R+B - D=(R - D)+B from by omega,Nat.add_mod_right,Nat.mod_eq_of_lt (by omega)]
  omega
 ·have h2:R<D:=by omega
  refine⟨by rw[decide_eq_true h2];rfl, ?_⟩
  rw[Nat.mod_eq_of_lt (by omega)]
  omega
theorem c_less (L s n R d V:Nat) (vs:List Int) (hL:L<1099511627776) (hsn:s+n+1≤L) (hR:R<4294967296^(s+n+1)) (hvl:vs.length<1099511627776) (hn:n≤vs.length) (hvw:W32 vs) (hV:valI vs n=V) (hd:d<4294967296)
  (K Q:Nat) (hKQ:K≠Q):
  CallOK Tryz.prog 112 [.slc K 1 s (n+1),.slc Q 1 0 n,.val (.int .u64 d)] [(K,⟨22,true,.ints .u32 (digs R L)⟩),(Q,⟨22,true,.ints .u32 vs⟩)]
   (.val (.bool (decide (R<d*V*4294967296^s)))) [] [(K,⟨22,true,.ints .u32 (digs ((R+4294967296^(s+n+1) - d*V*4294967296^s) % 4294967296^(s+n+1)) L)⟩),(Q,⟨22,true,.ints .u32 vs⟩)]:=by
 refine callK (Z:=[]) tabOK mixedOK Tryz.func112 rfl (by kernel_rfl) (args:=[.slc 0 1 s (n+1),.slc 1 1 0 n,.val (.int .u64 d)]) (fk:=[(0,⟨22,true,.ints .u32 (digs R L)⟩),(1,⟨22,true,.ints .u32 vs⟩)])
  (c:=.val (.bool (decide (R<d*V*4294967296^s)))) (new:=[]) (upd:=[(0,⟨22,true,.ints .u32 (digs ((R+4294967296^(s+n+1) - d*V*4294967296^s) % 4294967296^(s+n+1)) L)⟩),(1,⟨22,true,.ints .u32 vs⟩)]) (ShapeOK.of rfl rfl rfl rfl rfl rfl rfl rfl rfl rfl rfl) rfl (renBy [(0,K),(1,Q)]) (NamesOK.two hKQ) ?_
 intro W0 w0 ρ0 hE
 conv=>whnf
 skip
 have husl:(digs R L).length=L:=digs_len R L
 have husw:W32 (digs R L):=digs_w32 R L
 have husv:valI (digs R L) (s+n+1)=R:=by
  have h1:=valI_zeros (xs:=digs R L) (k:=s+n+1) (n:=L) (fun i h1 _=>digs_hi hR h1) hsn
  rw[←h1,valI_digs,Nat.mod_eq_of_lt (Nat.lt_of_lt_of_le hR (Nat.pow_le_pow_right (by decide) hsn))]
 have hlow:∀(o:List Int) (v:Nat),o.length=L→W32 o→(∀j,s+n+1≤j→o.getD j 0=0)→valI o (s+n+1)=v→o=digs v L:=fun o v h1 h2 h3 h4=>digs_low h1 h2 h3 hsn h4
 have hz:∀j,s+n+1≤j→(digs R L).getD j 0=0:=fun j hj=>digs_hi hR hj
 generalize digs R L=us at*
 refine SW_loopN hE (fun k=>k) [0,1,2,7,8,12,13,14] [0,1] (fun m fr hp=>∃(i:Nat) (o:List Int) (c l:Nat),m=n - i∧i≤n∧o.length=L∧W32 o∧c<4294967296∧l≤1∧(∀j,s+i≤j→o.getD j 0=us.getD j 0)∧valI o (s+i)=valI us (s+i) - d*valI vs i*4294967296^s+((c:Int)+l)*4294967296^(s+i)∧
  fr=[(0,.slc 0 1 s (n+1)),(1,.slc 1 1 0 n),(2,.val (.int .u64 d)),(7,.val (.int .u64 c)),(8,.val (.int .u32 l)),(12,.slc 1 1 0 n),(13,.val (.int .i64 n)),(14,.val (.int .i64 i))]∧hp=[(0,⟨22,true,.ints .u32 o⟩),(1,⟨22,true,.ints .u32 vs⟩)]) n ?_ ?_ ?_
 ·kernel_rfl
 ·exact⟨0,us,0,0,by omega,by omega,husl,husw,by omega,by omega,(fun _ _=>rfl),by simp[valI],rfl,rfl⟩
 rintro m _ _ ⟨i,o,c,l,rfl,hi,hlen,hw,hc,hl,hrest,hval,rfl,rfl⟩
 obtain⟨x,hx⟩:=Int.eq_ofNat_of_zero_le (husw (s+i)).1
 have hx2:=(husw (s+i)).2
 have hox:o.getD (s+i) 0=(x:Int):=by rw[hrest _ (Nat.le_refl _)];exact hx
 by_cases hlt:i<n
 ·have t1:decide ((i:Int)<(n:Int))=true:=decide_eq_true (by omega)
  have e1:0+(i:Int).toNat=i:=by omega
  have e1s:s+(i:Int).toNat=s+i:=by omega
  have e2:IntKind.i64.wrap ((i:Int)+1)=((i+1:Nat):Int):=by rw[wrap_i64 (by omega) (by omega)];omega
  obtain⟨w,hww⟩:=Int.eq_ofNat_of_zero_le (hvw i).1
  have hw2:=(hvw i).2
  have hp:d*w≤4294967295*4294967295:=Nat.mul_le_mul (by omega) (by omega)
  have e9:IntKind.u64.wrap ((c:Int)+IntKind.u64.wrap ((d:Int)*IntKind.u64.wrap (w:Int)))=((c+d*w:Nat):Int):=by
   rw[wu64 (n:=w) (by omega),←Int.natCast_mul,wu64 (n:=d*w) (by omega),←Int.natCast_add,wu64 (by omega)]
  have e10:IntKind.u32.wrap ((c+d*w:Nat):Int)=(((c+d*w) % 4294967296:Nat):Int):=wu32m _
  have e11:ishr .u64 ((c+d*w:Nat):Int) 32=(((c+d*w)/4294967296:Nat):Int):=ishr_hi _
  have k32:=c_Sub32 x ((c+d*w) % 4294967296) l (by omega) (by omega) hl
  have hstep:=less_step (o:=o) (us:=us) (vs:=vs) (by omega) hx hww hl (by omega) hval
  have hc':(c+d*w)/4294967296<4294967296:=by omega
  have hl':(if x<(c+d*w) % 4294967296+l then 1 else 0:Nat)≤1:=by split<;>omega
  conv=>whnf
  (repeat((first|refine step_w1 rfl rfl ?_|refine And.intro (by first|decide|omega|(simp only[tl0,dlen,List.length_replicate,List.length_set,List.length_map,List.length_zipWith,List.length_take,List.length_append,List.length_cons,List.length_nil];omega)) ?_|refine g_c (by assumption) ?_|rw[t1]|rw[e1]|rw[e1s]|rw[hww]|rw[hox]|rw[e9]|rw[e10]|rw[e11]|rw[e2]);conv=>whnf))
  exact⟨n - (i+1),fun k=>k,[0,1,2,7,8,12,13,14],[0,1],by omega,by kernel_rfl,i+1,_,_,_,rfl,by omega,by simpa using hlen,hw.set (by omega) (by omega),hc',hl',(fun j hj=>by rw[getD_set,if_neg (by omega)];exact hrest j (by omega)),hstep,rfl,rfl⟩
 ·have hi':i=n:=by omega
  subst hi'
  have t1:decide ((i:Int)<(i:Int))=false:=decide_eq_false (by omega)
  have e1s:s+(i:Int).toNat=s+i:=by omega
  have e8:IntKind.u32.wrap (c:Int)=(c:Int):=wu32 hc
  have k32:=c_Sub32 x c l (by omega) hc hl
  have hfin:=less_fin (by omega) hx hl hc (by omega) hval
  have hl':(if x<c+l then 1 else 0:Nat)≤1:=by split<;>omega
  have hw':W32 (o.set (s+i) (((x+4294967296 - c - l) % 4294967296:Nat):Int)):=hw.set (by omega) (by omega)
  have hol:(o.set (s+i) (((x+4294967296 - c - l) % 4294967296:Nat):Int)).length=L:=by simpa using hlen
  obtain⟨hd1,hd2⟩:=less_end (R:=R) (D:=d*V*4294967296^s) (B:=4294967296^(s+i+1)) hl' (valI_nonneg hw' _) (by rw[natPowW];exact valI_lt hw' _) hR (by rw[hfin,husv,hV,Int.natCast_mul,Int.natCast_mul,natPowW,natPowW])
  have ho':=hlow _ _ hol hw' (fun j hj=>by rw[getD_set,if_neg (by omega),hrest j (by omega)];exact hz j hj) hd2
  conv=>whnf
  (repeat((first|refine step_w2 rfl rfl ?_|refine And.intro (by first|decide|omega|(simp only[tl0,dlen,List.length_replicate,List.length_set,List.length_map,List.length_zipWith,List.length_take,List.length_append,List.length_cons,List.length_nil];omega)) ?_|refine g_c (by assumption) ?_|rw[t1]|rw[e1s]|rw[e8]|rw[hox]);conv=>whnf))
  rw[←ho',←hd1]
  exact⟨Recast.refl _,(fun _ _ h=>by cases h),two_fk rfl rfl⟩
end Go.Proofs.YtjofnbpcanhfhaaGreatDoor
namespace Go.Proofs.YtjofnbpcanhfhaaGreatDoor
open Go.Sx
set_option linter.unusedSimpArgs false
set_option linter.unusedVariables false
set_option maxRecDepth 100000
set_option maxHeartbeats 1000000
def Hid (p:Prop):Prop:=p
theorem Hid.out {p:Prop} (h:Hid p):p:=h
theorem step_oL {α:Type} [LT α] {a b:α} {q:Prop} (h:a<b) (hq:q):a<b∧q:=⟨h,hq⟩
theorem step_oM {α:Type} [LE α] {a b:α} {q:Prop} (h:a≤b) (hq:q):a≤b∧q:=⟨h,hq⟩
theorem step_oA {a b q:Prop} (h:a∧b) (hq:q):(a∧b)∧q:=⟨h,hq⟩
theorem step_oN {α:Type} {a b:α} {q:Prop} (h:a≠b) (hq:q):a≠b∧q:=⟨h,hq⟩
theorem long_low {V R P S W d r:Nat} (hP:0<P) (hS:0<S) (hW:0<W) (h1:d*(V/P/W)+r=R/(P*S)/W) (h2:r*W+R/(P*S) % W<d*(V/P % W)):R<d*V*S:=by
 have e1:=Nat.div_add_mod (V/P) W
 have e2:=Nat.div_add_mod (R/(P*S)) W
 have hV:=Nat.div_mul_le_self V P
 have hPS:0<P*S:=Nat.mul_pos hP hS
 have hR:=Nat.lt_div_mul_add (a:=R) hPS
 generalize V/P=V2 at*
 generalize R/(P*S)=R2 at*
 generalize V2/W=v1 at*
 generalize V2 % W=v2 at*
 generalize R2/W=t at*
 generalize R2 % W=u0 at*
 have h3:R2+1≤d*V2:=by
  rw[←e1,←e2,←h1,Nat.mul_add,Nat.mul_add]
  have:d*(W*v1)=W*(d*v1):=by rw[Nat.mul_left_comm]
  have:W*r=r*W:=Nat.mul_comm _ _
  omega
 have h4:(R2+1)*(P*S)≤d*V*S:=by
  refine Nat.le_trans (Nat.mul_le_mul_right _ h3) ?_
  rw[show d*V2*(P*S)=d*(V2*P)*S from by simp only[Nat.mul_assoc]]
  exact Nat.mul_le_mul_right _ (Nat.mul_le_mul_left _ hV)
 rw[Nat.add_mul,Nat.one_mul]at h4
 omega
theorem long_high {V R P S W d r:Nat} (hP:0<P) (hS:0<S) (hW:0<W) (hd:d<W) (h1:d*(V/P/W)+r=R/(P*S)/W) (h2:d*(V/P % W)≤r*W+R/(P*S) % W) (hV:W*P≤V):d*V*S≤R+V*S:=by
 have e1:=Nat.div_add_mod (V/P) W
 have e2:=Nat.div_add_mod (R/(P*S)) W
 have hV2:=Nat.lt_div_mul_add (a:=V) hP
 have hR:=Nat.div_mul_le_self R (P*S)
 generalize V/P=V2 at*
 generalize R/(P*S)=R2 at*
 generalize V2/W=v1 at*
 generalize V2 % W=v2 at*
 generalize R2/W=t at*
 generalize R2 % W=u0 at*
 have h3:d*V2≤R2:=by
  rw[←e1,←e2,←h1,Nat.mul_add,Nat.mul_add]
  have:d*(W*v1)=W*(d*v1):=by rw[Nat.mul_left_comm]
  have:W*r=r*W:=Nat.mul_comm _ _
  omega
 have h4:d*V≤d*V2*P+d*P:=by
  rw[Nat.mul_assoc,←Nat.mul_add];exact Nat.mul_le_mul_left _ (by omega)
 have h5:d*P≤V:=Nat.le_trans (Nat.mul_le_mul_right _ (Nat.le_of_lt hd)) hV
 have h6:d*V*S≤(R2*P+V)*S:=Nat.mul_le_mul_right _ (Nat.le_trans h4 (Nat.add_le_add (Nat.mul_le_mul_right _ h3) h5))
 rw[show(R2*P+V)*S=R2*(P*S)+V*S from by rw[Nat.add_mul,Nat.mul_assoc]]at h6
 omega
theorem long_rest {V R P S W d r:Nat} (hP:0<P) (hS:0<S) (hW:0<W) (hd:d<W) (h1:d*(V/P/W)+r=R/(P*S)/W) (hr:W≤r):d*V*S≤R:=by
 have hPW:0<P*W:=Nat.mul_pos hP hW
 have hV2:=Nat.lt_div_mul_add (a:=V) hPW
 have hR:=Nat.div_mul_le_self R (P*S*W)
 rw[Nat.div_div_eq_div_mul]at h1
 rw[Nat.div_div_eq_div_mul]at h1
 generalize V/(P*W)=v1 at*
 generalize R/(P*S*W)=t at*
 have h3:d*V≤(d*v1+W)*(P*W):=by
  have h4:d*V≤d*(v1*(P*W)+P*W):=Nat.mul_le_mul_left _ (by omega)
  rw[Nat.mul_add,←Nat.mul_assoc]at h4
  rw[Nat.add_mul]
  exact Nat.le_trans h4 (Nat.add_le_add_left (Nat.mul_le_mul_right _ (Nat.le_of_lt hd)) _)
 have h5:d*V*S≤(d*v1+r)*(P*W)*S:=Nat.mul_le_mul_right _ (Nat.le_trans h3 (Nat.mul_le_mul_right _ (by omega)))
 rw[h1,show t*(P*W)*S=t*(P*S*W)from by simp only[Nat.mul_assoc,Nat.mul_comm S W]]at h5
 omega
theorem long_small {V R P S W d r:Nat} (hP:0<P) (hS:0<S) (hW:0<W) (h1:d*(V/P/W)+r=R/(P*S)/W) (hr:W≤r) (hR:R<V*(S*W)):d<W:=by
 have hPW:0<P*W:=Nat.mul_pos hP hW
 have hV2:=Nat.lt_div_mul_add (a:=V) hPW
 have hR2:=Nat.div_mul_le_self R (P*S*W)
 rw[Nat.div_div_eq_div_mul]at h1
 rw[Nat.div_div_eq_div_mul]at h1
 generalize V/(P*W)=v1 at*
 generalize R/(P*S*W)=t at*
 refine Classical.byContradiction fun hc=> ?_
 have h2:W*v1≤d*v1:=Nat.mul_le_mul_right _ (by omega)
 have h3:W*v1+W≤t:=by omega
 have h4:(W*v1+W)*(P*S*W)≤R:=Nat.le_trans (Nat.mul_le_mul_right _ h3) hR2
 have h5:V*(S*W)≤(v1*(P*W)+P*W)*(S*W):=Nat.mul_le_mul_right _ (by omega)
 rw[show(v1*(P*W)+P*W)*(S*W)=(W*v1+W)*(P*S*W)from by grind]at h5
 omega
theorem long_guess {V R P S W d:Nat} (hP:0<P) (hS:0<S) (hW:0<W) (hv:0<V/P/W) (hd:R/(P*S)/W/(V/P/W)=d):R<(d+1)*V*S:=by
 have hPW:0<P*W:=Nat.mul_pos hP hW
 have hPSW:0<P*S*W:=Nat.mul_pos (Nat.mul_pos hP hS) hW
 have hV2:=Nat.div_mul_le_self V (P*W)
 have hR2:=Nat.lt_div_mul_add (a:=R) hPSW
 rw[Nat.div_div_eq_div_mul R,Nat.div_div_eq_div_mul V]at hd
 rw[Nat.div_div_eq_div_mul]at hv
 have hlt:=Nat.lt_div_mul_add (a:=R/(P*S*W)) hv
 rw[hd]at hlt
 generalize V/(P*W)=v1 at*
 generalize R/(P*S*W)=t at*
 have h1:t+1≤(d+1)*v1:=by rw[Nat.add_mul];omega
 have h2:(t+1)*(P*S*W)≤(d+1)*V*S:=by
  refine Nat.le_trans (Nat.mul_le_mul_right _ h1) ?_
  rw[show(d+1)*v1*(P*S*W)=(d+1)*(v1*(P*W))*S from by grind]
  exact Nat.mul_le_mul_right _ (Nat.mul_le_mul_left _ hV2)
 rw[Nat.add_mul,Nat.one_mul]at h2
 omega
theorem back_step {o us vs:List Int} {s i x w c:Nat} (hi:s+i<o.length) (hx:us.getD (s+i) 0=x) (hw:vs.getD i 0=w)
  (hv:valI o (s+i)+c*4294967296^(s+i)=valI us (s+i)+valI vs i*4294967296^s):
  valI (o.set (s+i) (((x+w+c) % 4294967296:Nat):Int)) (s+(i+1))+(((x+w+c)/4294967296:Nat):Int)*4294967296^(s+(i+1))=valI us (s+(i+1))+valI vs (i+1)*4294967296^s:=by
 rw[show s+(i+1)=(s+i)+1 from by omega,valI,valI,valI,valI_set_ge (Nat.le_refl _),getD_set,if_pos ⟨rfl,hi⟩,hx,hw,Int.pow_succ]
 have hd:(((x+w+c) % 4294967296:Nat):Int)=(x:Int)+w+c - (((x+w+c)/4294967296:Nat):Int)*4294967296:=by omega
 rw[hd]
 rw[Int.pow_add]at hv ⊢
 generalize (((x+w+c)/4294967296:Nat):Int)=q
 generalize (4294967296:Int)^i=P at*
 generalize (4294967296:Int)^s=Q at*
 grind
theorem back_fin {o us vs:List Int} {s n x c R' V:Nat} (hi:s+n<o.length) (hx:us.getD (s+n) 0=x) (hc:c≤1) (hxl:x<4294967296) (hu:valI us (s+n+1)=R') (hV:valI vs n=V)
  (hv:valI o (s+n)+c*4294967296^(s+n)=valI us (s+n)+valI vs n*4294967296^s) (h0:W32 (o.set (s+n) (((x+c) % 4294967296:Nat):Int))):
  valI (o.set (s+n) (((x+c) % 4294967296:Nat):Int)) (s+n+1)=(((R'+V*4294967296^s) % 4294967296^(s+n+1):Nat):Int):=by
 have h1:=valI_nonneg h0 (s+n+1)
 have h2:=valI_lt h0 (s+n+1)
 rw[valI]at hu
 have h3:valI (o.set (s+n) (((x+c) % 4294967296:Nat):Int)) (s+n+1)=((R'+V*4294967296^s:Nat):Int) - (((x+c)/4294967296:Nat):Int)*4294967296^(s+n+1):=by
  rw[valI,valI_set_ge (Nat.le_refl _),getD_set,if_pos ⟨rfl,hi⟩,Int.natCast_add,←hu,hx,Int.natCast_mul,←hV,natPowW,Int.pow_succ]
  have hd:(((x+c) % 4294967296:Nat):Int)=(x:Int)+c - (((x+c)/4294967296:Nat):Int)*4294967296:=by omega
  rw[hd]
  generalize (((x+c)/4294967296:Nat):Int)=q
  generalize (4294967296:Int)^(s+n)=P at*
  generalize (4294967296:Int)^s=Q at*
  grind
 rw[←natPowW]at h2
 rw[h3]at h1 h2 ⊢
 rw[←natPowW]at*
 have e1:(((x+c)/4294967296:Nat):Int)*((4294967296^(s+n+1):Nat):Int)=((((x+c)/4294967296)*4294967296^(s+n+1):Nat):Int):=(Int.natCast_mul _ _).symm
 rw[e1]at h1 h2 ⊢
 generalize (x+c)/4294967296=t at*
 generalize 4294967296^(s+n+1)=B at*
 generalize V*4294967296^s=D at*
 have h5:R'+D=(R'+D - t*B)+t*B:=by omega
 rw[h5,Nat.add_mul_mod_self_right,Nat.mod_eq_of_lt (by omega)]
 omega
theorem long_pos {R d D B:Nat} (h:d*D≤R) (hB:R<B):(R+B - d*D) % B=R - d*D:=by
 rw[show R+B - d*D=(R - d*D)+B from by omega,Nat.add_mod_right,Nat.mod_eq_of_lt (by omega)]
theorem long_neg {R d D B:Nat} (h:R<d*D) (h2:d*D≤R+D) (hB:R<B) (hD:D≤B):((R+B - d*D) % B+D) % B=R - (d - 1)*D∧(d - 1)*D≤R∧R<(d - 1+1)*D∧0<d:=by
 have hd:0<d:=by
  rcases Nat.eq_zero_or_pos d with rfl|h'
  ·simp at h
  ·exact h'
 have e:d*D=(d - 1)*D+D:=by rw[←Nat.succ_mul];congr 1;omega
 have e2:(d - 1+1)*D=d*D:=by congr 1;omega
 rw[e2]
 refine⟨?_,by omega,h,hd⟩
 rw[Nat.mod_eq_of_lt (show R+B - d*D<B by omega)]
 rw[show R+B - d*D+D=(R - (d - 1)*D)+B from by omega,Nat.add_mod_right,Nat.mod_eq_of_lt (by omega)]
theorem long_norm {ys:List Int} (hy:W32 ys) {n y Y s V:Nat} (h2:2≤n) (hyt:ys.getD (n - 1) 0=y) (hY:valI ys n=Y) (hs:32 - sz y=s) (hV:Y*2^s=V) (h1:1≤sz y) (h32:sz y≤32):
  V<4294967296^n∧2147483648*4294967296^(n - 1)≤V:=by
 have hn:n=(n - 1)+1:=by omega
 have ha:=valI_nonneg hy (n - 1)
 have hb:=valI_lt hy (n - 1)
 rw[hn,valI,hyt]at hY
 rw[←natPowW]at hb hY
 have e1:(y:Int)*((4294967296^(n - 1):Nat):Int)=((y*4294967296^(n - 1):Nat):Int):=(Int.natCast_mul _ _).symm
 rw[e1]at hY
 have hY1:y*4294967296^(n - 1)≤Y:=by omega
 have hY2:Y<(y+1)*4294967296^(n - 1):=by rw[Nat.add_mul,Nat.one_mul];omega
 have hy1:y<2^sz y:=sz_le.1 (Nat.le_refl _)
 have hy2:2^(sz y - 1)≤y:=by
  refine Classical.byContradiction fun h=> ?_
  have:=sz_le.2 (show y<2^(sz y - 1) by omega)
  omega
 have p1:2^sz y*2^s=4294967296:=by rw[←Nat.pow_add,show sz y+s=32 from by omega]
 have p2:2^(sz y - 1)*2^s=2147483648:=by rw[←Nat.pow_add,show sz y - 1+s=31 from by omega]
 have hs0:0<2^s:=Nat.two_pow_pos s
 have hQ:4294967296^n=4294967296^(n - 1)*4294967296:=by rw[←Nat.pow_succ];congr 1
 rw[hQ,←hV]
 generalize 4294967296^(n - 1)=Q at*
 generalize 2^s=T at*
 constructor
 ·have h3:Y*T<(y+1)*Q*T:=Nat.mul_lt_mul_of_pos_right hY2 hs0
  have h4:(y+1)*Q*T≤2^sz y*Q*T:=Nat.mul_le_mul_right _ (Nat.mul_le_mul_right _ hy1)
  rw[show 2^sz y*Q*T=Q*(2^sz y*T)from by rw[Nat.mul_comm (2^sz y) Q,Nat.mul_assoc],p1]at h4
  omega
 ·have h3:2^(sz y - 1)*Q*T≤Y*T:=Nat.mul_le_mul_right _ (Nat.le_trans (Nat.mul_le_mul_right _ hy2) hY1)
  rw[show 2^(sz y - 1)*Q*T=(2^(sz y - 1)*T)*Q from by rw[Nat.mul_assoc,Nat.mul_comm Q T,Nat.mul_assoc],p2]at h3
  exact h3
theorem powW_split {k n:Nat} (h2:2≤n):4294967296^(k+(n - 2))=4294967296^(n - 2)*4294967296^k∧4294967296^(k+(n - 1))=4294967296^(n - 2)*4294967296^k*4294967296∧4294967296^(k+n)=4294967296^(n - 2)*4294967296^k*4294967296*4294967296∧
  4294967296^(n - 1)=4294967296^(n - 2)*4294967296∧4294967296^n=4294967296^(n - 2)*4294967296*4294967296∧4294967296^(k+n+1)=4294967296^(n - 2)*4294967296^k*4294967296*4294967296*4294967296:=by
 have e0:4294967296^(k+(n - 2))=4294967296^(n - 2)*4294967296^k:=by rw[Nat.pow_add,Nat.mul_comm]
 refine⟨e0, ?_, ?_, ?_, ?_, ?_⟩
 ·rw[←e0,←Nat.pow_succ];congr 1;omega
 ·rw[←e0,←Nat.pow_succ,←Nat.pow_succ];congr 1;omega
 ·rw[←Nat.pow_succ];congr 1;omega
 ·rw[←Nat.pow_succ,←Nat.pow_succ];congr 1;omega
 ·rw[←e0,←Nat.pow_succ,←Nat.pow_succ,←Nat.pow_succ];congr 1;omega
theorem long_first {X V s l n:Nat} (hX:X<4294967296^l) (hs:s<32) (hV:2147483648*4294967296^(n - 1)≤V) (h2:2≤n) (hnl:n≤l):X*2^s<V*4294967296^(l+1 - n):=by
 have h3:2^s≤2147483648:=Nat.le_trans (Nat.pow_le_pow_right (by decide) (show s≤31 by omega)) (by decide)
 have e:4294967296^l=4294967296^(n - 1)*4294967296^(l+1 - n):=by rw[←Nat.pow_add];congr 1;omega
 have h4:2147483648*4294967296^(n - 1)*4294967296^(l+1 - n)≤V*4294967296^(l+1 - n):=Nat.mul_le_mul_right _ hV
 rw[Nat.mul_assoc,←e,Nat.mul_comm]at h4
 have h5:X*2^s<4294967296^l*2147483648:=Nat.lt_of_lt_of_le (Nat.mul_lt_mul_of_pos_right hX (Nat.two_pow_pos s)) (Nat.mul_le_mul_left _ h3)
 omega
theorem long_words {R V P S k n l:Nat} (h2:2≤n) (hk:k+n<l+1) (hP:4294967296^(n - 2)=P) (hS:4294967296^k=S) (hVn:V<4294967296^n) (hVg:2147483648*4294967296^(n - 1)≤V) (hR:R<V*(S*4294967296)):
  R<4294967296^(k+n+1)∧V*4294967296^k≤4294967296^(k+n+1)∧4294967296*P≤V∧(2147483648≤V/P/4294967296∧V/P/4294967296<4294967296)∧R/(P*S)/4294967296<18446744073709551616∧
  (digs R (l+1)).getD (k+n) 0=((R/(P*S)/4294967296/4294967296:Nat):Int)∧(digs R (l+1)).getD (k+(n - 1)) 0=((R/(P*S)/4294967296 % 4294967296:Nat):Int)∧(digs R (l+1)).getD (k+(n - 2)) 0=((R/(P*S) % 4294967296:Nat):Int)∧
  (digs V (n+1)).getD (n - 1) 0=((V/P/4294967296:Nat):Int)∧(digs V (n+1)).getD (n - 2) 0=((V/P % 4294967296:Nat):Int):=by
 obtain⟨q1,q2,q3,q4,q5,q6⟩:=powW_split (k:=k) h2
 rw[hP]at q1 q2 q3 q4 q5 q6
 rw[hS]at q1 q2 q3 q6
 have hP0:0<P:=by rw[←hP];exact Nat.pow_pos (by decide)
 have hS0:0<S:=by rw[←hS];exact Nat.pow_pos (by decide)
 have hPS:0<P*S:=Nat.mul_pos hP0 hS0
 rw[q5]at hVn
 rw[q4]at hVg
 have c1:V*(S*4294967296)≤P*S*4294967296*4294967296*4294967296:=by
  refine Nat.le_trans (Nat.mul_le_mul_right _ (Nat.le_of_lt hVn)) (Nat.le_of_eq ?_)
  grind
 have hRB:R<P*S*4294967296*4294967296*4294967296:=Nat.lt_of_lt_of_le hR c1
 have c2:V*S≤P*S*4294967296*4294967296*4294967296:=Nat.le_trans (Nat.mul_le_mul_left _ (by omega)) c1
 have d1:V/P/4294967296=V/(P*4294967296):=Nat.div_div_eq_div_mul _ _ _
 have v1lt:V/P/4294967296<4294967296:=by
  rw[d1];exact Nat.div_lt_of_lt_mul hVn
 have v1ge:2147483648≤V/P/4294967296:=by
  rw[d1];exact(Nat.le_div_iff_mul_le (by omega)).2 hVg
 have d2:R/(P*S)/4294967296/4294967296=R/(P*S*4294967296*4294967296):=by rw[Nat.div_div_eq_div_mul,Nat.div_div_eq_div_mul,Nat.mul_assoc (P*S)]
 have d3:R/(P*S)/4294967296=R/(P*S*4294967296):=Nat.div_div_eq_div_mul _ _ _
 have tlt:R/(P*S)/4294967296/4294967296<4294967296:=by
  rw[d2];exact Nat.div_lt_of_lt_mul hRB
 refine⟨by rw[q6];exact hRB,by rw[q6,hS];exact c2,by omega,⟨v1ge,v1lt⟩,by omega, ?_, ?_, ?_, ?_, ?_⟩
 ·rw[digs_get (by omega),q3,←d2,Nat.mod_eq_of_lt tlt]
 ·rw[digs_get (by omega),q2,←d3]
 ·rw[digs_get (by omega),q1]
 ·rw[digs_get (by omega),q4,←d1,Nat.mod_eq_of_lt v1lt]
 ·rw[digs_get (by omega),hP]
end Go.Proofs.YtjofnbpcanhfhaaGreatDoor
namespace Go.Proofs.YtjofnbpcanhfhaaGreatDoor
open Go.Sx
set_option linter.unusedSimpArgs false
set_option linter.unusedVariables false
set_option maxRecDepth 100000
set_option maxHeartbeats 4000000
variable {M:Nat}
theorem more_eq (a b:Rat):decide (a.den - 1=b.den - 1)=decide (a.den=b.den):=decide_eq_decide.2 (by have:=a.den_pos;have:=b.den_pos;omega)
theorem sz_iadd {x y:Int} {k M:Nat} (hx:sz x.natAbs≤k) (hy:sz y.natAbs≤k) (h:k+1≤M):sz (x+y).natAbs≤M:=
 Nat.le_trans (Nat.le_trans (sz_mono (Int.natAbs_add_le x y)) (sz_add hx hy)) h
theorem mkRat_same {a b:Rat} (h:a.den=b.den):mkRat (a.num+b.num) a.den=a+b:=by
 rw[Rat.add_def',←h,←Int.add_mul,Rat.mkRat_mul_right a.den_nz]
theorem c_fAdd (ok:NatOK M) (a b:Rat) (h:fsz a+fsz b+1≤M):CallOK Tryz.prog 38 [.frac a,.frac b] [] (.frac (a+b)) [] []:=by
 have ha:=fsz_num a;have ha':=fsz_den a;have hb:=fsz_num b;have hb':=fsz_den b
 have hbp:=sz_one_le b.den b.den_nz
 have hap:=sz_one_le a.den a.den_nz
 have wa:=c_Whole a
 have wb:=c_Whole b
 have k1:=c_iAdd ok a.num b.num (by omega) (by omega)
 have k2:=c_den ok a (by omega)
 have k3:=c_den ok b (by omega)
 refine callV (Z:=[]) tabOK mixedOK Tryz.func38 rfl (by kernel_rfl) rfl rfl (by kernel_rfl) rfl ?_
 intro W0 w0 ρ0 hE
 conv=>whnf
 by_cases hw:a.den=1∧b.den=1
 ·have k5:=c_whole (a.num+b.num)
  have e:((a.num+b.num:Int):Rat)=a+b:=by
   rw[int_of_den hw.1,int_of_den hw.2,Rat.intCast_add];rfl
  rw[e]at k5
  rw[decide_eq_true hw.1]at wa
  rw[decide_eq_true hw.2]at wb
  (repeat(first|(refine step_w1 rfl rfl ?_;conv=>whnf)|(refine g_c (by assumption) ?_;conv=>whnf)|(refine g_o (op_pickT rfl (ev_ok rfl) (ev_ok rfl)) ?_;conv=>whnf)));exact Recast.refl _
 ·by_cases h1:a.den=1
  ·rw[decide_eq_true h1]at wa
   rw[decide_eq_false (show ¬b.den=1 from fun h2=>hw ⟨h1,h2⟩)]at wb
   (repeat((first|refine step_w1 rfl rfl ?_|refine step_w2 rfl rfl ?_|refine g_c (by assumption) ?_|refine g_o (op_pickT rfl (ev_ok rfl) (ev_ok rfl)) ?_);conv=>whnf))
   refine⟨_,op_eqAgg tabOK goodOK rfl (ev_ok rfl) (ev_ok rfl) rfl rfl rfl rfl (eqTy_nat (a.den - 1) (b.den - 1)) guard_nat, ?_⟩
   rw[more_eq]
   by_cases hd:a.den=b.den
   ·rw[decide_eq_true hd]
    have k4:=c_lowest ok (a.num+b.num) a.den (sz_iadd (k:=M - 1) (by omega) (by omega) (by omega)) (by omega) a.den_nz
    rw[mkRat_same hd]at k4
    conv=>whnf
    (repeat(first|(refine step_w1 rfl rfl ?_;conv=>whnf)|(refine step_i (by kernel_rfl) ?_;conv=>whnf)|(refine g_c (by assumption) ?_;conv=>whnf)));exact Recast.refl _
   ·rw[decide_eq_false hd]
    have p1:=sz_mul a.num.natAbs b.den
    have p2:=sz_mul b.num.natAbs a.den
    have p3:=sz_mul a.den b.den
    have q1:sz (a.num*b.den).natAbs≤M - 1:=by rw[Int.natAbs_mul,Int.natAbs_natCast];omega
    have q2:sz (b.num*a.den).natAbs≤M - 1:=by rw[Int.natAbs_mul,Int.natAbs_natCast];omega
    have r1:=c_signed ok a (by omega)
    have r2:=c_signed ok b (by omega)
    have r3:=c_iMul ok a.num b.den (by rw[Int.natAbs_natCast];omega)
    have r4:=c_iMul ok b.num a.den (by rw[Int.natAbs_natCast];omega)
    have r5:=c_iAdd ok (a.num*b.den) (b.num*a.den) (by omega) (by omega)
    have r6:=ok.mul a.den b.den (by omega)
    have r7:=c_lowest ok (a.num*b.den+b.num*a.den) (a.den*b.den) (sz_iadd (k:=M - 1) q1 q2 (by omega)) (by omega) (Nat.mul_ne_zero a.den_nz b.den_nz)
    rw[←Rat.add_def']at r7
    conv=>whnf
    (repeat(first|(refine step_w2 rfl rfl ?_;conv=>whnf)|(refine step_i (by kernel_rfl) ?_;conv=>whnf)|(refine g_c (by assumption) ?_;conv=>whnf)));exact Recast.refl _
  ·rw[decide_eq_false h1]at wa
   (repeat(first|(refine step_w2 rfl rfl ?_;conv=>whnf)|(refine g_c (by assumption) ?_;conv=>whnf)|(refine g_o (op_pickF rfl (ev_ok rfl) (ev_ok rfl)) ?_;conv=>whnf)))
   refine⟨_,op_eqAgg tabOK goodOK rfl (ev_ok rfl) (ev_ok rfl) rfl rfl rfl rfl (eqTy_nat (a.den - 1) (b.den - 1)) guard_nat, ?_⟩
   rw[more_eq]
   by_cases hd:a.den=b.den
   ·rw[decide_eq_true hd]
    have k4:=c_lowest ok (a.num+b.num) a.den (sz_iadd (k:=M - 1) (by omega) (by omega) (by omega)) (by omega) a.den_nz
    rw[mkRat_same hd]at k4
    conv=>whnf
    (repeat(first|(refine step_w1 rfl rfl ?_;conv=>whnf)|(refine step_i (by kernel_rfl) ?_;conv=>whnf)|(refine g_c (by assumption) ?_;conv=>whnf)));exact Recast.refl _
   ·rw[decide_eq_false hd]
    have p1:=sz_mul a.num.natAbs b.den
    have p2:=sz_mul b.num.natAbs a.den
    have p3:=sz_mul a.den b.den
    have q1:sz (a.num*b.den).natAbs≤M - 1:=by rw[Int.natAbs_mul,Int.natAbs_natCast];omega
    have q2:sz (b.num*a.den).natAbs≤M - 1:=by rw[Int.natAbs_mul,Int.natAbs_natCast];omega
    have r1:=c_signed ok a (by omega)
    have r2:=c_signed ok b (by omega)
    have r3:=c_iMul ok a.num b.den (by rw[Int.natAbs_natCast];omega)
    have r4:=c_iMul ok b.num a.den (by rw[Int.natAbs_natCast];omega)
    have r5:=c_iAdd ok (a.num*b.den) (b.num*a.den) (by omega) (by omega)
    have r6:=ok.mul a.den b.den (by omega)
    have r7:=c_lowest ok (a.num*b.den+b.num*a.den) (a.den*b.den) (sz_iadd (k:=M - 1) q1 q2 (by omega)) (by omega) (Nat.mul_ne_zero a.den_nz b.den_nz)
    rw[←Rat.add_def']at r7
    conv=>whnf
    (repeat(first|(refine step_w2 rfl rfl ?_;conv=>whnf)|(refine step_i (by kernel_rfl) ?_;conv=>whnf)|(refine g_c (by assumption) ?_;conv=>whnf)));exact Recast.refl _
end Go.Proofs.YtjofnbpcanhfhaaGreatDoor
