/- The texts Cm, Cl, Ea, Eb, Ec, Ed, Ee, Ef, Eg, Eh, Ei, Fa. -/
import Derived.Test.YthaeohlijigplaaGreatQLTopFound2
namespace Go.Proofs.YthaeohlijigplaaGreat
open Go.Sx
set_option linter.unusedSimpArgs false
set_option linter.unusedVariables false
set_option maxRecDepth 100000
set_option maxHeartbeats 2000000
theorem val_step (xs:List Int) (hx:W32 xs) (i:Nat) (hi:i<2):
  ior .u64 (valI xs i) (ishl .u64 (IntKind.u64.wrap (xs.getD i 0)) ((32*i:Nat):Int))=valI xs (i+1):=by
 obtain⟨a0,a1⟩:=hx 0
 obtain⟨b0,b1⟩:=hx 1
 have hc:i=0∨i=1:=by omega
 rcases hc with rfl|rfl
 ·obtain⟨w,hw⟩:=Int.eq_ofNat_of_zero_le a0
  have e:ishl .u64 (IntKind.u64.wrap (xs.getD 0 0)) ((32*0:Nat):Int)=(w:Int):=by
   rw[hw,wrap_u64 (by omega) (by omega)]
   show IntKind.u64.wrap ((w:Int)*1)=w
   rw[Int.mul_one,wrap_u64 (by omega) (by omega)]
  rw[e,show valI xs 0=((0:Nat):Int)from rfl,ior_u64 (by omega) (by omega),Nat.zero_or]
  simp only[valI,hw,Int.pow_zero,Int.mul_one,Int.zero_add]
 ·obtain⟨w,hw⟩:=Int.eq_ofNat_of_zero_le b0
  obtain⟨v,hv⟩:=Int.eq_ofNat_of_zero_le a0
  have e:ishl .u64 (IntKind.u64.wrap (xs.getD 1 0)) ((32*1:Nat):Int)=((4294967296*w:Nat):Int):=by
   rw[hw,wrap_u64 (by omega) (by omega)]
   show IntKind.u64.wrap ((w:Int)*4294967296)=_
   rw[wrap_u64 (by omega) (by omega)]
   omega
  have e1:valI xs 1=(v:Int):=by simp only[valI,hv,Int.pow_zero,Int.mul_one,Int.zero_add]
  have e2:valI xs (1+1)=((v+w*4294967296:Nat):Int):=by
   simp only[valI,hv,hw,Int.pow_zero,Int.mul_one,Int.zero_add,Int.pow_succ,Int.one_mul];omega
  rw[e,e1,e2,ior_u64 (by omega) (by omega),Nat.or_comm]
  have:=Nat.two_pow_add_eq_or_of_lt (i:=32) (b:=v) (by omega) w
  rw[show 4294967296*w=2^32*w from rfl,←this]
  omega
def bytesI (xs:List Int):List Int:=xs.flatMap fun x=>(wordBytes x.toNat).map fun b=>((b.toNat:Nat):Int)
theorem bytesI_len (xs:List Int):(bytesI xs).length=4*xs.length:=by
 induction xs with
 |nil=>rfl
 |cons x xs ih=>
  rw[bytesI,List.flatMap_cons,List.length_append,←bytesI,ih]
  simp[wordBytes];omega
theorem bytesI_snoc {xs:List Int} {i:Nat} (h:i<xs.length):bytesI (xs.take (i+1))=bytesI (xs.take i)++bytesI [xs.getD i 0]:=by
 rw[List.take_add_one,bytesI,List.flatMap_append]
 have:xs[i]? =some (xs.getD i 0):=by rw[List.getD_eq_getElem?_getD,List.getElem?_eq_getElem h];rfl
 rw[this];rfl
theorem wu8m (n:Nat):IntKind.u8.wrap (n:Int)=((n % 256:Nat):Int):=by simp[IntKind.wrap,IntKind.bits,IntKind.signed]
theorem bytesI_one {x:Int} (h0:0≤x):bytesI [x]=[IntKind.u8.wrap x,IntKind.u8.wrap (ishr .u32 x 8),IntKind.u8.wrap (ishr .u32 x 16),IntKind.u8.wrap (ishr .u32 x 24)]:=by
 obtain⟨n,rfl⟩:=Int.eq_ofNat_of_zero_le h0
 have s8:ishr .u32 (n:Int) 8=((n/256:Nat):Int):=ishr_nat .u32 (s:=8) (by decide)
 have s16:ishr .u32 (n:Int) 16=((n/65536:Nat):Int):=ishr_nat .u32 (s:=16) (by decide)
 have s24:ishr .u32 (n:Int) 24=((n/16777216:Nat):Int):=ishr_nat .u32 (s:=24) (by decide)
 rw[s8,s16,s24,wu8m,wu8m,wu8m,wu8m]
 simp only[bytesI,wordBytes,List.flatMap_cons,List.flatMap_nil,List.map_cons,List.map_nil,List.append_nil,Int.toNat_natCast,UInt8.toNat_ofNat']
theorem bytesI_back {xs:List Int} (h:W32 xs):(bytesI xs).map (fun v=>UInt8.ofNat v.toNat)=(xs.map Int.toNat).flatMap wordBytes:=by
 induction xs with
 |nil=>rfl
 |cons x xs ih=>
  have hw:W32 xs:=fun i=>by have:=h (i+1);simpa using this
  rw[bytesI,List.flatMap_cons,List.map_append,←bytesI,ih hw,List.map_cons,List.flatMap_cons]
  congr 1
  rw[List.map_map]
  have:((fun v:Int=>UInt8.ofNat v.toNat)∘fun b:UInt8=>((b.toNat:Nat):Int))=id:=by funext b;simp
  rw[this,List.map_id]
theorem big_of {xs:List Int} {k:Nat} (hx:W32 xs) (hk:k≤xs.length) (h2:2<k) (ht:xs.getD (k - 1) 0≠0):
  natCells (valI xs k).toNat=[.int .u64 0,.string ⟨((bytesI (xs.take k)).map (fun v=>UInt8.ofNat v.toNat)).toArray⟩]:=by
 have h1:=wInts_of k xs hx hk (.inr ht)
 obtain⟨j,rfl⟩:∃j,k=j+1:=⟨k - 1,by omega⟩
 have hge:=valI_ge hx (k:=j) (by simpa using ht)
 have hp:(4294967296:Int)^2≤4294967296^j:=by
  have:(4294967296:Nat)^2≤4294967296^j:=Nat.pow_le_pow_right (by decide) (by omega)
  rw[←natPowW,←natPowW];exact Int.ofNat_le.2 this
 have hbig:¬(valI xs (j+1)).toNat<18446744073709551616:=by
  have:(4294967296:Int)^2=18446744073709551616:=by decide
  omega
 have hw:W32 (xs.take (j+1)):=fun i=>by
  rw[getD_take]
  split
  ·exact hx i
  ·decide
 simp only[natCells,low,big,hbig,if_false]
 rw[bytesI_back hw,←h1,wInts,List.map_map]
 have:(Int.toNat∘Int.ofNat)=id:=by funext n;rfl
 rw[this,List.map_id]
theorem c_of (xs:List Int) (n:Nat) (hn:n≤xs.length) (hl:xs.length<1099511627776) (hx:W32 xs) (K:Nat) (wr:Bool):
  CallOK Tryz.prog 57 [.slc K 1 0 n] [(K,⟨104,wr,.ints .u32 xs⟩)] (.nat (valI xs n).toNat) [] []:=by
 refine CallOK.anyWr ?_
 refine callK (Z:=[]) tabOK mixedOK Tryz.func57 rfl (by kernel_rfl) (args:=[.slc 0 1 0 n]) (fk:=[(0,⟨104,false,.ints .u32 xs⟩)]) (c:=.nat (valI xs n).toNat) (new:=[]) (upd:=[]) ?_ rfl (fun _=>K) ?_ ?_
 ·exact⟨rfl,rfl,rfl,rfl,rfl,(fun _ _ h=>by cases h),(fun k b h hw=>by simp at h;rw[h.2]at hw;cases hw),rfl,rfl,rfl,rfl⟩
 ·exact⟨(fun q q' b b' h h' hne=>by simp at h h';omega),(fun _ _ h=>by simp[keysOf]at h),(fun _ _ h=>by simp[keysOf]at h)⟩
 intro W0 w0 ρ0 hE
 conv=>whnf
 refine⟨_,_,[],[],c_cut xs n hn (by omega) 0 false,one_fk rfl,nil_new,nil_upd, ?_⟩
 have hle:=cutN_le xs n
 have htop:=cutN_top xs n
 rw[←valI_cut xs n]
 generalize cutN xs n=k at*
 conv=>whnf
 by_cases hk:k≤2
 ·have t1:decide ((k:Int)≤2)=true:=by simp;omega
  rw[t1]
  (repeat(first|(refine step_w1 rfl rfl ?_;conv=>whnf)))
  refine SW_loopN hE (fun k=>k) [2,3,14,15,16] [0,2] (fun m fr hp=>∃i,m=k - i∧i≤k∧fr=[(2,.ptr 2 0 0 0),(3,.val (.int .u64 (valI xs i))),(14,.slc 0 1 0 k),(15,.val (.int .i64 k)),(16,.val (.int .i64 (i:Nat)))]∧hp=[(0,⟨104,false,.ints .u32 xs⟩),(2,⟨41,true,.one [.nat 0]⟩)]) k ?_ ?_ ?_
  ·kernel_rfl
  ·exact⟨0,rfl,by omega,rfl,rfl⟩
  rintro m _ _ ⟨i,rfl,hi,rfl,rfl⟩
  conv=>whnf
  refine⟨fun h=> ?_,fun h=> ?_⟩
  ·have hi':i<k:=by have:=of_decide_eq_true h;omega
   conv=>whnf
   have hw:IntKind.i64.wrap (32*(i:Int))=((32*i:Nat):Int):=by rw[wrap_i64 (by omega) (by omega)];omega
   have hi2:IntKind.i64.wrap ((i:Int)+1)=((i+1:Nat):Int):=by rw[wrap_i64 (by omega) (by omega)];omega
   (repeat(first|(refine And.intro (by first|decide|omega|(simp only[tl0,dlen,List.length_replicate,List.length_set,List.length_map,List.length_zipWith,List.length_take,List.length_append,List.length_cons,List.length_nil];omega)) ?_;conv=>whnf)|(rw[hw];conv=>whnf)))
   rw[show 0+(i:Int).toNat=i from by omega,hi2,val_step xs hx i (by omega)]
   exact⟨k - (i+1),fun k=>k,[2,3,14,15,16],[0,2],by omega,by kernel_rfl,i+1,rfl,by omega,rfl,rfl⟩
  ·have hi':i=k:=by have:=of_decide_eq_false h;omega
   subst hi'
   conv=>whnf
   have hb:=valI_lt hx i
   have h0:=valI_nonneg hx i
   have hb':(4294967296:Int)^i≤18446744073709551616:=by
    have:i=0∨i=1∨i=2:=by omega
    rcases this with rfl|rfl|rfl<;>decide
   obtain⟨v,hv⟩:=Int.eq_ofNat_of_zero_le h0
   rw[hv]at hb ⊢
   exact⟨recast_nat (by omega),(fun _ _ h=>by cases h),(fun _ _ h=>by cases h)⟩
 ·have t1:decide ((k:Int)≤2)=false:=by simp;omega
  have e1:IntKind.i64.wrap (4*(k:Int))=((4*k:Nat):Int):=by rw[wrap_i64 (by omega) (by omega)];omega
  (repeat((first|refine step_w2 rfl rfl ?_|refine And.intro (by first|decide|omega|(simp only[tl0,dlen,List.length_replicate,List.length_set,List.length_map,List.length_zipWith,List.length_take,List.length_append,List.length_cons,List.length_nil];omega)) ?_|rw[t1]|rw[e1]);conv=>whnf))
  refine SW_loopN hE (fun k=>k) [2,6,35,36,37] [0,2,34] (fun m fr hp=>∃i,m=k - i∧i≤k∧fr=[(2,.ptr 2 0 0 0),(6,.slc 34 1 0 (4*i)),(35,.slc 0 1 0 k),(36,.val (.int .i64 k)),(37,.val (.int .i64 (i:Nat)))]∧hp=[(0,⟨104,false,.ints .u32 xs⟩),(2,⟨41,true,.one [.nat 0]⟩),(34,⟨5,true,.ints .u8 (bytesI (xs.take i))⟩)]) k ?_ ?_ ?_
  ·kernel_rfl
  ·exact⟨0,rfl,by omega,rfl,rfl⟩
  rintro m _ _ ⟨i,rfl,hi,rfl,rfl⟩
  conv=>whnf
  refine⟨fun h=> ?_,fun h=> ?_⟩
  ·have hi':i<k:=by have:=of_decide_eq_true h;omega
   conv=>whnf
   have hb:=hx i
   have hlen:(bytesI (xs.take i)).length=4*i:=by rw[bytesI_len,List.length_take];omega
   have hi2:IntKind.i64.wrap ((i:Int)+1)=((i+1:Nat):Int):=by rw[wrap_i64 (by omega) (by omega)];omega
   have hs:=bytesI_snoc (xs:=xs) (i:=i) (by omega)
   rw[bytesI_one hb.1]at hs
   (repeat(first|(refine And.intro (by first|decide|omega|(simp only[tl0,dlen,List.length_replicate,List.length_set,List.length_map,List.length_zipWith,List.length_take,List.length_append,List.length_cons,List.length_nil];omega)) ?_;conv=>whnf)|(rw[show 0+(i:Int).toNat=i from by omega];conv=>whnf)))
   (repeat(first|(rw[hi2];conv=>whnf)))
   refine⟨k - (i+1),renBy [(54,34)],[2,6,35,36,37],[0,2,54],by omega,by kernel_rfl,i+1,rfl,by omega,rfl, ?_⟩
   rw[hs]
   conv=>lhs;whnf
   rw[←hlen,List.take_length]
   rfl
  ·have hi':i=k:=by have:=of_decide_eq_false h;omega
   subst hi'
   conv=>whnf
   have hlen:(bytesI (xs.take i)).length=4*i:=by rw[bytesI_len,List.length_take];omega
   refine⟨_,[(34,⟨5,true,.ints .u8 (bytesI (xs.take i))⟩)],[],op_bytesStr (P:=Tryz.prog) (i:=0) (n:=4*i) rfl (ev_ok rfl) (tabOK.get (t:=22) rfl) rfl (tabOK.get (t:=5) rfl) rfl (tabOK.get (t:=9) rfl) rfl (List.mem_cons_self ..) (by omega),one_fk rfl,nil_new, ?_⟩
   rw[List.drop_zero,←hlen,List.take_length]
   conv=>whnf
   skip
   refine⟨recast_flat (l:=natCells (valI xs i).toNat) ?_ rfl (fun _ h=>by cases h),(fun _ _ h=>by cases h),(fun _ _ h=>by cases h)⟩
   rw[big_of hx (by omega) (by omega) (htop.resolve_left (by omega))]
   rfl
end Go.Proofs.YthaeohlijigplaaGreat
namespace Go.Proofs.YthaeohlijigplaaGreat
open Go.Sx
set_option linter.unusedSimpArgs false
set_option linter.unusedVariables false
set_option maxRecDepth 100000
set_option maxHeartbeats 2000000
theorem and32 (n:Nat):n&&& 4294967295=n % 4294967296:=by
 have:=Nat.and_two_pow_sub_one_eq_mod n 32
 simpa using this
theorem iand_lo {n:Nat} (h:n<18446744073709551616):iand .u64 (n:Int) 4294967295=((n % 4294967296:Nat):Int):=by
 have:=iand_u64 (x:=n) (y:=4294967295) h (by decide)
 rw[and32]at this
 exact this
theorem ishr_hi (n:Nat):ishr .u64 (n:Int) 32=((n/4294967296:Nat):Int):=ishr_nat .u64 (s:=32) (by decide)
theorem mul_hi (x y:Nat):
  x/4294967296*(y/4294967296)+(x/4294967296*(y % 4294967296)+x % 4294967296*(y % 4294967296)/4294967296)/4294967296+((x/4294967296*(y % 4294967296)+x % 4294967296*(y % 4294967296)/4294967296) % 4294967296+x % 4294967296*(y/4294967296))/4294967296=x*y/18446744073709551616:=by
 have e1:x*y=(x/4294967296*(y/4294967296))*18446744073709551616+(x/4294967296*(y % 4294967296))*4294967296+(x % 4294967296*(y/4294967296))*4294967296+x % 4294967296*(y % 4294967296):=by
  have hx':x=4294967296*(x/4294967296)+x % 4294967296:=by omega
  have hy':y=4294967296*(y/4294967296)+y % 4294967296:=by omega
  generalize x/4294967296=a at*
  generalize x % 4294967296=b at*
  generalize y/4294967296=c at*
  generalize y % 4294967296=d at*
  rw[hx',hy',Nat.add_mul,Nat.mul_add,Nat.mul_add,Nat.mul_mul_mul_comm,Nat.mul_assoc 4294967296 a d,Nat.mul_left_comm b 4294967296 c]
  omega
 generalize x/4294967296*(y/4294967296)=A at*
 generalize x/4294967296*(y % 4294967296)=B at*
 generalize x % 4294967296*(y/4294967296)=C at*
 generalize x % 4294967296*(y % 4294967296)=D at*
 omega
theorem c_Mul64 (x y:Nat) (hx:x<18446744073709551616) (hy:y<18446744073709551616):
  CallOK Tryz.prog 56 [.val (.int .u64 x),.val (.int .u64 y)] [] (.tup [.val (.int .u64 (x*y/18446744073709551616:Nat)),.val (.int .u64 (x*y % 18446744073709551616:Nat))]) [] []:=by
 refine callV (Z:=[]) tabOK mixedOK Tryz.func56 rfl (by kernel_rfl) rfl rfl (by kernel_rfl) rfl ?_
 intro W0 w0 ρ0 hE
 conv=>whnf
 iterate 5
  refine⟨by decide, ?_⟩
  conv=>whnf
 have hh:=mul_hi x y
 have elo:IntKind.u64.wrap ((x:Int)*y)=((x*y % 18446744073709551616:Nat):Int):=by rw[wrap_u64',←Int.natCast_mul];omega
 rw[elo,ishr_hi x,ishr_hi y,iand_lo hx,iand_lo hy]
 have ba:x/4294967296≤4294967295:=by omega
 have bb:x % 4294967296≤4294967295:=by omega
 have bc:y/4294967296≤4294967295:=by omega
 have bd:y % 4294967296≤4294967295:=by omega
 generalize x/4294967296=a at*
 generalize x % 4294967296=b at*
 generalize y/4294967296=c at*
 generalize y % 4294967296=d at*
 have pac:=Nat.mul_le_mul ba bc
 have pad:=Nat.mul_le_mul ba bd
 have pbc:=Nat.mul_le_mul bb bc
 have pbd:=Nat.mul_le_mul bb bd
 have wu:∀{n:Nat},n<18446744073709551616→IntKind.u64.wrap (n:Int)=n:=fun h=>wrap_u64 (by omega) (by omega)
 rw[←Int.natCast_mul,←Int.natCast_mul,←Int.natCast_mul,←Int.natCast_mul,wu (n:=a*c) (by omega),wu (n:=a*d) (by omega),wu (n:=b*d) (by omega),wu (n:=b*c) (by omega),ishr_hi (b*d),←Int.natCast_add,wu (n:=a*d+b*d/4294967296) (by omega),ishr_hi,iand_lo (by omega),←Int.natCast_add,←Int.natCast_add,wu (n:=a*c+(a*d+b*d/4294967296)/4294967296) (by omega),wu (n:=(a*d+b*d/4294967296) % 4294967296+b*c) (by omega),ishr_hi,←Int.natCast_add,hh,wu (by omega)]
 exact Recast.refl _
end Go.Proofs.YthaeohlijigplaaGreat
namespace Go.Proofs.YthaeohlijigplaaGreat
open Go.Sx
set_option linter.unusedSimpArgs false
set_option linter.unusedVariables false
set_option maxRecDepth 100000
set_option maxHeartbeats 4000000
theorem wu64 {n:Nat} (h:n<18446744073709551616):IntKind.u64.wrap (n:Int)=n:=wrap_u64 (by omega) (by omega)
theorem wu32 {n:Nat} (h:n<4294967296):IntKind.u32.wrap (n:Int)=n:=wrap_u32 (by omega) (by omega)
theorem wu32m (n:Nat):IntKind.u32.wrap (n:Int)=((n % 4294967296:Nat):Int):=by rw[wrap_u32'];omega
theorem c_Add32 (x y c:Nat) (hx:x<4294967296) (hy:y<4294967296) (hc:c≤1):
  CallOK Tryz.prog 93 [.val (.int .u32 x),.val (.int .u32 y),.val (.int .u32 c)] [] (.tup [.val (.int .u32 ((x+y+c) % 4294967296:Nat)),.val (.int .u32 ((x+y+c)/4294967296:Nat))]) [] []:=by
 have e1:IntKind.u64.wrap (IntKind.u64.wrap (IntKind.u64.wrap (x:Int)+IntKind.u64.wrap (y:Int))+IntKind.u64.wrap (c:Int))=((x+y+c:Nat):Int):=by
  rw[wu64 (n:=x) (by omega),wu64 (n:=y) (by omega),wu64 (n:=c) (by omega),←Int.natCast_add,wu64 (by omega),←Int.natCast_add,wu64 (by omega)]
 have e2:IntKind.u32.wrap (ishr .u64 ((x+y+c:Nat):Int) 32)=(((x+y+c)/4294967296:Nat):Int):=by rw[ishr_hi,wu32 (by omega)]
 refine callV (Z:=[]) tabOK mixedOK Tryz.func93 rfl (by kernel_rfl) rfl rfl (by kernel_rfl) rfl ?_
 intro W0 w0 ρ0 hE
 conv=>whnf
 (repeat(first|(refine And.intro (by first|decide|omega|(simp only[tl0,dlen,List.length_replicate,List.length_set,List.length_map,List.length_zipWith,List.length_take,List.length_append,List.length_cons,List.length_nil];omega)) ?_;conv=>whnf)))
 rw[e1,e2,wu32m]
 exact Recast.refl _
theorem ior_u32 {x y:Nat} (hx:x<4294967296) (hy:y<4294967296):ior .u32 x y=((x|||y:Nat):Int):=by
 have:x|||y<4294967296:=Nat.or_lt_two_pow (n:=32) hx hy
 have e1:(BitVec.ofInt IntKind.u32.bits (x:Int)).toNat=x:=by simp[BitVec.toNat_ofInt,IntKind.bits];omega
 have e2:(BitVec.ofInt IntKind.u32.bits (y:Int)).toNat=y:=by simp[BitVec.toNat_ofInt,IntKind.bits];omega
 rw[ior,BitVec.toNat_or,e1,e2]
 exact wu32 this
theorem ixor_u32 {x y:Nat} (hx:x<4294967296) (hy:y<4294967296):ixor .u32 x y=((x^^^y:Nat):Int):=by
 have:x^^^y<4294967296:=Nat.xor_lt_two_pow (n:=32) hx hy
 have e1:(BitVec.ofInt IntKind.u32.bits (x:Int)).toNat=x:=by simp[BitVec.toNat_ofInt,IntKind.bits];omega
 have e2:(BitVec.ofInt IntKind.u32.bits (y:Int)).toNat=y:=by simp[BitVec.toNat_ofInt,IntKind.bits];omega
 rw[ixor,BitVec.toNat_xor,e1,e2]
 exact wu32 this
theorem top31 {n:Nat} (h:n<4294967296):n/2147483648=if n.testBit 31 then 1 else 0:=by
 rw[Nat.testBit_eq_decide_div_mod_eq]
 simp only[Nat.reducePow,decide_eq_true_eq]
 split<;>omega
theorem bit31 {n:Nat} (h:n<4294967296):n.testBit 31=decide (2147483648≤n):=by
 rw[Nat.testBit_eq_decide_div_mod_eq,decide_eq_decide]
 simp only[Nat.reducePow]
 omega
theorem borrow (x y c:Nat) (hx:x<4294967296) (hy:y<4294967296) (hc:c≤1):
  ((((4294967295^^^x)&&& y)|||((4294967295^^^(x^^^y))&&& ((x+4294967296 - y - c) % 4294967296)))/2147483648:Nat)=if x<y+c then 1 else 0:=by
 have hd:(x+4294967296 - y - c) % 4294967296<4294967296:=Nat.mod_lt _ (by decide)
 rw[top31 (Nat.or_lt_two_pow (n:=32) (Nat.and_lt_two_pow (n:=32) _ hy) (Nat.and_lt_two_pow (n:=32) _ hd)),Nat.testBit_or,Nat.testBit_and,Nat.testBit_and,Nat.testBit_xor,Nat.testBit_xor,Nat.testBit_xor,bit31 hx,bit31 hy,bit31 hd,bit31 (n:=4294967295) (by decide)]
 by_cases h1:2147483648≤x<;>by_cases h2:2147483648≤y<;>simp[h1,h2]<;>(try split)<;>(try split)<;>omega
theorem c_Sub32 (x y c:Nat) (hx:x<4294967296) (hy:y<4294967296) (hc:c≤1):
  CallOK Tryz.prog 91 [.val (.int .u32 x),.val (.int .u32 y),.val (.int .u32 c)] [] (.tup [.val (.int .u32 ((x+4294967296 - y - c) % 4294967296:Nat)),.val (.int .u32 ((if x<y+c then 1 else 0:Nat)))]) [] []:=by
 have hd:(x+4294967296 - y - c) % 4294967296<4294967296:=Nat.mod_lt _ (by decide)
 have e1:IntKind.u32.wrap (IntKind.u32.wrap ((x:Int) - y) - c)=(((x+4294967296 - y - c) % 4294967296:Nat):Int):=by rw[wrap_u32',wrap_u32'];omega
 have hb:=borrow x y c hx hy hc
 have e2:ixor .u32 (if IntKind.u32.signed=true then -1 else IntKind.u32.max) (x:Int)=((4294967295^^^x:Nat):Int):=ixor_u32 (x:=4294967295) (by decide) hx
 have hxy:x^^^y<4294967296:=Nat.xor_lt_two_pow (n:=32) hx hy
 have e3:ixor .u32 (x:Int) y=((x^^^y:Nat):Int):=ixor_u32 hx hy
 have e4:ixor .u32 (if IntKind.u32.signed=true then -1 else IntKind.u32.max) ((x^^^y:Nat):Int)=((4294967295^^^(x^^^y):Nat):Int):=ixor_u32 (x:=4294967295) (by decide) hxy
 have hnx:4294967295^^^x<4294967296:=Nat.xor_lt_two_pow (n:=32) (by decide) hx
 have hnxy:4294967295^^^(x^^^y)<4294967296:=Nat.xor_lt_two_pow (n:=32) (by decide) hxy
 have e5:iand .u32 ((4294967295^^^x:Nat):Int) y=(((4294967295^^^x)&&& y:Nat):Int):=iand_u32 hnx hy
 have e6:iand .u32 ((4294967295^^^(x^^^y):Nat):Int) (((x+4294967296 - y - c) % 4294967296:Nat):Int)=(((4294967295^^^(x^^^y))&&& ((x+4294967296 - y - c) % 4294967296):Nat):Int):=iand_u32 hnxy hd
 have e7:=ior_u32 (Nat.and_lt_two_pow (n:=32) (4294967295^^^x) hy) (Nat.and_lt_two_pow (n:=32) (4294967295^^^(x^^^y)) hd)
 have e8:∀n:Nat,ishr .u32 (n:Int) 31=((n/2147483648:Nat):Int):=fun n=>ishr_nat .u32 (s:=31) (by decide)
 refine callV (Z:=[]) tabOK mixedOK Tryz.func91 rfl (by kernel_rfl) rfl rfl (by kernel_rfl) rfl ?_
 intro W0 w0 ρ0 hE
 conv=>whnf
 (repeat(first|(refine And.intro (by first|decide|omega|(simp only[tl0,dlen,List.length_replicate,List.length_set,List.length_map,List.length_zipWith,List.length_take,List.length_append,List.length_cons,List.length_nil];omega)) ?_;conv=>whnf)))
 rw[e1,e2,e3,e4,e5,e6,e7,e8,hb]
 exact Recast.refl _
theorem c_Div32 (h l y:Nat) (hh:h<y) (hl:l<4294967296) (hy:y<4294967296):
  CallOK Tryz.prog 118 [.val (.int .u32 h),.val (.int .u32 l),.val (.int .u32 y)] [] (.tup [.val (.int .u32 ((h*4294967296+l)/y:Nat)),.val (.int .u32 ((h*4294967296+l) % y:Nat))]) [] []:=by
 have t1:(((y:Nat):Int) != 0)=true:=by simp;omega
 have t2:decide ((y:Int)≤(h:Int))=false:=by simp;omega
 have e1:ishl .u64 (IntKind.u64.wrap (h:Int)) 32=((h*4294967296:Nat):Int):=by
  rw[wu64 (by omega)]
  show IntKind.u64.wrap ((h:Int)*4294967296)=_
  rw[show(h:Int)*4294967296=((h*4294967296:Nat):Int)from by omega,wu64 (by omega)]
 have e2:ior .u64 ((h*4294967296:Nat):Int) (l:Int)=((h*4294967296+l:Nat):Int):=by
  rw[ior_u64 (by omega) (by omega),Nat.mul_comm,←Nat.two_pow_add_eq_or_of_lt (i:=32) (b:=l) (by omega) h]
 have hq:(h*4294967296+l)/y<4294967296:=Nat.div_lt_of_lt_mul (by
  have:=Nat.mul_le_mul_right 4294967296 (show h+1≤y by omega)
  rw[Nat.mul_comm y];omega)
 have hr:(h*4294967296+l) % y<y:=Nat.mod_lt _ (by omega)
 have e3:((h*4294967296+l:Nat):Int).tdiv (y:Int)=(((h*4294967296+l)/y:Nat):Int):=rfl
 have e4:((h*4294967296+l:Nat):Int).tmod (y:Int)=(((h*4294967296+l) % y:Nat):Int):=rfl
 refine callV (Z:=[]) tabOK mixedOK Tryz.func118 rfl (by kernel_rfl) rfl rfl (by kernel_rfl) rfl ?_
 intro W0 w0 ρ0 hE
 conv=>whnf
 (repeat((first|refine step_w1 rfl rfl ?_|refine step_w2 rfl rfl ?_|refine step_i (by kernel_rfl) ?_|refine And.intro (by first|decide|omega|(simp only[tl0,dlen,List.length_replicate,List.length_set,List.length_map,List.length_zipWith,List.length_take,List.length_append,List.length_cons,List.length_nil];omega)) ?_|refine g_o (op_pickT rfl (ev_ok rfl) (ev_ok rfl)) ?_|rw[t1]|rw[t2]|rw[e1]|rw[wu64 (n:=l) (by omega)]|rw[wu64 (n:=y) (by omega)]|rw[e2]|rw[e3]|rw[e4]|rw[wu64 (n:=(h*4294967296+l)/y) (by omega)]|rw[wu32 hq]|rw[wu32 (n:=(h*4294967296+l) % y) (by omega)]);conv=>whnf));exact Recast.refl _
theorem sz_of {n k:Nat} (h0:2^k≤n) (h1:n<2^(k+1)):sz n=k+1:=by
 have:=sz_le.2 h1
 have h2:¬sz n≤k:=fun h=>by have:=sz_le.1 h;omega
 omega
theorem sz_shift {n k:Nat} (h:0<n/2^k):sz n=sz (n/2^k)+k:=by
 generalize hm:n/2^k=m at*
 have hm0:m≠0:=by omega
 obtain⟨j,hj⟩:∃j,sz m=j+1:=⟨sz m - 1,by have:=sz_pos hm0;omega⟩
 have h1:m<2^(j+1):=sz_le.1 (by omega)
 have h2:2^j≤m:=by
  refine Nat.le_of_not_lt fun h=> ?_
  have:=sz_le.2 h
  omega
 have hd:=Nat.div_add_mod n (2^k)
 have hl:=Nat.mod_lt n (Nat.two_pow_pos k)
 rw[hm]at hd
 rw[hj,sz_of (n:=n) (k:=j+k)]
 ·omega
 ·rw[Nat.pow_add]
  have:=Nat.mul_le_mul_left (2^k) h2
  rw[Nat.mul_comm (2^j)];omega
 ·rw[show j+k+1=k+(j+1)from by omega,Nat.pow_add]
  have:=Nat.mul_le_mul_left (2^k) (show m+1≤2^(j+1)from h1)
  rw[Nat.mul_add,Nat.mul_one]at this
  omega
def chkTab (s:ByteArray):Bool:=decide (s.size=256)&&(List.range 256).all (fun j=>s.data.getD j 0==UInt8.ofNat (sz j))
theorem tab_bound {s:ByteArray} {j:Nat} (hj:j<256) (hs:chkTab s=true):(0≤(j:Int)∧(j:Int)<(s.size:Int)):=by
 simp only[chkTab,Bool.and_eq_true,decide_eq_true_eq]at hs
 omega
theorem sz256:∀j,j<256→sz j<256:=fun j hj=>Nat.lt_of_le_of_lt (sz_le.2 (show j<2^8 from hj)) (by decide)
theorem tab_val {s:ByteArray} {j:Nat} (hj:j<256) (hs:chkTab s=true):(s.data.getD (j:Int).toNat 0).toNat=sz j:=by
 simp only[chkTab,Bool.and_eq_true,decide_eq_true_eq,List.all_eq_true,List.mem_range,beq_iff_eq]at hs
 rw[Int.toNat_natCast,hs.2 j hj]
 have:=sz256 j hj
 simp only[UInt8.toNat_ofNat']
 omega
theorem wu8 {n:Nat} (h:n<256):IntKind.u8.wrap (n:Int)=n:=by simp[IntKind.wrap,IntKind.bits,IntKind.signed];omega
theorem wi64 {n:Nat} (h:n<9223372036854775808):IntKind.i64.wrap (n:Int)=n:=wrap_i64 (by omega) (by omega)
theorem c_Len32 (x:Nat) (hx:x<4294967296):
  CallOK Tryz.prog 141 [.val (.int .u32 x)] [] (.val (.int .i64 (sz x))) [] []:=by
 have s16:ishr .u32 (x:Int) 16=((x/65536:Nat):Int):=ishr_nat .u32 (s:=16) (by decide)
 have s8:∀y:Nat,ishr .u32 (y:Int) 8=((y/256:Nat):Int):=fun y=>ishr_nat .u32 (s:=8) (by decide)
 have fin:∀(j:Nat) (k:Int),j<256→(sz x:Int)=sz j+k→0≤k→k≤24→IntKind.i64.wrap (k+IntKind.i64.wrap ((sz j:Nat):Int))=(sz x:Nat):=fun j k hj h hk hk'=>by
  have:=sz256 j hj
  rw[wi64 (n:=sz j) (by omega),wrap_i64 (by omega) (by omega)];omega
 refine callV (Z:=[]) tabOK mixedOK Tryz.func141 rfl (by kernel_rfl) rfl rfl (by kernel_rfl) rfl ?_
 intro W0 w0 ρ0 hE
 conv=>whnf
 by_cases h1:65536≤x
 ·have t1:decide ((x:Int)≥65536)=true:=by simp;omega
  by_cases h2:256≤x/65536
  ·have t2:decide (((x/65536:Nat):Int)≥256)=true:=by simp;omega
   (repeat((first|refine step_w1 rfl rfl ?_|refine And.intro (by first|decide|omega|(simp only[tl0,dlen,List.length_replicate,List.length_set,List.length_map,List.length_zipWith,List.length_take,List.length_append,List.length_cons,List.length_nil];omega)) ?_|rw[t1]|rw[s16]|rw[t2]|rw[s8]|rw[wu8 (n:=x/65536/256) (by omega)]);conv=>whnf))
   refine⟨tab_bound (by omega) (by kernel_rfl), ?_⟩
   conv=>whnf
   skip
   rw[tab_val (j:=x/65536/256) (by omega),show IntKind.i64.wrap (IntKind.i64.wrap (16+8)+IntKind.i64.wrap ((sz (x/65536/256):Nat):Int))=IntKind.i64.wrap (24+IntKind.i64.wrap ((sz (x/65536/256):Nat):Int))from rfl,fin (x/65536/256) 24 (by omega) ?_ (by omega) (by omega)]
   ·exact Recast.refl _
   ·rw[sz_shift (n:=x) (k:=24) (by omega),Nat.div_div_eq_div_mul];rfl
   ·kernel_rfl
  ·have t2:decide (((x/65536:Nat):Int)≥256)=false:=by simp;omega
   (repeat((first|refine step_w1 rfl rfl ?_|refine step_w2 rfl rfl ?_|refine And.intro (by first|decide|omega|(simp only[tl0,dlen,List.length_replicate,List.length_set,List.length_map,List.length_zipWith,List.length_take,List.length_append,List.length_cons,List.length_nil];omega)) ?_|rw[t1]|rw[s16]|rw[t2]|rw[wu8 (n:=x/65536) (by omega)]);conv=>whnf))
   refine⟨tab_bound (by omega) (by kernel_rfl), ?_⟩
   conv=>whnf
   skip
   rw[tab_val (j:=x/65536) (by omega),fin (x/65536) 16 (by omega) ?_ (by omega) (by omega)]
   ·exact Recast.refl _
   ·rw[sz_shift (n:=x) (k:=16) (by omega)];rfl
   ·kernel_rfl
 ·have t1:decide ((x:Int)≥65536)=false:=by simp;omega
  by_cases h2:256≤x
  ·have t2:decide ((x:Int)≥256)=true:=by simp;omega
   (repeat((first|refine step_w1 rfl rfl ?_|refine step_w2 rfl rfl ?_|refine And.intro (by first|decide|omega|(simp only[tl0,dlen,List.length_replicate,List.length_set,List.length_map,List.length_zipWith,List.length_take,List.length_append,List.length_cons,List.length_nil];omega)) ?_|rw[t1]|rw[t2]|rw[s8]|rw[wu8 (n:=x/256) (by omega)]);conv=>whnf))
   refine⟨tab_bound (by omega) (by kernel_rfl), ?_⟩
   conv=>whnf
   skip
   rw[tab_val (j:=x/256) (by omega),show IntKind.i64.wrap (0+8)=8 from rfl,fin (x/256) 8 (by omega) ?_ (by omega) (by omega)]
   ·exact Recast.refl _
   ·rw[sz_shift (n:=x) (k:=8) (by omega)];rfl
   ·kernel_rfl
  ·have t2:decide ((x:Int)≥256)=false:=by simp;omega
   (repeat((first|refine step_w2 rfl rfl ?_|rw[t1]|rw[t2]|rw[wu8 (n:=x) (by omega)]);conv=>whnf))
   refine⟨tab_bound (by omega) (by kernel_rfl), ?_⟩
   conv=>whnf
   skip
   rw[tab_val (j:=x) (by omega),fin x 0 (by omega) (by omega) (by omega) (by omega)]
   ·exact Recast.refl _
   ·kernel_rfl
theorem c_LZ32 (x:Nat) (hx:x<4294967296):
  CallOK Tryz.prog 119 [.val (.int .u32 x)] [] (.val (.int .i64 ((32 - sz x:Nat)))) [] []:=by
 have k1:=c_Len32 x hx
 have:=sz_le.2 (show x<2^32 from hx)
 have e:IntKind.i64.wrap (32 - ((sz x:Nat):Int))=((32 - sz x:Nat):Int):=by rw[wrap_i64 (by omega) (by omega)];omega
 refine callV (Z:=[]) tabOK mixedOK Tryz.func119 rfl (by kernel_rfl) rfl rfl (by kernel_rfl) rfl ?_
 intro W0 w0 ρ0 hE
 conv=>whnf
 (repeat(first|(refine g_c (by assumption) ?_;conv=>whnf)|(rw[e];conv=>whnf)))
 exact Recast.refl _
end Go.Proofs.YthaeohlijigplaaGreat
namespace Go.Proofs.YthaeohlijigplaaGreat
open Go.Sx
set_option linter.unusedSimpArgs false
set_option linter.unusedVariables false
set_option maxRecDepth 100000
set_option maxHeartbeats 4000000
def wArr (n:Nat):List Int:=if n<18446744073709551616 then[((n % 4294967296:Nat):Int),((n/4294967296:Nat):Int)]else wInts n
theorem wArr_len (n:Nat):(wInts n).length≤(wArr n).length:=by
 unfold wArr
 split
 ·rename_i h
  exact len_le_of (k:=2) (by simpa using h)
 ·exact Nat.le_refl _
theorem wArr_small {n:Nat} (h:n<18446744073709551616):wArr n=[((n % 4294967296:Nat):Int),((n/4294967296:Nat):Int)]:=by rw[wArr,if_pos h]
theorem wArr_w32 (n:Nat):W32 (wArr n):=by
 unfold wArr
 split
 ·refine W32_of fun x hx=> ?_
  simp only[List.mem_cons,List.not_mem_nil,or_false]at hx
  rcases hx with rfl|rfl<;>omega
 ·exact wInts_w32 n
theorem cut_small {n:Nat} (h:n<18446744073709551616):cutN [((n % 4294967296:Nat):Int),((n/4294967296:Nat):Int)] 2=(wInts n).length:=by
 have e1:∀m:Nat,m<4294967296→m≠0→wInts m=[(m:Int)]:=fun m hm h0=>by
  rw[wInts_succ h0,Nat.mod_eq_of_lt hm,Nat.div_eq_of_lt hm,wInts_zero]
 by_cases h1:n/4294967296=0
 ·by_cases h2:n=0
  ·subst h2;rfl
  ·rw[e1 n (by omega) h2]
   have:n % 4294967296≠0:=by omega
   simp[cutN,h1];omega
 ·have hn:n≠0:=by omega
  rw[wInts_succ hn,e1 _ (by omega) h1]
  simp[cutN];omega
theorem wInts_small {n:Nat} (h:n<18446744073709551616) (hn:n≠0):wInts n=if n/4294967296=0 then[((n % 4294967296:Nat):Int)]else[((n % 4294967296:Nat):Int),((n/4294967296:Nat):Int)]:=by
 rw[wInts_succ hn]
 split
 ·rename_i h1;rw[h1,wInts_zero]
 ·rename_i h1
  rw[wInts_succ h1,Nat.div_eq_of_lt (a:=n/4294967296) (by omega),wInts_zero,Nat.mod_eq_of_lt (a:=n/4294967296) (by omega)]
theorem wArr_get {n i:Nat} (hi:i<(wInts n).length):(wArr n).getD i 0=(wInts n).getD i 0:=by
 unfold wArr
 split
 ·rename_i h
  have hn:n≠0:=fun h0=>by subst h0;simp[wInts_zero]at hi
  rw[wInts_small h hn]at hi ⊢
  split at hi
  ·rename_i h1
   obtain rfl:i=0:=by simpa using hi
   rw[if_pos h1];rfl
  ·rename_i h1
   rw[if_neg h1]
 ·rfl
theorem wArr_val (n:Nat):valI (wArr n) (wInts n).length=n:=by
 rw[valI_congr (ys:=wInts n) (fun i hi=>wArr_get hi),wInts_val]
theorem c_words_s (n:Nat) (K:Nat) (h:n<18446744073709551616):
  CallOK Tryz.prog 58 [.nat n] [] (.slc K 1 0 (wInts n).length) [(K,⟨104,true,.ints .u32 (wArr n)⟩)] []:=by
 rw[wArr_small h]
 refine callK (Z:=[]) tabOK mixedOK Tryz.func58 rfl (by kernel_rfl) (args:=[.nat n]) (fk:=[]) (c:=.slc 16 1 0 (wInts n).length) (new:=[(16,⟨104,true,.ints .u32 [((n % 4294967296:Nat):Int),((n/4294967296:Nat):Int)]⟩)]) (upd:=[]) ?_ rfl (fun _=>K) ?_ ?_
 ·exact⟨rfl,rfl,rfl,rfl,rfl,(fun _ _ h=>by cases h),(fun k b h hw=>by cases h),rfl,rfl,rfl,rfl⟩
 ·exact⟨(fun q q' b b' h h' hne=>by cases h),(fun m m' h1 h2 hne=>by simp[keysOf]at h1 h2;omega),(fun _ _ h1 h2=>by simp[keysOf]at h2)⟩
 intro W0 w0 ρ0 hE
 conv=>whnf
 rw[big_eq,decide_eq_true h]
 have e1:IntKind.u32.wrap (n:Int)=((n % 4294967296:Nat):Int):=wu32m n
 have e2:IntKind.u32.wrap (ishr .u64 (n:Int) 32)=((n/4294967296:Nat):Int):=by rw[ishr_hi,wu32 (by omega)]
 (repeat((first|refine step_w1 rfl rfl ?_|refine And.intro (by first|decide|omega|(simp only[tl0,dlen,List.length_replicate,List.length_set,List.length_map,List.length_zipWith,List.length_take,List.length_append,List.length_cons,List.length_nil];omega)) ?_|rw[low_small h]|rw[e1]|rw[e2]);conv=>whnf))
 refine⟨_,_,[],[],c_cut [((n % 4294967296:Nat):Int),((n/4294967296:Nat):Int)] 2 (Nat.le_refl 2) (by simp) 16 true,one_fk rfl,nil_new,nil_upd, ?_⟩
 rw[cut_small h]
 conv=>whnf
 skip
 exact⟨Recast.refl _,one_get rfl,(fun _ _ h=>by cases h)⟩
theorem flat4 (l:List Nat) (i k:Nat) (hk:k<4):(l.flatMap wordBytes).getD (4*i+k) 0=if i<l.length then(wordBytes (l.getD i 0)).getD k 0 else 0:=by
 induction l generalizing i with
 |nil=>simp
 |cons x l ih=>
  have h4:(wordBytes x).length=4:=rfl
  rw[List.flatMap_cons]
  cases i with
  |zero=>
   rw[List.getD_eq_getElem?_getD,List.getElem?_append_left (by omega),Nat.mul_zero,Nat.zero_add,if_pos (by simp),List.getD_cons_zero,List.getD_eq_getElem?_getD]
  |succ i=>
   have:=ih i
   rw[List.getD_eq_getElem?_getD]at this
   rw[List.getD_eq_getElem?_getD,List.getElem?_append_right (by omega),h4,show 4*(i+1)+k - 4=4*i+k from by omega,this,List.getD_cons_succ]
   simp
theorem big_byte {n i k:Nat} (h:¬n<18446744073709551616) (hi:i<(wInts n).length) (hk:k<4):
  (((big n).data.getD (4*i+k) 0).toNat:Int)=(wInts n).getD i 0/256^k % 256:=by
 have hbig:big n=⟨((words n).flatMap wordBytes).toArray⟩:=by simp[big,h]
 have e1:(wInts n).getD i 0=(((words n).getD i 0:Nat):Int):=by
  simp only[wInts,List.getD_eq_getElem?_getD,List.getElem?_map]
  cases (words n)[i]? <;>rfl
 have hi':i<(words n).length:=by rw[←wInts_length];exact hi
 rw[hbig,e1]
 show((((words n).flatMap wordBytes).toArray.getD (4*i+k) 0).toNat:Int)=_
 have e2:((words n).flatMap wordBytes).toArray.getD (4*i+k) 0=((words n).flatMap wordBytes).getD (4*i+k) 0:=by
  rw[Array.getD_eq_getD_getElem?,List.getD_eq_getElem?_getD];simp
 rw[e2,flat4 _ _ _ hk,if_pos hi']
 have hc:k=0∨k=1∨k=2∨k=3:=by omega
 rcases hc with rfl|rfl|rfl|rfl<;>simp[wordBytes,UInt8.toNat_ofNat']<;>omega
theorem big_size {n:Nat} (h:¬n<18446744073709551616):(big n).size=4*(wInts n).length:=by
 have hbig:big n=⟨((words n).flatMap wordBytes).toArray⟩:=by simp[big,h]
 rw[hbig,wInts_length]
 show((words n).flatMap wordBytes).toArray.size=_
 rw[List.size_toArray]
 generalize words n=l
 induction l with
 |nil=>rfl
 |cons x l ih=>rw[List.flatMap_cons,List.length_append,ih,List.length_cons,show(wordBytes x).length=4 from rfl];omega
theorem or_step {x:Int} {k:Nat} (hx:0≤x∧x<4294967296) (hk:k<4):
  ior .u32 (x % 256^k) (ishl .u32 (IntKind.u32.wrap (x/256^k % 256)) ((8*k:Nat):Int))=x % 256^(k+1):=by
 obtain⟨n,rfl⟩:=Int.eq_ofNat_of_zero_le hx.1
 have key:∀(p:Nat) (s:Nat),s≤24→p=2^s→ior .u32 ((n % p:Nat):Int) (ishl .u32 (((n/p % 256:Nat)):Int) (s:Int))=((n % (p*256):Nat):Int):=by
  intro p s hs hp
  have hpos:0<p:=by rw[hp];exact Nat.two_pow_pos s
  have hple:p≤16777216:=by rw[hp];exact Nat.le_trans (Nat.pow_le_pow_right (by decide) hs) (by decide)
  have h1:n % p<p:=Nat.mod_lt _ hpos
  have h2:n/p % 256<256:=Nat.mod_lt _ (by decide)
  have e:ishl .u32 (((n/p % 256:Nat)):Int) (s:Int)=((p*(n/p % 256):Nat):Int):=by
   have hmin:min (s:Int).toNat IntKind.u32.bits=s:=by simp[IntKind.bits];omega
   rw[ishl,hmin]
   have:((n/p % 256:Nat):Int)*2^s=((p*(n/p % 256):Nat):Int):=by
    rw[Int.natCast_mul,hp,Int.natCast_pow,Int.mul_comm];rfl
   rw[this]
   refine wu32 ?_
   have:=Nat.mul_le_mul hple (show n/p % 256≤255 by omega)
   omega
  have hlt:p*(n/p % 256)<4294967296:=by
   have:=Nat.mul_le_mul hple (show n/p % 256≤255 by omega)
   omega
  rw[e,ior_u32 (by omega) hlt,Nat.or_comm,hp,←Nat.two_pow_add_eq_or_of_lt (by rw[←hp];exact h1),←hp,Nat.mod_mul,Nat.add_comm]
 have hp:(256:Int)^k=((256^k:Nat):Int):=by rw[Int.natCast_pow];rfl
 have hp':(256:Int)^(k+1)=((256^k*256:Nat):Int):=by rw[←Nat.pow_succ,Int.natCast_pow];rfl
 have:=key (256^k) (8*k) (by omega) (by rw[Nat.pow_mul])
 rw[hp,hp']
 simp only[←Int.natCast_emod,←Int.natCast_ediv]
 rw[show(((n/256^k:Nat):Int) % 256)=((n/256^k % 256:Nat):Int)from by rw[Int.natCast_emod];rfl,wu32 (by omega)]
 exact this
theorem c_words_b (n:Nat) (K:Nat) (h:¬n<18446744073709551616) (hl:(wInts n).length<1099511627776):
  CallOK Tryz.prog 58 [.nat n] [] (.slc K 1 0 (wInts n).length) [(K,⟨104,true,.ints .u32 (wArr n)⟩)] []:=by
 rw[show wArr n=wInts n from if_neg h]
 refine callK (Z:=[]) tabOK mixedOK Tryz.func58 rfl (by kernel_rfl) (args:=[.nat n]) (fk:=[]) (c:=.slc 22 1 0 (wInts n).length) (new:=[(22,⟨104,true,.ints .u32 (wInts n)⟩)]) (upd:=[]) ?_ rfl (fun _=>K) ?_ ?_
 ·exact⟨rfl,rfl,rfl,rfl,rfl,(fun _ _ h=>by cases h),(fun k b h hw=>by cases h),rfl,rfl,rfl,rfl⟩
 ·exact⟨(fun q q' b b' h h' hne=>by cases h),(fun m m' h1 h2 hne=>by simp[keysOf]at h1 h2;omega),(fun _ _ h1 h2=>by simp[keysOf]at h2)⟩
 intro W0 w0 ρ0 hE
 conv=>whnf
 rw[big_eq,decide_eq_false h]
 have hs:=big_size h
 have eL:IntKind.i64.wrap (((big n).size:Int).tdiv 4)=((wInts n).length:Int):=by
  rw[hs,show((4*(wInts n).length:Nat):Int)=4*((wInts n).length:Int)from by omega,Int.mul_tdiv_cancel_left _ (by decide),wi64 (by omega)]
 have hb:=fun i k hi hk=>big_byte (n:=n) (i:=i) (k:=k) h hi hk
 have hw32:=wInts_w32 n
 generalize hw:wInts n=ws at*
 (repeat(first|(refine step_w2 rfl rfl ?_;conv=>whnf)|(refine And.intro (by first|decide|omega|(simp only[tl0,dlen,List.length_replicate,List.length_set,List.length_map,List.length_zipWith,List.length_take,List.length_append,List.length_cons,List.length_nil];omega)) ?_;conv=>whnf)|(rw[eL];conv=>whnf)))
 refine SW_loopN hE (fun k=>k) [1,3,24,25] [1,22] (fun m fr hp=>∃i,m=ws.length - i∧i≤ws.length∧fr=[(1,.ptr 1 0 0 0),(3,.slc 22 1 0 ws.length),(24,.val (.int .i64 ws.length)),(25,.val (.int .i64 (i:Nat)))]∧hp=[(1,⟨41,true,.one [.nat n]⟩),(22,⟨104,true,.ints .u32 (ws.take i++List.replicate (ws.length - i) 0)⟩)]) ws.length ?_ ?_ ?_
 ·kernel_rfl
 ·exact⟨0,rfl,by omega,rfl,rfl⟩
 rintro m _ _ ⟨i,rfl,hi,rfl,rfl⟩
 conv=>whnf
 refine⟨fun h=> ?_,fun h=> ?_⟩
 ·have hi':i<ws.length:=by have:=of_decide_eq_true h;omega
  conv=>whnf
  skip
  have hin:ws.take i++List.replicate (ws.length - i) (0:Int)=ws.take i++(ws.getD i 0 % 256^0)::List.replicate (ws.length - (i+1)) 0:=by
   rw[show ws.length - i=(ws.length - (i+1))+1 from by omega,List.replicate_succ]
   congr 2
   rw[Int.pow_zero];omega
  rw[hin]
  have hlt:(ws.take i).length=i:=by rw[List.length_take];omega
  have hget:∀(a:Int) r,(ws.take i++a::r).getD i 0=a:=fun a r=>by
   rw[getD_append,hlt,if_neg (by omega),Nat.sub_self];rfl
  have hset:∀(a v:Int) r,(ws.take i++a::r).set i v=ws.take i++v::r:=fun a v r=>by
   rw[List.set_append_right _ _ (by omega),hlt,Nat.sub_self];rfl
  have hx:=hw32 i
  refine SW_loopN hE (fun k=>k) [1,3,4,24,25,28] [1,22] (fun m fr hp=>∃k,m=4 - k∧k≤4∧fr=[(1,.ptr 1 0 0 0),(3,.slc 22 1 0 ws.length),(4,.val (.int .i64 (i:Nat))),(24,.val (.int .i64 ws.length)),(25,.val (.int .i64 (i:Nat))),(28,.val (.int .i64 (k:Nat)))]∧hp=[(1,⟨41,true,.one [.nat n]⟩),(22,⟨104,true,.ints .u32 (ws.take i++(ws.getD i 0 % 256^k)::List.replicate (ws.length - (i+1)) 0)⟩)]) 4 ?_ ?_ ?_
  ·kernel_rfl
  ·exact⟨0,rfl,by omega,rfl,rfl⟩
  rintro m _ _ ⟨k,rfl,hk,rfl,rfl⟩
  conv=>whnf
  refine⟨fun h=> ?_,fun h=> ?_⟩
  ·have hk':k<4:=by have:=of_decide_eq_true h;omega
   conv=>whnf
   have f1:IntKind.i64.wrap (4*(i:Int))=((4*i:Nat):Int):=by rw[wrap_i64 (by omega) (by omega)];omega
   have f2:IntKind.i64.wrap (((4*i:Nat):Int)+(k:Int))=((4*i+k:Nat):Int):=by rw[wrap_i64 (by omega) (by omega)];omega
   have f3:IntKind.i64.wrap (8*(k:Int))=((8*k:Nat):Int):=by rw[wrap_i64 (by omega) (by omega)];omega
   have f4:IntKind.i64.wrap ((k:Int)+1)=((k+1:Nat):Int):=by rw[wrap_i64 (by omega) (by omega)];omega
   have hll:(ws.take i++(ws.getD i 0 % 256^k)::List.replicate (ws.length - (i+1)) 0).length=ws.length:=by
    simp only[List.length_append,List.length_cons,List.length_replicate,hlt];omega
   have hoff:0+(i:Int).toNat<(ws.take i++(ws.getD i 0 % 256^k)::List.replicate (ws.length - (i+1)) 0).length:=by rw[hll];omega
   have f5:(((big n).data.getD ((4*i+k:Nat):Int).toNat 0).toNat:Int)=ws.getD i 0/256^k % 256:=hb i k hi' hk'
   have f6:=or_step hx hk'
   (repeat((first|refine step_i (by kernel_rfl) ?_|refine And.intro (by first|decide|omega|(simp only[tl0,dlen,List.length_replicate,List.length_set,List.length_map,List.length_zipWith,List.length_take,List.length_append,List.length_cons,List.length_nil];omega)) ?_|rw[show 0+(i:Int).toNat=i from by omega]|rw[hget]|rw[f1]|rw[f2]|rw[f3]);conv=>whnf))
   rw[hset,f5,f6,f4]
   exact⟨4 - (k+1),fun k=>k,[1,3,4,24,25,28],[1,22],by omega,by kernel_rfl,k+1,rfl,by omega,rfl,rfl⟩
  ·have hk':k=4:=by have:=of_decide_eq_false h;omega
   subst hk'
   have f4:IntKind.i64.wrap ((i:Int)+1)=((i+1:Nat):Int):=by rw[wrap_i64 (by omega) (by omega)];omega
   have hfull:ws.take i++(ws.getD i 0 % 256^4)::List.replicate (ws.length - (i+1)) 0=ws.take (i+1)++List.replicate (ws.length - (i+1)) 0:=by
    rw[show(256:Int)^4=4294967296 from rfl,Int.emod_eq_of_lt hx.1 hx.2,List.take_add_one,List.append_assoc]
    have:ws[i]? =some (ws.getD i 0):=by rw[List.getD_eq_getElem?_getD,List.getElem?_eq_getElem hi'];rfl
    rw[this];rfl
   rw[hfull]
   conv=>whnf
   (repeat(first|(rw[f4];conv=>whnf)))
   exact⟨ws.length - (i+1),fun k=>k,[1,3,24,25],[1,22],by omega,by kernel_rfl,i+1,rfl,by omega,rfl,rfl⟩
 ·have hi':i=ws.length:=by have:=of_decide_eq_false h;omega
  subst hi'
  conv=>whnf
  rw[List.take_length,Nat.sub_self,List.replicate_zero,List.append_nil]
  exact⟨Recast.refl _,one_get rfl,(fun _ _ h=>by cases h)⟩
theorem c_words (n:Nat) (K:Nat) (hl:(wInts n).length<1099511627776):
  CallOK Tryz.prog 58 [.nat n] [] (.slc K 1 0 (wInts n).length) [(K,⟨104,true,.ints .u32 (wArr n)⟩)] []:=by
 by_cases h:n<18446744073709551616
 ·exact c_words_s n K h
 ·exact c_words_b n K h hl
end Go.Proofs.YthaeohlijigplaaGreat
namespace Go.Proofs.YthaeohlijigplaaGreat
open Go.Sx
set_option linter.unusedSimpArgs false
set_option linter.unusedVariables false
set_option maxRecDepth 100000
set_option maxHeartbeats 4000000
theorem c_sign (z:Int):CallOK Tryz.prog 140 [.val (.int .i64 z)] [] (.val (.int .i64 z.sign)) [] []:=by
 refine callV (Z:=[]) tabOK mixedOK Tryz.func140 rfl (by kernel_rfl) rfl rfl (by kernel_rfl) rfl ?_
 intro W0 w0 ρ0 hE
 conv=>whnf
 skip
 have e:(if (if z<1 then z else 1)> -1 then(if z<1 then z else 1)else -1)=z.sign:=by
  rcases Int.lt_trichotomy z 0 with h|h|h
  ·rw[Int.sign_eq_neg_one_of_neg h];split<;>(try split at*)<;>omega
  ·subst h;rfl
  ·rw[Int.sign_eq_one_of_pos h];split<;>(try split at*)<;>omega
 rw[e]
 exact Recast.refl _
theorem valI_diff {xs ys:List Int} {j:Nat}:∀{n:Nat},j≤n→(∀i,j≤i→i<n→xs.getD i 0=ys.getD i 0)→valI xs n - valI ys n=valI xs j - valI ys j
 |0,h,_=>by obtain rfl:j=0:=by omega
            rfl
 |n+1,h,he=>by
  by_cases hj:j=n+1
  ·rw[hj]
  ·have:=valI_diff (n:=n) (by omega) (fun i h1 h2=>he i h1 (by omega))
   rw[valI,valI,he n (by omega) (by omega)];omega
theorem valI_lt_of {xs ys:List Int} (hx:W32 xs) (hy:W32 ys) {j:Nat} (h:xs.getD j 0<ys.getD j 0):valI xs (j+1)<valI ys (j+1):=by
 have h1:=valI_lt hx j
 have h2:=valI_nonneg hy j
 have h3:(xs.getD j 0+1)*4294967296^j≤ys.getD j 0*4294967296^j:=Int.mul_le_mul_of_nonneg_right (by omega) (Int.le_of_lt (powW_pos j))
 rw[Int.add_mul,Int.one_mul]at h3
 rw[valI,valI];omega
theorem valI_lt_len {xs ys:List Int} (hx:W32 xs) (hy:W32 ys) {n m:Nat} (h:n<m) (ht:ys.getD (m - 1) 0≠0):valI xs n<valI ys m:=by
 obtain⟨j,rfl⟩:∃j,m=j+1:=⟨m - 1,by omega⟩
 have h1:=valI_lt hx n
 have h2:=valI_ge hy (k:=j) (by simpa using ht)
 have h3:(4294967296:Int)^n≤4294967296^j:=by
  have:(4294967296:Nat)^n≤4294967296^j:=Nat.pow_le_pow_right (by decide) (by omega)
  rw[←natPowW,←natPowW];exact Int.ofNat_le.2 this
 omega
theorem c_cmp (xs ys:List Int) (n m:Nat) (hn:n≤xs.length) (hm:m≤ys.length) (hxl:xs.length<4611686018427387904) (hyl:ys.length<4611686018427387904) (hx:W32 xs) (hy:W32 ys)
  (hxt:n=0∨xs.getD (n - 1) 0≠0) (hyt:m=0∨ys.getD (m - 1) 0≠0) (K L:Nat) (wr wr':Bool):
  CallOK Tryz.prog 117 [.slc K 1 0 n,.slc L 1 0 m] [(K,⟨104,wr,.ints .u32 xs⟩),(L,⟨104,wr',.ints .u32 ys⟩)] (.val (.int .i64 (valI xs n - valI ys m).sign)) [] []:=by
 refine CallOK.anyWr ?_
 refine callK (Z:=[]) tabOK mixedOK Tryz.func117 rfl (by kernel_rfl) (args:=[.slc 0 1 0 n,.slc 1 1 0 m]) (fk:=[(0,⟨104,false,.ints .u32 xs⟩),(1,⟨104,false,.ints .u32 ys⟩)]) (c:=.val (.int .i64 (valI xs n - valI ys m).sign)) (new:=[]) (upd:=[]) (ShapeOK.of rfl rfl rfl rfl rfl rfl rfl rfl rfl rfl rfl) rfl (renBy [(0,K),(1,L)]) (NamesOK.ro rfl) ?_
 intro W0 w0 ρ0 hE
 conv=>whnf
 by_cases hnm:n=m
 ·subst hnm
  have t1:(((n:Nat):Int) != (n:Nat))=false:=by simp
  have e0:IntKind.i64.wrap ((n:Int) - 1)=(n:Int) - 1:=wrap_i64 (by omega) (by omega)
  (repeat(first|(refine step_w2 rfl rfl ?_;conv=>whnf)|(rw[bne_self_eq_false];conv=>whnf)|(rw[e0];conv=>whnf)))
  refine SW_loopN hE (fun k=>k) [0,1,5] [0,1] (fun m fr hp=>m≤n∧(∀i,m≤i→i<n→xs.getD i 0=ys.getD i 0)∧fr=[(0,.slc 0 1 0 n),(1,.slc 1 1 0 n),(5,.val (.int .i64 ((m:Int) - 1)))]∧hp=[(0,⟨104,false,.ints .u32 xs⟩),(1,⟨104,false,.ints .u32 ys⟩)]) n ?_ ?_ ?_
  ·kernel_rfl
  ·exact⟨by omega,(fun i h1 h2=>by omega),rfl,rfl⟩
  rintro j _ _ ⟨hj,heq,rfl,rfl⟩
  rw[valI_diff (j:=j) hj heq]
  by_cases h0:j=0
  ·subst h0
   have t2:decide (((0:Nat):Int) - 1≥0)=false:=rfl
   conv=>whnf
   (repeat(first|(refine step_w2 rfl rfl ?_;conv=>whnf)))
   exact⟨Recast.refl _,(fun _ _ h=>by cases h),(fun _ _ h=>by cases h)⟩
  ·obtain⟨i,rfl⟩:∃i,j=i+1:=⟨j - 1,by omega⟩
   have ei:(((i+1:Nat):Int) - 1)=(i:Int):=by omega
   rw[ei]
   have t2:decide ((i:Int)≥0)=true:=decide_eq_true (by omega)
   have e1:0+(i:Int).toNat=i:=by omega
   have e2:IntKind.i64.wrap ((i:Int) - 1)=(i:Int) - 1:=wrap_i64 (by omega) (by omega)
   by_cases hne:xs.getD i 0=ys.getD i 0
   ·have t3:(xs.getD i 0 != ys.getD i 0)=false:=by rw[hne];exact bne_self_eq_false _
    conv=>whnf
    (repeat((first|refine step_w1 rfl rfl ?_|refine step_w2 rfl rfl ?_|refine step_i (by kernel_rfl) ?_|refine And.intro (by first|decide|omega|(simp only[tl0,dlen,List.length_replicate,List.length_set,List.length_map,List.length_zipWith,List.length_take,List.length_append,List.length_cons,List.length_nil];omega)) ?_|rw[t2]|rw[e1]|rw[t3]|rw[e2]);conv=>whnf))
    exact⟨i,fun k=>k,[0,1,5],[0,1],by omega,by kernel_rfl,by omega,(fun q h1 h2=>by
     by_cases hq:q=i
     ·rw[hq];exact hne
     ·exact heq q (by omega) h2),rfl,rfl⟩
   ·have t3:(xs.getD i 0 != ys.getD i 0)=true:=bne_iff_ne.2 hne
    by_cases hlt:xs.getD i 0<ys.getD i 0
    ·have t4:decide (xs.getD i 0<ys.getD i 0)=true:=decide_eq_true hlt
     have:=valI_lt_of hx hy hlt
     rw[Int.sign_eq_neg_one_of_neg (by omega)]
     conv=>whnf
     (repeat((first|refine step_w1 rfl rfl ?_|refine step_i (by kernel_rfl) ?_|refine And.intro (by first|decide|omega|(simp only[tl0,dlen,List.length_replicate,List.length_set,List.length_map,List.length_zipWith,List.length_take,List.length_append,List.length_cons,List.length_nil];omega)) ?_|rw[t2]|rw[e1]|rw[t3]|rw[t4]);conv=>whnf))
     exact⟨Recast.refl _,(fun _ _ h=>by cases h),(fun _ _ h=>by cases h)⟩
    ·have t4:decide (xs.getD i 0<ys.getD i 0)=false:=decide_eq_false hlt
     have:=valI_lt_of hy hx (j:=i) (by omega)
     rw[Int.sign_eq_one_of_pos (by omega)]
     conv=>whnf
     (repeat((first|refine step_w1 rfl rfl ?_|refine step_w2 rfl rfl ?_|refine step_i (by kernel_rfl) ?_|refine And.intro (by first|decide|omega|(simp only[tl0,dlen,List.length_replicate,List.length_set,List.length_map,List.length_zipWith,List.length_take,List.length_append,List.length_cons,List.length_nil];omega)) ?_|rw[t2]|rw[e1]|rw[t3]|rw[t4]);conv=>whnf))
     exact⟨Recast.refl _,(fun _ _ h=>by cases h),(fun _ _ h=>by cases h)⟩
 ·have t1:(((n:Nat):Int) != (m:Nat))=true:=bne_iff_ne.2 (by omega)
  have e0:IntKind.i64.wrap ((n:Int) - m)=(n:Int) - m:=wrap_i64 (by omega) (by omega)
  have k1:=c_sign ((n:Int) - m)
  have e:((n:Int) - m).sign=(valI xs n - valI ys m).sign:=by
   by_cases h:n<m
   ·have:=valI_lt_len hx hy h (hyt.resolve_left (by omega))
    rw[Int.sign_eq_neg_one_of_neg (by omega),Int.sign_eq_neg_one_of_neg (by omega)]
   ·have:=valI_lt_len hy hx (show m<n by omega) (hxt.resolve_left (by omega))
    rw[Int.sign_eq_one_of_pos (by omega),Int.sign_eq_one_of_pos (by omega)]
  rw[e]at k1
  (repeat((first|refine step_w1 rfl rfl ?_|refine g_c (by assumption) ?_|rw[t1]|rw[e0]);conv=>whnf))
  exact⟨Recast.refl _,(fun _ _ h=>by cases h),(fun _ _ h=>by cases h)⟩
theorem wt_top (n:Nat):(wInts n).length=0∨(wArr n).getD ((wInts n).length - 1) 0≠0:=by
 by_cases h:n=0
 ·subst h;exact .inl rfl
 ·obtain⟨h1,h2⟩:=wInts_top h
  exact .inr (by rw[wArr_get (by omega)];exact h2)
theorem wlen_sz {n M:Nat} (h:sz n≤32*M):(wInts n).length≤M:=len_le_of (by
 have:=sz_le.1 h
 rwa [Nat.pow_mul]at this)
theorem wArr_len2 (n:Nat) {M:Nat} (h:(wInts n).length≤M) (h2:2≤M):(wArr n).length≤M:=by
 unfold wArr
 split
 ·exact h2
 ·exact h
theorem c_Cmp (a b:Nat) (ha:(wInts a).length<1099511627776) (hb:(wInts b).length<1099511627776):
  CallOK Tryz.prog 88 [.nat a,.nat b] [] (.val (.int .i64 ((a:Int) - b).sign)) [] []:=by
 by_cases h:a<18446744073709551616∧b<18446744073709551616
 ·exact s_Cmp a b h.1 h.2
 ·have ka:=c_words a 1001 ha
  have kb:=c_words b 1002 hb
  have kc:=c_cmp (wArr a) (wArr b) (wInts a).length (wInts b).length (wArr_len a) (wArr_len b) (by have:=wArr_len2 a (M:=1099511627776) (by omega) (by omega);omega) (by have:=wArr_len2 b (M:=1099511627776) (by omega) (by omega);omega) (wArr_w32 a) (wArr_w32 b) (wt_top a) (wt_top b) 1001 1002 true true
  rw[wArr_val,wArr_val]at kc
  refine callV (Z:=[]) tabOK mixedOK Tryz.func88 rfl (by kernel_rfl) rfl rfl (by kernel_rfl) rfl ?_
  intro W0 w0 ρ0 hE
  conv=>whnf
  by_cases h1:a<18446744073709551616
  ·rw[big_eq,decide_eq_true h1]
   (repeat(first|(refine step_w1 rfl rfl ?_;conv=>whnf)|(refine g_o (op_pickT rfl (ev_ok rfl) (ev_ok rfl)) ?_;conv=>whnf)))
   rw[big_eq,decide_eq_false (show ¬b<18446744073709551616 by omega)]
   (repeat((first|refine step_w2 rfl rfl ?_|refine step_i (by kernel_rfl) ?_|refine g_cn (by assumption) rfl ?_|refine g_c2 (by assumption) rfl rfl ?_);conv=>whnf));exact Recast.refl _
  ·rw[big_eq,decide_eq_false h1]
   (repeat((first|refine step_w2 rfl rfl ?_|refine step_i (by kernel_rfl) ?_|refine g_cn (by assumption) rfl ?_|refine g_c2 (by assumption) rfl rfl ?_|refine g_o (op_pickF rfl (ev_ok rfl) (ev_ok rfl)) ?_);conv=>whnf));exact Recast.refl _
end Go.Proofs.YthaeohlijigplaaGreat
namespace Go.Proofs.YthaeohlijigplaaGreat
open Go.Sx
set_option linter.unusedSimpArgs false
set_option linter.unusedVariables false
set_option maxRecDepth 100000
set_option maxHeartbeats 4000000
theorem wInts_valge (n:Nat) {k:Nat} (h:(wInts n).length≤k):valI (wInts n) k=n:=by
 rw[valI_zeros (k:=(wInts n).length) (fun i h1 _=>getD_ge h1) h,wInts_val]
theorem wArr_take (n:Nat):(wArr n).take (wInts n).length=wInts n:=by
 refine List.ext_getElem? fun i=> ?_
 have hl:=wArr_len n
 by_cases hi:i<(wInts n).length
 ·have h:=wArr_get (n:=n) hi
  rw[List.getD_eq_getElem?_getD,List.getD_eq_getElem?_getD,List.getElem?_eq_getElem hi,List.getElem?_eq_getElem (show i<(wArr n).length by omega)]at h
  rw[List.getElem?_take,if_pos hi,List.getElem?_eq_getElem hi,List.getElem?_eq_getElem (show i<(wArr n).length by omega)]
  simpa using h
 ·rw[List.getElem?_eq_none (l:=wInts n) (by omega),List.getElem?_eq_none (by rw[List.length_take];omega)]
theorem dcopy_words (n:Nat):dcopy (.ints .u32 (List.replicate ((wInts n).length+1) 0)) 0 (.ints .u32 (wArr n)) 0 (wInts n).length=some (.ints .u32 (wInts n++[0])):=by
 simp only[dcopy,if_true,List.take_zero,List.nil_append,List.drop_zero,Nat.zero_add,wArr_take,List.drop_replicate]
 rw[show(wInts n).length+1 - (wInts n).length=1 from by omega]
 rfl
theorem w32_snoc {xs:List Int} (h:W32 xs):W32 (xs++[0]):=by
 intro i
 rw[getD_append]
 split
 ·exact h i
 ·cases i - xs.length with
  |zero=>decide
  |succ j=>simp
theorem getD_snoc (xs:List Int) (j:Nat):(xs++[0]).getD j 0=xs.getD j 0:=by
 rw[getD_append]
 split
 ·rfl
 ·rename_i h
  rw[getD_ge (xs:=xs) (by omega)]
  cases j - xs.length<;>simp
theorem add_step {X Y out:List Int} {i o w c:Nat} (hi:i<out.length) (ho:out.getD i 0=o) (hX:X.getD i 0=o) (hY:Y.getD i 0=w) (hv:valI out i+c*4294967296^i=valI X i+valI Y i):
  valI (out.set i (((o+w+c) % 4294967296:Nat):Int)) (i+1)+(((o+w+c)/4294967296:Nat):Int)*4294967296^(i+1)=valI X (i+1)+valI Y (i+1):=by
 rw[valI,valI,valI,valI_set_ge (Nat.le_refl i),getD_set,if_pos ⟨rfl,hi⟩,hX,hY,Int.pow_succ]
 have hd:(((o+w+c) % 4294967296:Nat):Int)=(o:Int)+w+c - (((o+w+c)/4294967296:Nat):Int)*4294967296:=by omega
 rw[hd]
 generalize (((o+w+c)/4294967296:Nat):Int)=q
 generalize (4294967296:Int)^i=P at*
 grind
theorem add_fin {x y lx ly c:Nat} {v:Int} (hc:c≤1) (h0:0≤v) (hv:v+c*4294967296^(lx+1)=x+y) (hx:x<4294967296^lx) (hy:y<4294967296^ly) (hl:ly≤lx):v.toNat=x+y:=by
 have h1:4294967296^ly≤4294967296^lx:=Nat.pow_le_pow_right (by decide) hl
 have h2:(4294967296:Int)^(lx+1)=((4294967296^lx:Nat):Int)*4294967296:=by rw[natPowW,Int.pow_succ]
 rw[h2]at hv
 have hc':c=0∨c=1:=by omega
 rcases hc' with rfl|rfl<;>omega
theorem n_Add (a b:Nat) (ha:(wInts a).length<549755813888) (hb:(wInts b).length<549755813888):
  CallOK Tryz.prog 50 [.nat a,.nat b] [] (.nat (a+b)) [] []:=by
 by_cases hs:a+b<18446744073709551616
 ·exact s_Add a b hs
 ·have ka:=c_words a 1001 (by omega)
  have kb:=c_words b 1002 (by omega)
  refine callV (Z:=[]) tabOK mixedOK Tryz.func50 rfl (by kernel_rfl) rfl rfl (by kernel_rfl) rfl ?_
  intro W0 w0 ρ0 hE
  conv=>whnf
  by_cases h1:a<18446744073709551616
  ·rw[big_eq,decide_eq_true h1]
   (repeat(first|(refine step_w1 rfl rfl ?_;conv=>whnf)|(refine g_o (op_pickT rfl (ev_ok rfl) (ev_ok rfl)) ?_;conv=>whnf)))
   by_cases h2:b<18446744073709551616
   ·rw[big_eq,decide_eq_true h2]
    have k64:=c_Add64 a b h1 h2
    rw[show(a+b)/18446744073709551616=1 from by omega]at k64
    (repeat((first|refine step_w1 rfl rfl ?_|refine step_w2 rfl rfl ?_|refine step_i (by kernel_rfl) ?_|refine g_c (by assumption) ?_|refine g_cn (by assumption) rfl ?_|rw[low_small h1]|rw[low_small h2]);conv=>whnf))
    skip
    by_cases hl:(wInts a).length<(wInts b).length
    ·rw[decide_eq_true (show((wInts a).length:Int)<((wInts b).length:Int) by omega)]
     have ew:IntKind.i64.wrap (((wInts b).length:Int)+1)=(((wInts b).length+1:Nat):Int):=by rw[wrap_i64 (by omega) (by omega)];omega
     (repeat(first|(refine step_w1 rfl rfl ?_;conv=>whnf)|(refine And.intro (by first|decide|omega|(simp only[tl0,dlen,List.length_replicate,List.length_set,List.length_map,List.length_zipWith,List.length_take,List.length_append,List.length_cons,List.length_nil];omega)) ?_;conv=>whnf)|(rw[ew];conv=>whnf)))
     refine⟨_,[(47,⟨104,true,.ints .u32 (List.replicate ((wInts b).length+1) 0)⟩),(1002,⟨104,true,.ints .u32 (wArr b)⟩)],[],[(47,⟨104,true,.ints .u32 (wInts b++[0])⟩)],op_copy (c:=(wInts b).length) (n:=(wInts b).length+1) rfl rfl rfl (ev_ok rfl) (ev_ok rfl) (tabOK.get (t:=132) rfl) rfl (tabOK.get (t:=104) rfl) (List.mem_cons_self ..) (List.mem_cons_of_mem _ (List.mem_cons_self ..)) rfl rfl rfl rfl (by simp[dlen]) (by show 0+_≤(wArr b).length;have:=wArr_len b;omega) (Nat.min_eq_left (Nat.le_succ _)).symm (dcopy_words b),two_fk rfl rfl,nil_new,one_upd (List.mem_cons_self ..) rfl rfl rfl, ?_⟩
     conv=>whnf
     skip
     refine SW_loopN hE (fun k=>k) [4,8,9,10,52,53] [4,1001,47] (fun m fr hp=>∃(i:Nat) (out:List Int) (c:Nat),m=(wInts b).length+1 - i∧i≤(wInts b).length+1∧c≤1∧out.length=(wInts b).length+1∧W32 out∧(∀j,i≤j→out.getD j 0=(wInts b).getD j 0)∧valI out i+c*4294967296^i=valI (wInts b) i+valI (wInts a) i∧
      fr=[(4,.ptr 4 0 0 0),(8,.slc 1001 1 0 (wInts a).length),(9,.slc 47 1 0 ((wInts b).length+1)),(10,.val (.int .u32 c)),(52,.val (.int .i64 (((wInts b).length+1:Nat)))),(53,.val (.int .i64 i))]∧hp=[(4,⟨41,true,.one [.nat 0]⟩),(1001,⟨104,true,.ints .u32 (wArr a)⟩),(47,⟨104,true,.ints .u32 out⟩)]) ((wInts b).length+1) ?_ ?_ ?_
     ·kernel_rfl
     ·exact⟨0,wInts b++[0],0,by omega,by omega,by omega,by simp,w32_snoc (wInts_w32 b),(fun j _=>getD_snoc _ j),by simp[valI],rfl,rfl⟩
     rintro m _ _ ⟨i,out,c,rfl,hi,hc,hlen,hw,hrest,hval,rfl,rfl⟩
     by_cases hlt:i<(wInts b).length+1
     ·have t1:decide ((i:Int)<(((wInts b).length+1:Nat):Int))=true:=decide_eq_true (by omega)
      have e1:0+(i:Int).toNat=i:=by omega
      have e2:IntKind.i64.wrap ((i:Int)+1)=((i+1:Nat):Int):=by rw[wrap_i64 (by omega) (by omega)];omega
      obtain⟨o,ho⟩:=Int.eq_ofNat_of_zero_le (hw i).1
      obtain⟨w,hww⟩:=Int.eq_ofNat_of_zero_le (wInts_w32 a i).1
      have ho2:=(hw i).2
      have hw2:=(wInts_w32 a i).2
      have k32:=c_Add32 o w c (by omega) (by omega) hc
      have hX:(wInts b).getD i 0=o:=by rw[←hrest i (Nat.le_refl _)];exact ho
      have hstep:=add_step (by omega) ho hX hww hval
      have hc':(o+w+c)/4294967296≤1:=by omega
      have hrest':∀j,i+1≤j→(out.set i (((o+w+c) % 4294967296:Nat):Int)).getD j 0=(wInts b).getD j 0:=fun j hj=>by
       rw[getD_set,if_neg (by omega)];exact hrest j (by omega)
      by_cases hy:i<(wInts a).length
      ·have t2:decide ((i:Int)<((wInts a).length:Int))=true:=decide_eq_true (by omega)
       have hyl:=wArr_len a
       have e3:(wArr a).getD i 0=(w:Int):=by rw[wArr_get hy];exact hww
       conv=>whnf
       (repeat((first|refine step_w1 rfl rfl ?_|refine And.intro (by first|decide|omega|(simp only[tl0,dlen,List.length_replicate,List.length_set,List.length_map,List.length_zipWith,List.length_take,List.length_append,List.length_cons,List.length_nil];omega)) ?_|refine g_c (by assumption) ?_|rw[t1]|rw[t2]|rw[e1]|rw[e3]|rw[ho]);conv=>whnf))
       rw[e2]
       exact⟨(wInts b).length+1 - (i+1),fun k=>k,[4,8,9,10,52,53],[4,1001,47],by omega,by kernel_rfl,i+1,_,_,rfl,by omega,hc',by simpa using hlen,hw.set (by omega) (by omega),hrest',hstep,rfl,rfl⟩
      ·have t2:decide ((i:Int)<((wInts a).length:Int))=false:=decide_eq_false (by omega)
       have hw0:w=0:=by have:=getD_ge (xs:=wInts a) (i:=i) (by omega);omega
       subst hw0
       conv=>whnf
       (repeat((first|refine step_w1 rfl rfl ?_|refine step_w2 rfl rfl ?_|refine And.intro (by first|decide|omega|(simp only[tl0,dlen,List.length_replicate,List.length_set,List.length_map,List.length_zipWith,List.length_take,List.length_append,List.length_cons,List.length_nil];omega)) ?_|refine g_c (by assumption) ?_|rw[t1]|rw[t2]|rw[e1]|rw[ho]);conv=>whnf))
       rw[e2]
       exact⟨(wInts b).length+1 - (i+1),fun k=>k,[4,8,9,10,52,53],[4,1001,47],by omega,by kernel_rfl,i+1,_,_,rfl,by omega,hc',by simpa using hlen,hw.set (by omega) (by omega),hrest',hstep,rfl,rfl⟩
     ·have hi':i=(wInts b).length+1:=by omega
      subst hi'
      have t1:decide ((((wInts b).length+1:Nat):Int)<(((wInts b).length+1:Nat):Int))=false:=decide_eq_false (by omega)
      rw[wInts_valge b (by omega),wInts_valge a (by omega)]at hval
      have hsum:(valI out ((wInts b).length+1)).toNat=a+b:=by
       have:=add_fin hc (valI_nonneg hw _) hval (lt_of_len b) (lt_of_len a) (by omega)
       omega
      have kof:=c_of out ((wInts b).length+1) (by omega) (by omega) hw 47 true
      rw[hsum]at kof
      conv=>whnf
      (repeat(first|(refine step_w2 rfl rfl ?_;conv=>whnf)|(refine g_c1 (by assumption) rfl ?_;conv=>whnf)|(rw[t1];conv=>whnf)))
      exact Recast.refl _
    ·rw[decide_eq_false (show ¬((wInts a).length:Int)<((wInts b).length:Int) by omega)]
     have ew:IntKind.i64.wrap (((wInts a).length:Int)+1)=(((wInts a).length+1:Nat):Int):=by rw[wrap_i64 (by omega) (by omega)];omega
     (repeat(first|(refine step_w2 rfl rfl ?_;conv=>whnf)|(refine And.intro (by first|decide|omega|(simp only[tl0,dlen,List.length_replicate,List.length_set,List.length_map,List.length_zipWith,List.length_take,List.length_append,List.length_cons,List.length_nil];omega)) ?_;conv=>whnf)|(rw[ew];conv=>whnf)))
     refine⟨_,[(47,⟨104,true,.ints .u32 (List.replicate ((wInts a).length+1) 0)⟩),(1001,⟨104,true,.ints .u32 (wArr a)⟩)],[],[(47,⟨104,true,.ints .u32 (wInts a++[0])⟩)],op_copy (c:=(wInts a).length) (n:=(wInts a).length+1) rfl rfl rfl (ev_ok rfl) (ev_ok rfl) (tabOK.get (t:=132) rfl) rfl (tabOK.get (t:=104) rfl) (List.mem_cons_self ..) (List.mem_cons_of_mem _ (List.mem_cons_self ..)) rfl rfl rfl rfl (by simp[dlen]) (by show 0+_≤(wArr a).length;have:=wArr_len a;omega) (Nat.min_eq_left (Nat.le_succ _)).symm (dcopy_words a),two_fk rfl rfl,nil_new,one_upd (List.mem_cons_self ..) rfl rfl rfl, ?_⟩
     conv=>whnf
     skip
     refine SW_loopN hE (fun k=>k) [4,8,9,10,52,53] [4,1002,47] (fun m fr hp=>∃(i:Nat) (out:List Int) (c:Nat),m=(wInts a).length+1 - i∧i≤(wInts a).length+1∧c≤1∧out.length=(wInts a).length+1∧W32 out∧(∀j,i≤j→out.getD j 0=(wInts a).getD j 0)∧valI out i+c*4294967296^i=valI (wInts a) i+valI (wInts b) i∧
      fr=[(4,.ptr 4 0 0 0),(8,.slc 1002 1 0 (wInts b).length),(9,.slc 47 1 0 ((wInts a).length+1)),(10,.val (.int .u32 c)),(52,.val (.int .i64 (((wInts a).length+1:Nat)))),(53,.val (.int .i64 i))]∧hp=[(4,⟨41,true,.one [.nat 0]⟩),(1002,⟨104,true,.ints .u32 (wArr b)⟩),(47,⟨104,true,.ints .u32 out⟩)]) ((wInts a).length+1) ?_ ?_ ?_
     ·kernel_rfl
     ·exact⟨0,wInts a++[0],0,by omega,by omega,by omega,by simp,w32_snoc (wInts_w32 a),(fun j _=>getD_snoc _ j),by simp[valI],rfl,rfl⟩
     rintro m _ _ ⟨i,out,c,rfl,hi,hc,hlen,hw,hrest,hval,rfl,rfl⟩
     by_cases hlt:i<(wInts a).length+1
     ·have t1:decide ((i:Int)<(((wInts a).length+1:Nat):Int))=true:=decide_eq_true (by omega)
      have e1:0+(i:Int).toNat=i:=by omega
      have e2:IntKind.i64.wrap ((i:Int)+1)=((i+1:Nat):Int):=by rw[wrap_i64 (by omega) (by omega)];omega
      obtain⟨o,ho⟩:=Int.eq_ofNat_of_zero_le (hw i).1
      obtain⟨w,hww⟩:=Int.eq_ofNat_of_zero_le (wInts_w32 b i).1
      have ho2:=(hw i).2
      have hw2:=(wInts_w32 b i).2
      have k32:=c_Add32 o w c (by omega) (by omega) hc
      have hX:(wInts a).getD i 0=o:=by rw[←hrest i (Nat.le_refl _)];exact ho
      have hstep:=add_step (by omega) ho hX hww hval
      have hc':(o+w+c)/4294967296≤1:=by omega
      have hrest':∀j,i+1≤j→(out.set i (((o+w+c) % 4294967296:Nat):Int)).getD j 0=(wInts a).getD j 0:=fun j hj=>by
       rw[getD_set,if_neg (by omega)];exact hrest j (by omega)
      by_cases hy:i<(wInts b).length
      ·have t2:decide ((i:Int)<((wInts b).length:Int))=true:=decide_eq_true (by omega)
       have hyl:=wArr_len b
       have e3:(wArr b).getD i 0=(w:Int):=by rw[wArr_get hy];exact hww
       conv=>whnf
       (repeat((first|refine step_w1 rfl rfl ?_|refine And.intro (by first|decide|omega|(simp only[tl0,dlen,List.length_replicate,List.length_set,List.length_map,List.length_zipWith,List.length_take,List.length_append,List.length_cons,List.length_nil];omega)) ?_|refine g_c (by assumption) ?_|rw[t1]|rw[t2]|rw[e1]|rw[e3]|rw[ho]);conv=>whnf))
       rw[e2]
       exact⟨(wInts a).length+1 - (i+1),fun k=>k,[4,8,9,10,52,53],[4,1002,47],by omega,by kernel_rfl,i+1,_,_,rfl,by omega,hc',by simpa using hlen,hw.set (by omega) (by omega),hrest',hstep,rfl,rfl⟩
      ·have t2:decide ((i:Int)<((wInts b).length:Int))=false:=decide_eq_false (by omega)
       have hw0:w=0:=by have:=getD_ge (xs:=wInts b) (i:=i) (by omega);omega
       subst hw0
       conv=>whnf
       (repeat((first|refine step_w1 rfl rfl ?_|refine step_w2 rfl rfl ?_|refine And.intro (by first|decide|omega|(simp only[tl0,dlen,List.length_replicate,List.length_set,List.length_map,List.length_zipWith,List.length_take,List.length_append,List.length_cons,List.length_nil];omega)) ?_|refine g_c (by assumption) ?_|rw[t1]|rw[t2]|rw[e1]|rw[ho]);conv=>whnf))
       rw[e2]
       exact⟨(wInts a).length+1 - (i+1),fun k=>k,[4,8,9,10,52,53],[4,1002,47],by omega,by kernel_rfl,i+1,_,_,rfl,by omega,hc',by simpa using hlen,hw.set (by omega) (by omega),hrest',hstep,rfl,rfl⟩
     ·have hi':i=(wInts a).length+1:=by omega
      subst hi'
      have t1:decide ((((wInts a).length+1:Nat):Int)<(((wInts a).length+1:Nat):Int))=false:=decide_eq_false (by omega)
      rw[wInts_valge a (by omega),wInts_valge b (by omega)]at hval
      have hsum:(valI out ((wInts a).length+1)).toNat=a+b:=by
       have:=add_fin hc (valI_nonneg hw _) hval (lt_of_len a) (lt_of_len b) (by omega)
       omega
      have kof:=c_of out ((wInts a).length+1) (by omega) (by omega) hw 47 true
      rw[hsum]at kof
      conv=>whnf
      (repeat(first|(refine step_w2 rfl rfl ?_;conv=>whnf)|(refine g_c1 (by assumption) rfl ?_;conv=>whnf)|(rw[t1];conv=>whnf)))
      exact Recast.refl _
   ·rw[big_eq,decide_eq_false h2]
    (repeat(first|(refine step_w2 rfl rfl ?_;conv=>whnf)|(refine step_i (by kernel_rfl) ?_;conv=>whnf)|(refine g_cn (by assumption) rfl ?_;conv=>whnf)))
    by_cases hl:(wInts a).length<(wInts b).length
    ·rw[decide_eq_true (show((wInts a).length:Int)<((wInts b).length:Int) by omega)]
     have ew:IntKind.i64.wrap (((wInts b).length:Int)+1)=(((wInts b).length+1:Nat):Int):=by rw[wrap_i64 (by omega) (by omega)];omega
     (repeat(first|(refine step_w1 rfl rfl ?_;conv=>whnf)|(refine And.intro (by first|decide|omega|(simp only[tl0,dlen,List.length_replicate,List.length_set,List.length_map,List.length_zipWith,List.length_take,List.length_append,List.length_cons,List.length_nil];omega)) ?_;conv=>whnf)|(rw[ew];conv=>whnf)))
     refine⟨_,[(47,⟨104,true,.ints .u32 (List.replicate ((wInts b).length+1) 0)⟩),(1002,⟨104,true,.ints .u32 (wArr b)⟩)],[],[(47,⟨104,true,.ints .u32 (wInts b++[0])⟩)],op_copy (c:=(wInts b).length) (n:=(wInts b).length+1) rfl rfl rfl (ev_ok rfl) (ev_ok rfl) (tabOK.get (t:=132) rfl) rfl (tabOK.get (t:=104) rfl) (List.mem_cons_self ..) (List.mem_cons_of_mem _ (List.mem_cons_self ..)) rfl rfl rfl rfl (by simp[dlen]) (by show 0+_≤(wArr b).length;have:=wArr_len b;omega) (Nat.min_eq_left (Nat.le_succ _)).symm (dcopy_words b),two_fk rfl rfl,nil_new,one_upd (List.mem_cons_self ..) rfl rfl rfl, ?_⟩
     conv=>whnf
     skip
     refine SW_loopN hE (fun k=>k) [4,8,9,10,52,53] [4,1001,47] (fun m fr hp=>∃(i:Nat) (out:List Int) (c:Nat),m=(wInts b).length+1 - i∧i≤(wInts b).length+1∧c≤1∧out.length=(wInts b).length+1∧W32 out∧(∀j,i≤j→out.getD j 0=(wInts b).getD j 0)∧valI out i+c*4294967296^i=valI (wInts b) i+valI (wInts a) i∧
      fr=[(4,.ptr 4 0 0 0),(8,.slc 1001 1 0 (wInts a).length),(9,.slc 47 1 0 ((wInts b).length+1)),(10,.val (.int .u32 c)),(52,.val (.int .i64 (((wInts b).length+1:Nat)))),(53,.val (.int .i64 i))]∧hp=[(4,⟨41,true,.one [.nat 0]⟩),(1001,⟨104,true,.ints .u32 (wArr a)⟩),(47,⟨104,true,.ints .u32 out⟩)]) ((wInts b).length+1) ?_ ?_ ?_
     ·kernel_rfl
     ·exact⟨0,wInts b++[0],0,by omega,by omega,by omega,by simp,w32_snoc (wInts_w32 b),(fun j _=>getD_snoc _ j),by simp[valI],rfl,rfl⟩
     rintro m _ _ ⟨i,out,c,rfl,hi,hc,hlen,hw,hrest,hval,rfl,rfl⟩
     by_cases hlt:i<(wInts b).length+1
     ·have t1:decide ((i:Int)<(((wInts b).length+1:Nat):Int))=true:=decide_eq_true (by omega)
      have e1:0+(i:Int).toNat=i:=by omega
      have e2:IntKind.i64.wrap ((i:Int)+1)=((i+1:Nat):Int):=by rw[wrap_i64 (by omega) (by omega)];omega
      obtain⟨o,ho⟩:=Int.eq_ofNat_of_zero_le (hw i).1
      obtain⟨w,hww⟩:=Int.eq_ofNat_of_zero_le (wInts_w32 a i).1
      have ho2:=(hw i).2
      have hw2:=(wInts_w32 a i).2
      have k32:=c_Add32 o w c (by omega) (by omega) hc
      have hX:(wInts b).getD i 0=o:=by rw[←hrest i (Nat.le_refl _)];exact ho
      have hstep:=add_step (by omega) ho hX hww hval
      have hc':(o+w+c)/4294967296≤1:=by omega
      have hrest':∀j,i+1≤j→(out.set i (((o+w+c) % 4294967296:Nat):Int)).getD j 0=(wInts b).getD j 0:=fun j hj=>by
       rw[getD_set,if_neg (by omega)];exact hrest j (by omega)
      by_cases hy:i<(wInts a).length
      ·have t2:decide ((i:Int)<((wInts a).length:Int))=true:=decide_eq_true (by omega)
       have hyl:=wArr_len a
       have e3:(wArr a).getD i 0=(w:Int):=by rw[wArr_get hy];exact hww
       conv=>whnf
       (repeat((first|refine step_w1 rfl rfl ?_|refine And.intro (by first|decide|omega|(simp only[tl0,dlen,List.length_replicate,List.length_set,List.length_map,List.length_zipWith,List.length_take,List.length_append,List.length_cons,List.length_nil];omega)) ?_|refine g_c (by assumption) ?_|rw[t1]|rw[t2]|rw[e1]|rw[e3]|rw[ho]);conv=>whnf))
       rw[e2]
       exact⟨(wInts b).length+1 - (i+1),fun k=>k,[4,8,9,10,52,53],[4,1001,47],by omega,by kernel_rfl,i+1,_,_,rfl,by omega,hc',by simpa using hlen,hw.set (by omega) (by omega),hrest',hstep,rfl,rfl⟩
      ·have t2:decide ((i:Int)<((wInts a).length:Int))=false:=decide_eq_false (by omega)
       have hw0:w=0:=by have:=getD_ge (xs:=wInts a) (i:=i) (by omega);omega
       subst hw0
       conv=>whnf
       (repeat((first|refine step_w1 rfl rfl ?_|refine step_w2 rfl rfl ?_|refine And.intro (by first|decide|omega|(simp only[tl0,dlen,List.length_replicate,List.length_set,List.length_map,List.length_zipWith,List.length_take,List.length_append,List.length_cons,List.length_nil];omega)) ?_|refine g_c (by assumption) ?_|rw[t1]|rw[t2]|rw[e1]|rw[ho]);conv=>whnf))
       rw[e2]
       exact⟨(wInts b).length+1 - (i+1),fun k=>k,[4,8,9,10,52,53],[4,1001,47],by omega,by kernel_rfl,i+1,_,_,rfl,by omega,hc',by simpa using hlen,hw.set (by omega) (by omega),hrest',hstep,rfl,rfl⟩
     ·have hi':i=(wInts b).length+1:=by omega
      subst hi'
      have t1:decide ((((wInts b).length+1:Nat):Int)<(((wInts b).length+1:Nat):Int))=false:=decide_eq_false (by omega)
      rw[wInts_valge b (by omega),wInts_valge a (by omega)]at hval
      have hsum:(valI out ((wInts b).length+1)).toNat=a+b:=by
       have:=add_fin hc (valI_nonneg hw _) hval (lt_of_len b) (lt_of_len a) (by omega)
       omega
      have kof:=c_of out ((wInts b).length+1) (by omega) (by omega) hw 47 true
      rw[hsum]at kof
      conv=>whnf
      (repeat(first|(refine step_w2 rfl rfl ?_;conv=>whnf)|(refine g_c1 (by assumption) rfl ?_;conv=>whnf)|(rw[t1];conv=>whnf)))
      exact Recast.refl _
    ·rw[decide_eq_false (show ¬((wInts a).length:Int)<((wInts b).length:Int) by omega)]
     have ew:IntKind.i64.wrap (((wInts a).length:Int)+1)=(((wInts a).length+1:Nat):Int):=by rw[wrap_i64 (by omega) (by omega)];omega
     (repeat(first|(refine step_w2 rfl rfl ?_;conv=>whnf)|(refine And.intro (by first|decide|omega|(simp only[tl0,dlen,List.length_replicate,List.length_set,List.length_map,List.length_zipWith,List.length_take,List.length_append,List.length_cons,List.length_nil];omega)) ?_;conv=>whnf)|(rw[ew];conv=>whnf)))
     refine⟨_,[(47,⟨104,true,.ints .u32 (List.replicate ((wInts a).length+1) 0)⟩),(1001,⟨104,true,.ints .u32 (wArr a)⟩)],[],[(47,⟨104,true,.ints .u32 (wInts a++[0])⟩)],op_copy (c:=(wInts a).length) (n:=(wInts a).length+1) rfl rfl rfl (ev_ok rfl) (ev_ok rfl) (tabOK.get (t:=132) rfl) rfl (tabOK.get (t:=104) rfl) (List.mem_cons_self ..) (List.mem_cons_of_mem _ (List.mem_cons_self ..)) rfl rfl rfl rfl (by simp[dlen]) (by show 0+_≤(wArr a).length;have:=wArr_len a;omega) (Nat.min_eq_left (Nat.le_succ _)).symm (dcopy_words a),two_fk rfl rfl,nil_new,one_upd (List.mem_cons_self ..) rfl rfl rfl, ?_⟩
     conv=>whnf
     skip
     refine SW_loopN hE (fun k=>k) [4,8,9,10,52,53] [4,1002,47] (fun m fr hp=>∃(i:Nat) (out:List Int) (c:Nat),m=(wInts a).length+1 - i∧i≤(wInts a).length+1∧c≤1∧out.length=(wInts a).length+1∧W32 out∧(∀j,i≤j→out.getD j 0=(wInts a).getD j 0)∧valI out i+c*4294967296^i=valI (wInts a) i+valI (wInts b) i∧
      fr=[(4,.ptr 4 0 0 0),(8,.slc 1002 1 0 (wInts b).length),(9,.slc 47 1 0 ((wInts a).length+1)),(10,.val (.int .u32 c)),(52,.val (.int .i64 (((wInts a).length+1:Nat)))),(53,.val (.int .i64 i))]∧hp=[(4,⟨41,true,.one [.nat 0]⟩),(1002,⟨104,true,.ints .u32 (wArr b)⟩),(47,⟨104,true,.ints .u32 out⟩)]) ((wInts a).length+1) ?_ ?_ ?_
     ·kernel_rfl
     ·exact⟨0,wInts a++[0],0,by omega,by omega,by omega,by simp,w32_snoc (wInts_w32 a),(fun j _=>getD_snoc _ j),by simp[valI],rfl,rfl⟩
     rintro m _ _ ⟨i,out,c,rfl,hi,hc,hlen,hw,hrest,hval,rfl,rfl⟩
     by_cases hlt:i<(wInts a).length+1
     ·have t1:decide ((i:Int)<(((wInts a).length+1:Nat):Int))=true:=decide_eq_true (by omega)
      have e1:0+(i:Int).toNat=i:=by omega
      have e2:IntKind.i64.wrap ((i:Int)+1)=((i+1:Nat):Int):=by rw[wrap_i64 (by omega) (by omega)];omega
      obtain⟨o,ho⟩:=Int.eq_ofNat_of_zero_le (hw i).1
      obtain⟨w,hww⟩:=Int.eq_ofNat_of_zero_le (wInts_w32 b i).1
      have ho2:=(hw i).2
      have hw2:=(wInts_w32 b i).2
      have k32:=c_Add32 o w c (by omega) (by omega) hc
      have hX:(wInts a).getD i 0=o:=by rw[←hrest i (Nat.le_refl _)];exact ho
      have hstep:=add_step (by omega) ho hX hww hval
      have hc':(o+w+c)/4294967296≤1:=by omega
      have hrest':∀j,i+1≤j→(out.set i (((o+w+c) % 4294967296:Nat):Int)).getD j 0=(wInts a).getD j 0:=fun j hj=>by
       rw[getD_set,if_neg (by omega)];exact hrest j (by omega)
      by_cases hy:i<(wInts b).length
      ·have t2:decide ((i:Int)<((wInts b).length:Int))=true:=decide_eq_true (by omega)
       have hyl:=wArr_len b
       have e3:(wArr b).getD i 0=(w:Int):=by rw[wArr_get hy];exact hww
       conv=>whnf
       (repeat((first|refine step_w1 rfl rfl ?_|refine And.intro (by first|decide|omega|(simp only[tl0,dlen,List.length_replicate,List.length_set,List.length_map,List.length_zipWith,List.length_take,List.length_append,List.length_cons,List.length_nil];omega)) ?_|refine g_c (by assumption) ?_|rw[t1]|rw[t2]|rw[e1]|rw[e3]|rw[ho]);conv=>whnf))
       rw[e2]
       exact⟨(wInts a).length+1 - (i+1),fun k=>k,[4,8,9,10,52,53],[4,1002,47],by omega,by kernel_rfl,i+1,_,_,rfl,by omega,hc',by simpa using hlen,hw.set (by omega) (by omega),hrest',hstep,rfl,rfl⟩
      ·have t2:decide ((i:Int)<((wInts b).length:Int))=false:=decide_eq_false (by omega)
       have hw0:w=0:=by have:=getD_ge (xs:=wInts b) (i:=i) (by omega);omega
       subst hw0
       conv=>whnf
       (repeat((first|refine step_w1 rfl rfl ?_|refine step_w2 rfl rfl ?_|refine And.intro (by first|decide|omega|(simp only[tl0,dlen,List.length_replicate,List.length_set,List.length_map,List.length_zipWith,List.length_take,List.length_append,List.length_cons,List.length_nil];omega)) ?_|refine g_c (by assumption) ?_|rw[t1]|rw[t2]|rw[e1]|rw[ho]);conv=>whnf))
       rw[e2]
       exact⟨(wInts a).length+1 - (i+1),fun k=>k,[4,8,9,10,52,53],[4,1002,47],by omega,by kernel_rfl,i+1,_,_,rfl,by omega,hc',by simpa using hlen,hw.set (by omega) (by omega),hrest',hstep,rfl,rfl⟩
     ·have hi':i=(wInts a).length+1:=by omega
      subst hi'
      have t1:decide ((((wInts a).length+1:Nat):Int)<(((wInts a).length+1:Nat):Int))=false:=decide_eq_false (by omega)
      rw[wInts_valge a (by omega),wInts_valge b (by omega)]at hval
      have hsum:(valI out ((wInts a).length+1)).toNat=a+b:=by
       have:=add_fin hc (valI_nonneg hw _) hval (lt_of_len a) (lt_of_len b) (by omega)
       omega
      have kof:=c_of out ((wInts a).length+1) (by omega) (by omega) hw 47 true
      rw[hsum]at kof
      conv=>whnf
      (repeat(first|(refine step_w2 rfl rfl ?_;conv=>whnf)|(refine g_c1 (by assumption) rfl ?_;conv=>whnf)|(rw[t1];conv=>whnf)))
      exact Recast.refl _
  ·rw[big_eq,decide_eq_false h1]
   (repeat((first|refine step_w2 rfl rfl ?_|refine step_i (by kernel_rfl) ?_|refine g_cn (by assumption) rfl ?_|refine g_o (op_pickF rfl (ev_ok rfl) (ev_ok rfl)) ?_);conv=>whnf))
   by_cases hl:(wInts a).length<(wInts b).length
   ·rw[decide_eq_true (show((wInts a).length:Int)<((wInts b).length:Int) by omega)]
    have ew:IntKind.i64.wrap (((wInts b).length:Int)+1)=(((wInts b).length+1:Nat):Int):=by rw[wrap_i64 (by omega) (by omega)];omega
    (repeat(first|(refine step_w1 rfl rfl ?_;conv=>whnf)|(refine And.intro (by first|decide|omega|(simp only[tl0,dlen,List.length_replicate,List.length_set,List.length_map,List.length_zipWith,List.length_take,List.length_append,List.length_cons,List.length_nil];omega)) ?_;conv=>whnf)|(rw[ew];conv=>whnf)))
    refine⟨_,[(47,⟨104,true,.ints .u32 (List.replicate ((wInts b).length+1) 0)⟩),(1002,⟨104,true,.ints .u32 (wArr b)⟩)],[],[(47,⟨104,true,.ints .u32 (wInts b++[0])⟩)],op_copy (c:=(wInts b).length) (n:=(wInts b).length+1) rfl rfl rfl (ev_ok rfl) (ev_ok rfl) (tabOK.get (t:=132) rfl) rfl (tabOK.get (t:=104) rfl) (List.mem_cons_self ..) (List.mem_cons_of_mem _ (List.mem_cons_self ..)) rfl rfl rfl rfl (by simp[dlen]) (by show 0+_≤(wArr b).length;have:=wArr_len b;omega) (Nat.min_eq_left (Nat.le_succ _)).symm (dcopy_words b),two_fk rfl rfl,nil_new,one_upd (List.mem_cons_self ..) rfl rfl rfl, ?_⟩
    conv=>whnf
    skip
    refine SW_loopN hE (fun k=>k) [4,8,9,10,52,53] [4,1001,47] (fun m fr hp=>∃(i:Nat) (out:List Int) (c:Nat),m=(wInts b).length+1 - i∧i≤(wInts b).length+1∧c≤1∧out.length=(wInts b).length+1∧W32 out∧(∀j,i≤j→out.getD j 0=(wInts b).getD j 0)∧valI out i+c*4294967296^i=valI (wInts b) i+valI (wInts a) i∧
     fr=[(4,.ptr 4 0 0 0),(8,.slc 1001 1 0 (wInts a).length),(9,.slc 47 1 0 ((wInts b).length+1)),(10,.val (.int .u32 c)),(52,.val (.int .i64 (((wInts b).length+1:Nat)))),(53,.val (.int .i64 i))]∧hp=[(4,⟨41,true,.one [.nat 0]⟩),(1001,⟨104,true,.ints .u32 (wArr a)⟩),(47,⟨104,true,.ints .u32 out⟩)]) ((wInts b).length+1) ?_ ?_ ?_
    ·kernel_rfl
    ·exact⟨0,wInts b++[0],0,by omega,by omega,by omega,by simp,w32_snoc (wInts_w32 b),(fun j _=>getD_snoc _ j),by simp[valI],rfl,rfl⟩
    rintro m _ _ ⟨i,out,c,rfl,hi,hc,hlen,hw,hrest,hval,rfl,rfl⟩
    by_cases hlt:i<(wInts b).length+1
    ·have t1:decide ((i:Int)<(((wInts b).length+1:Nat):Int))=true:=decide_eq_true (by omega)
     have e1:0+(i:Int).toNat=i:=by omega
     have e2:IntKind.i64.wrap ((i:Int)+1)=((i+1:Nat):Int):=by rw[wrap_i64 (by omega) (by omega)];omega
     obtain⟨o,ho⟩:=Int.eq_ofNat_of_zero_le (hw i).1
     obtain⟨w,hww⟩:=Int.eq_ofNat_of_zero_le (wInts_w32 a i).1
     have ho2:=(hw i).2
     have hw2:=(wInts_w32 a i).2
     have k32:=c_Add32 o w c (by omega) (by omega) hc
     have hX:(wInts b).getD i 0=o:=by rw[←hrest i (Nat.le_refl _)];exact ho
     have hstep:=add_step (by omega) ho hX hww hval
     have hc':(o+w+c)/4294967296≤1:=by omega
     have hrest':∀j,i+1≤j→(out.set i (((o+w+c) % 4294967296:Nat):Int)).getD j 0=(wInts b).getD j 0:=fun j hj=>by
      rw[getD_set,if_neg (by omega)];exact hrest j (by omega)
     by_cases hy:i<(wInts a).length
     ·have t2:decide ((i:Int)<((wInts a).length:Int))=true:=decide_eq_true (by omega)
      have hyl:=wArr_len a
      have e3:(wArr a).getD i 0=(w:Int):=by rw[wArr_get hy];exact hww
      conv=>whnf
      (repeat((first|refine step_w1 rfl rfl ?_|refine And.intro (by first|decide|omega|(simp only[tl0,dlen,List.length_replicate,List.length_set,List.length_map,List.length_zipWith,List.length_take,List.length_append,List.length_cons,List.length_nil];omega)) ?_|refine g_c (by assumption) ?_|rw[t1]|rw[t2]|rw[e1]|rw[e3]|rw[ho]);conv=>whnf))
      rw[e2]
      exact⟨(wInts b).length+1 - (i+1),fun k=>k,[4,8,9,10,52,53],[4,1001,47],by omega,by kernel_rfl,i+1,_,_,rfl,by omega,hc',by simpa using hlen,hw.set (by omega) (by omega),hrest',hstep,rfl,rfl⟩
     ·have t2:decide ((i:Int)<((wInts a).length:Int))=false:=decide_eq_false (by omega)
      have hw0:w=0:=by have:=getD_ge (xs:=wInts a) (i:=i) (by omega);omega
      subst hw0
      conv=>whnf
      (repeat((first|refine step_w1 rfl rfl ?_|refine step_w2 rfl rfl ?_|refine And.intro (by first|decide|omega|(simp only[tl0,dlen,List.length_replicate,List.length_set,List.length_map,List.length_zipWith,List.length_take,List.length_append,List.length_cons,List.length_nil];omega)) ?_|refine g_c (by assumption) ?_|rw[t1]|rw[t2]|rw[e1]|rw[ho]);conv=>whnf))
      rw[e2]
      exact⟨(wInts b).length+1 - (i+1),fun k=>k,[4,8,9,10,52,53],[4,1001,47],by omega,by kernel_rfl,i+1,_,_,rfl,by omega,hc',by simpa using hlen,hw.set (by omega) (by omega),hrest',hstep,rfl,rfl⟩
    ·have hi':i=(wInts b).length+1:=by omega
     subst hi'
     have t1:decide ((((wInts b).length+1:Nat):Int)<(((wInts b).length+1:Nat):Int))=false:=decide_eq_false (by omega)
     rw[wInts_valge b (by omega),wInts_valge a (by omega)]at hval
     have hsum:(valI out ((wInts b).length+1)).toNat=a+b:=by
      have:=add_fin hc (valI_nonneg hw _) hval (lt_of_len b) (lt_of_len a) (by omega)
      omega
     have kof:=c_of out ((wInts b).length+1) (by omega) (by omega) hw 47 true
     rw[hsum]at kof
     conv=>whnf
     (repeat(first|(refine step_w2 rfl rfl ?_;conv=>whnf)|(refine g_c1 (by assumption) rfl ?_;conv=>whnf)|(rw[t1];conv=>whnf)))
     exact Recast.refl _
   ·rw[decide_eq_false (show ¬((wInts a).length:Int)<((wInts b).length:Int) by omega)]
    have ew:IntKind.i64.wrap (((wInts a).length:Int)+1)=(((wInts a).length+1:Nat):Int):=by rw[wrap_i64 (by omega) (by omega)];omega
    (repeat(first|(refine step_w2 rfl rfl ?_;conv=>whnf)|(refine And.intro (by first|decide|omega|(simp only[tl0,dlen,List.length_replicate,List.length_set,List.length_map,List.length_zipWith,List.length_take,List.length_append,List.length_cons,List.length_nil];omega)) ?_;conv=>whnf)|(rw[ew];conv=>whnf)))
    refine⟨_,[(47,⟨104,true,.ints .u32 (List.replicate ((wInts a).length+1) 0)⟩),(1001,⟨104,true,.ints .u32 (wArr a)⟩)],[],[(47,⟨104,true,.ints .u32 (wInts a++[0])⟩)],op_copy (c:=(wInts a).length) (n:=(wInts a).length+1) rfl rfl rfl (ev_ok rfl) (ev_ok rfl) (tabOK.get (t:=132) rfl) rfl (tabOK.get (t:=104) rfl) (List.mem_cons_self ..) (List.mem_cons_of_mem _ (List.mem_cons_self ..)) rfl rfl rfl rfl (by simp[dlen]) (by show 0+_≤(wArr a).length;have:=wArr_len a;omega) (Nat.min_eq_left (Nat.le_succ _)).symm (dcopy_words a),two_fk rfl rfl,nil_new,one_upd (List.mem_cons_self ..) rfl rfl rfl, ?_⟩
    conv=>whnf
    skip
    refine SW_loopN hE (fun k=>k) [4,8,9,10,52,53] [4,1002,47] (fun m fr hp=>∃(i:Nat) (out:List Int) (c:Nat),m=(wInts a).length+1 - i∧i≤(wInts a).length+1∧c≤1∧out.length=(wInts a).length+1∧W32 out∧(∀j,i≤j→out.getD j 0=(wInts a).getD j 0)∧valI out i+c*4294967296^i=valI (wInts a) i+valI (wInts b) i∧
     fr=[(4,.ptr 4 0 0 0),(8,.slc 1002 1 0 (wInts b).length),(9,.slc 47 1 0 ((wInts a).length+1)),(10,.val (.int .u32 c)),(52,.val (.int .i64 (((wInts a).length+1:Nat)))),(53,.val (.int .i64 i))]∧hp=[(4,⟨41,true,.one [.nat 0]⟩),(1002,⟨104,true,.ints .u32 (wArr b)⟩),(47,⟨104,true,.ints .u32 out⟩)]) ((wInts a).length+1) ?_ ?_ ?_
    ·kernel_rfl
    ·exact⟨0,wInts a++[0],0,by omega,by omega,by omega,by simp,w32_snoc (wInts_w32 a),(fun j _=>getD_snoc _ j),by simp[valI],rfl,rfl⟩
    rintro m _ _ ⟨i,out,c,rfl,hi,hc,hlen,hw,hrest,hval,rfl,rfl⟩
    by_cases hlt:i<(wInts a).length+1
    ·have t1:decide ((i:Int)<(((wInts a).length+1:Nat):Int))=true:=decide_eq_true (by omega)
     have e1:0+(i:Int).toNat=i:=by omega
     have e2:IntKind.i64.wrap ((i:Int)+1)=((i+1:Nat):Int):=by rw[wrap_i64 (by omega) (by omega)];omega
     obtain⟨o,ho⟩:=Int.eq_ofNat_of_zero_le (hw i).1
     obtain⟨w,hww⟩:=Int.eq_ofNat_of_zero_le (wInts_w32 b i).1
     have ho2:=(hw i).2
     have hw2:=(wInts_w32 b i).2
     have k32:=c_Add32 o w c (by omega) (by omega) hc
     have hX:(wInts a).getD i 0=o:=by rw[←hrest i (Nat.le_refl _)];exact ho
     have hstep:=add_step (by omega) ho hX hww hval
     have hc':(o+w+c)/4294967296≤1:=by omega
     have hrest':∀j,i+1≤j→(out.set i (((o+w+c) % 4294967296:Nat):Int)).getD j 0=(wInts a).getD j 0:=fun j hj=>by
      rw[getD_set,if_neg (by omega)];exact hrest j (by omega)
     by_cases hy:i<(wInts b).length
     ·have t2:decide ((i:Int)<((wInts b).length:Int))=true:=decide_eq_true (by omega)
      have hyl:=wArr_len b
      have e3:(wArr b).getD i 0=(w:Int):=by rw[wArr_get hy];exact hww
      conv=>whnf
      (repeat((first|refine step_w1 rfl rfl ?_|refine And.intro (by first|decide|omega|(simp only[tl0,dlen,List.length_replicate,List.length_set,List.length_map,List.length_zipWith,List.length_take,List.length_append,List.length_cons,List.length_nil];omega)) ?_|refine g_c (by assumption) ?_|rw[t1]|rw[t2]|rw[e1]|rw[e3]|rw[ho]);conv=>whnf))
      rw[e2]
      exact⟨(wInts a).length+1 - (i+1),fun k=>k,[4,8,9,10,52,53],[4,1002,47],by omega,by kernel_rfl,i+1,_,_,rfl,by omega,hc',by simpa using hlen,hw.set (by omega) (by omega),hrest',hstep,rfl,rfl⟩
     ·have t2:decide ((i:Int)<((wInts b).length:Int))=false:=decide_eq_false (by omega)
      have hw0:w=0:=by have:=getD_ge (xs:=wInts b) (i:=i) (by omega);omega
      subst hw0
      conv=>whnf
      (repeat((first|refine step_w1 rfl rfl ?_|refine step_w2 rfl rfl ?_|refine And.intro (by first|decide|omega|(simp only[tl0,dlen,List.length_replicate,List.length_set,List.length_map,List.length_zipWith,List.length_take,List.length_append,List.length_cons,List.length_nil];omega)) ?_|refine g_c (by assumption) ?_|rw[t1]|rw[t2]|rw[e1]|rw[ho]);conv=>whnf))
      rw[e2]
      exact⟨(wInts a).length+1 - (i+1),fun k=>k,[4,8,9,10,52,53],[4,1002,47],by omega,by kernel_rfl,i+1,_,_,rfl,by omega,hc',by simpa using hlen,hw.set (by omega) (by omega),hrest',hstep,rfl,rfl⟩
    ·have hi':i=(wInts a).length+1:=by omega
     subst hi'
     have t1:decide ((((wInts a).length+1:Nat):Int)<(((wInts a).length+1:Nat):Int))=false:=decide_eq_false (by omega)
     rw[wInts_valge a (by omega),wInts_valge b (by omega)]at hval
     have hsum:(valI out ((wInts a).length+1)).toNat=a+b:=by
      have:=add_fin hc (valI_nonneg hw _) hval (lt_of_len a) (lt_of_len b) (by omega)
      omega
     have kof:=c_of out ((wInts a).length+1) (by omega) (by omega) hw 47 true
     rw[hsum]at kof
     conv=>whnf
     (repeat(first|(refine step_w2 rfl rfl ?_;conv=>whnf)|(refine g_c1 (by assumption) rfl ?_;conv=>whnf)|(rw[t1];conv=>whnf)))
     exact Recast.refl _
end Go.Proofs.YthaeohlijigplaaGreat
namespace Go.Proofs.YthaeohlijigplaaGreat
open Go.Sx
set_option linter.unusedSimpArgs false
set_option linter.unusedVariables false
set_option maxRecDepth 100000
set_option maxHeartbeats 4000000
theorem c_SubF (a b:Nat) (ha:(wInts a).length<549755813888) (hb:(wInts b).length<549755813888) (h:a<b):
  CallOK Tryz.prog 48 [.nat a,.nat b] [] (.tup [.nat 0,.val (.bool false)]) [] []:=by
 have k1:=c_Cmp a b (by omega) (by omega)
 rw[Int.sign_eq_neg_one_of_neg (show(a:Int) - b<0 by omega)]at k1
 refine callV (Z:=[]) tabOK mixedOK Tryz.func48 rfl (by kernel_rfl) rfl rfl (by kernel_rfl) rfl ?_
 intro W0 w0 ρ0 hE
 conv=>whnf
 (repeat(first|(refine step_w1 rfl rfl ?_;conv=>whnf)|(refine g_c (by assumption) ?_;conv=>whnf)));exact Recast.refl _
theorem sub_step {X Y out:List Int} {i o w c:Nat} (hi:i<out.length) (ho:out.getD i 0=o) (hX:X.getD i 0=o) (hY:Y.getD i 0=w) (hv:valI out i - c*4294967296^i=valI X i - valI Y i)
  (hol:o<4294967296) (hwl:w<4294967296) (hc:c≤1):
  valI (out.set i (((o+4294967296 - w - c) % 4294967296:Nat):Int)) (i+1) - ((if o<w+c then 1 else 0:Nat):Int)*4294967296^(i+1)=valI X (i+1) - valI Y (i+1):=by
 rw[valI,valI,valI,valI_set_ge (Nat.le_refl i),getD_set,if_pos ⟨rfl,hi⟩,hX,hY,Int.pow_succ]
 have hd:(((o+4294967296 - w - c) % 4294967296:Nat):Int)=(o:Int) - w - c+((if o<w+c then 1 else 0:Nat):Int)*4294967296:=by
  split<;>omega
 rw[hd]
 generalize ((if o<w+c then 1 else 0:Nat):Int)=q
 generalize (4294967296:Int)^i=P at*
 grind
theorem n_Sub (a b:Nat) (ha:(wInts a).length<549755813888) (h:b≤a):
  CallOK Tryz.prog 48 [.nat a,.nat b] [] (.tup [.nat (a - b),.val (.bool true)]) [] []:=by
 by_cases hs:a<18446744073709551616
 ·exact s_Sub a b hs h
 ·have hlb:(wInts b).length≤(wInts a).length:=len_le_of (Nat.lt_of_le_of_lt h (lt_of_len a))
  have k1:=c_Cmp a b (by omega) (by omega)
  have ht:decide (((a:Int) - b).sign<0)=false:=decide_eq_false (by have:=Int.sign_nonneg_iff.2 (show 0≤(a:Int) - b by omega);omega)
  have ka:=c_words a 1001 (by omega)
  have kb:=c_words b 1002 (by omega)
  refine callV (Z:=[]) tabOK mixedOK Tryz.func48 rfl (by kernel_rfl) rfl rfl (by kernel_rfl) rfl ?_
  intro W0 w0 ρ0 hE
  conv=>whnf
  (repeat(first|(refine step_w2 rfl rfl ?_;conv=>whnf)|(refine g_c (by assumption) ?_;conv=>whnf)|(rw[ht];conv=>whnf)))
  rw[big_eq,decide_eq_false hs]
  (repeat(first|(refine step_w2 rfl rfl ?_;conv=>whnf)|(refine step_i (by kernel_rfl) ?_;conv=>whnf)|(refine g_cn (by assumption) rfl ?_;conv=>whnf)))
  rw[show wArr a=wInts a from if_neg hs]
  refine SW_loopN hE (fun k=>k) [4,6,7,8,30,31] [4,1001,1002] (fun m fr hp=>∃(i:Nat) (out:List Int) (c:Nat),m=(wInts a).length - i∧i≤(wInts a).length∧c≤1∧out.length=(wInts a).length∧W32 out∧(∀j,i≤j→out.getD j 0=(wInts a).getD j 0)∧valI out i - c*4294967296^i=valI (wInts a) i - valI (wInts b) i∧
   fr=[(4,.ptr 4 0 0 0),(6,.slc 1001 1 0 (wInts a).length),(7,.slc 1002 1 0 (wInts b).length),(8,.val (.int .u32 c)),(30,.val (.int .i64 ((wInts a).length:Nat))),(31,.val (.int .i64 i))]∧hp=[(4,⟨41,true,.one [.nat 0]⟩),(1001,⟨104,true,.ints .u32 out⟩),(1002,⟨104,true,.ints .u32 (wArr b)⟩)]) (wInts a).length ?_ ?_ ?_
  ·kernel_rfl
  ·exact⟨0,wInts a,0,by omega,by omega,by omega,rfl,wInts_w32 a,(fun j _=>rfl),by simp[valI],rfl,rfl⟩
  rintro m _ _ ⟨i,out,c,rfl,hi,hc,hlen,hw,hrest,hval,rfl,rfl⟩
  by_cases hlt:i<(wInts a).length
  ·have t1:decide ((i:Int)<((wInts a).length:Int))=true:=decide_eq_true (by omega)
   have e1:0+(i:Int).toNat=i:=by omega
   have e2:IntKind.i64.wrap ((i:Int)+1)=((i+1:Nat):Int):=by rw[wrap_i64 (by omega) (by omega)];omega
   obtain⟨o,ho⟩:=Int.eq_ofNat_of_zero_le (hw i).1
   obtain⟨w,hww⟩:=Int.eq_ofNat_of_zero_le (wInts_w32 b i).1
   have ho2:=(hw i).2
   have hw2:=(wInts_w32 b i).2
   have k32:=c_Sub32 o w c (by omega) (by omega) hc
   have hX:(wInts a).getD i 0=o:=by rw[←hrest i (Nat.le_refl _)];exact ho
   have hstep:=sub_step (by omega) ho hX hww hval (by omega) (by omega) hc
   have hc':(if o<w+c then 1 else 0:Nat)≤1:=by split<;>omega
   have hrest':∀j,i+1≤j→(out.set i (((o+4294967296 - w - c) % 4294967296:Nat):Int)).getD j 0=(wInts a).getD j 0:=fun j hj=>by
    rw[getD_set,if_neg (by omega)];exact hrest j (by omega)
   by_cases hy:i<(wInts b).length
   ·have t2:decide ((i:Int)<((wInts b).length:Int))=true:=decide_eq_true (by omega)
    have hyl:=wArr_len b
    have e3:(wArr b).getD i 0=(w:Int):=by rw[wArr_get hy];exact hww
    conv=>whnf
    (repeat((first|refine step_w1 rfl rfl ?_|refine And.intro (by first|decide|omega|(simp only[tl0,dlen,List.length_replicate,List.length_set,List.length_map,List.length_zipWith,List.length_take,List.length_append,List.length_cons,List.length_nil];omega)) ?_|refine g_c (by assumption) ?_|rw[t1]|rw[t2]|rw[e1]|rw[e3]|rw[ho]);conv=>whnf))
    rw[e2]
    exact⟨(wInts a).length - (i+1),fun k=>k,[4,6,7,8,30,31],[4,1001,1002],by omega,by kernel_rfl,i+1,_,_,rfl,by omega,hc',by simpa using hlen,hw.set (by omega) (by omega),hrest',hstep,rfl,rfl⟩
   ·have t2:decide ((i:Int)<((wInts b).length:Int))=false:=decide_eq_false (by omega)
    have hw0:w=0:=by have:=getD_ge (xs:=wInts b) (i:=i) (by omega);omega
    subst hw0
    conv=>whnf
    (repeat((first|refine step_w1 rfl rfl ?_|refine step_w2 rfl rfl ?_|refine And.intro (by first|decide|omega|(simp only[tl0,dlen,List.length_replicate,List.length_set,List.length_map,List.length_zipWith,List.length_take,List.length_append,List.length_cons,List.length_nil];omega)) ?_|refine g_c (by assumption) ?_|rw[t1]|rw[t2]|rw[e1]|rw[ho]);conv=>whnf))
    rw[e2]
    exact⟨(wInts a).length - (i+1),fun k=>k,[4,6,7,8,30,31],[4,1001,1002],by omega,by kernel_rfl,i+1,_,_,rfl,by omega,hc',by simpa using hlen,hw.set (by omega) (by omega),hrest',hstep,rfl,rfl⟩
  ·have hi':i=(wInts a).length:=by omega
   subst hi'
   have t1:decide (((wInts a).length:Int)<((wInts a).length:Int))=false:=decide_eq_false (by omega)
   rw[wInts_valge a (by omega),wInts_valge b (by omega)]at hval
   have hsum:(valI out (wInts a).length).toNat=a - b:=by
    have h1:=valI_lt hw (wInts a).length
    have h2:=powW_pos (wInts a).length
    have hcc:c=0∨c=1:=by omega
    rcases hcc with rfl|rfl<;>omega
   have kof:=c_of out (wInts a).length (by omega) (by omega) hw 1001 true
   rw[hsum]at kof
   conv=>whnf
   (repeat(first|(refine step_w2 rfl rfl ?_;conv=>whnf)|(refine g_c1 (by assumption) rfl ?_;conv=>whnf)|(rw[t1];conv=>whnf)))
   exact Recast.refl _
end Go.Proofs.YthaeohlijigplaaGreat
namespace Go.Proofs.YthaeohlijigplaaGreat
open Go.Sx
set_option linter.unusedSimpArgs false
set_option linter.unusedVariables false
set_option maxRecDepth 100000
set_option maxHeartbeats 4000000
theorem four_words (p:Nat) (h:p<340282366920938463463374607431768211456):
  valI [((p % 18446744073709551616 % 4294967296:Nat):Int),((p % 18446744073709551616/4294967296:Nat):Int),((p/18446744073709551616 % 4294967296:Nat):Int),((p/18446744073709551616/4294967296:Nat):Int)] 4=p∧
  W32 [((p % 18446744073709551616 % 4294967296:Nat):Int),((p % 18446744073709551616/4294967296:Nat):Int),((p/18446744073709551616 % 4294967296:Nat):Int),((p/18446744073709551616/4294967296:Nat):Int)]:=by
 constructor
 ·simp only[valI,List.getD_cons_zero,List.getD_cons_succ,Int.pow_succ,Int.pow_zero]
  omega
 ·refine W32_of fun x hx=> ?_
  simp only[List.mem_cons,List.not_mem_nil,or_false]at hx
  rcases hx with rfl|rfl|rfl|rfl<;>omega
theorem c_Mul_s (a b:Nat) (ha:a<18446744073709551616) (hb:b<18446744073709551616):
  CallOK Tryz.prog 32 [.nat a,.nat b] [] (.nat (a*b)) [] []:=by
 have k1:=c_Mul64 a b ha hb
 have hp:a*b<340282366920938463463374607431768211456:=by
  have:=Nat.mul_le_mul (show a≤18446744073709551615 by omega) (show b≤18446744073709551615 by omega)
  omega
 obtain⟨h1,h2⟩:=four_words (a*b) hp
 have e1:IntKind.u32.wrap ((a*b % 18446744073709551616:Nat):Int)=((a*b % 18446744073709551616 % 4294967296:Nat):Int):=wu32m _
 have e2:IntKind.u32.wrap (ishr .u64 ((a*b % 18446744073709551616:Nat):Int) 32)=((a*b % 18446744073709551616/4294967296:Nat):Int):=by rw[ishr_hi,wu32 (by omega)]
 have e3:IntKind.u32.wrap ((a*b/18446744073709551616:Nat):Int)=((a*b/18446744073709551616 % 4294967296:Nat):Int):=wu32m _
 have e4:IntKind.u32.wrap (ishr .u64 ((a*b/18446744073709551616:Nat):Int) 32)=((a*b/18446744073709551616/4294967296:Nat):Int):=by rw[ishr_hi,wu32 (by omega)]
 have so:=c_of _ 4 (by simp) (by simp) h2 41 true
 rw[h1,Int.toNat_natCast]at so
 refine callV (Z:=[]) tabOK mixedOK Tryz.func32 rfl (by kernel_rfl) rfl rfl (by kernel_rfl) rfl ?_
 intro W0 w0 ρ0 hE
 conv=>whnf
 rw[big_eq,decide_eq_true ha]
 (repeat(first|(refine step_w1 rfl rfl ?_;conv=>whnf)|(refine g_o (op_pickT rfl (ev_ok rfl) (ev_ok rfl)) ?_;conv=>whnf)))
 rw[big_eq,decide_eq_true hb]
 (repeat((first|refine step_w1 rfl rfl ?_|refine And.intro (by first|decide|omega|(simp only[tl0,dlen,List.length_replicate,List.length_set,List.length_map,List.length_zipWith,List.length_take,List.length_append,List.length_cons,List.length_nil];omega)) ?_|refine g_c (by assumption) ?_|refine g_c1 (by assumption) rfl ?_|rw[low_small ha]|rw[low_small hb]|rw[e1]|rw[e2]|rw[e3]|rw[e4]);conv=>whnf))
 exact Recast.refl _
theorem mul_step {out o2 Y:List Int} {i k o w v c:Nat} (hi:i+k<o2.length) (ho:o2.getD (i+k) 0=o) (hout:out.getD (i+k) 0=o) (hY:Y.getD k 0=v)
  (hv:valI o2 (i+k)+c*4294967296^(i+k)=valI out (i+k)+w*4294967296^i*valI Y k):
  valI (o2.set (i+k) (((c+(w*v+o)) % 4294967296:Nat):Int)) (i+(k+1))+(((c+(w*v+o))/4294967296:Nat):Int)*4294967296^(i+(k+1))=valI out (i+(k+1))+w*4294967296^i*valI Y (k+1):=by
 rw[show i+(k+1)=(i+k)+1 from by omega,valI,valI,valI,valI_set_ge (Nat.le_refl _),getD_set,if_pos ⟨rfl,hi⟩,hout,hY,Int.pow_succ]
 have hd:(((c+(w*v+o)) % 4294967296:Nat):Int)=(c:Int)+(w*v+o) - (((c+(w*v+o))/4294967296:Nat):Int)*4294967296:=by
  have:=Nat.div_add_mod (c+(w*v+o)) 4294967296
  have h2:((w*v:Nat):Int)=(w:Int)*v:=Int.natCast_mul _ _
  omega
 rw[hd]
 rw[Int.pow_add]at hv ⊢
 generalize (((c+(w*v+o))/4294967296:Nat):Int)=q
 generalize (4294967296:Int)^i=P at*
 generalize (4294967296:Int)^k=Q at*
 grind
theorem mul_row {out o2 X:List Int} {i l w c b:Nat} {Y:List Int} (hi:i+l<o2.length) (ho:o2.getD (i+l) 0=0) (hX:X.getD i 0=w) (hY:valI Y l=b)
  (hval:valI out (i+l)=valI X i*b) (hv:valI o2 (i+l)+c*4294967296^(i+l)=valI out (i+l)+w*4294967296^i*valI Y l):
  valI (o2.set (i+l) (c:Int)) (i+l+1)=valI X (i+1)*b:=by
 rw[valI,valI,valI_set_ge (Nat.le_refl _),getD_set,if_pos ⟨rfl,hi⟩,hX,hv,hval,hY]
 generalize (4294967296:Int)^i=P at*
 grind
theorem n_Mul (a b:Nat) (ha:(wInts a).length<274877906944) (hb:(wInts b).length<274877906944):
  CallOK Tryz.prog 32 [.nat a,.nat b] [] (.nat (a*b)) [] []:=by
 by_cases hs:a<18446744073709551616∧b<18446744073709551616
 ·exact c_Mul_s a b hs.1 hs.2
 ·have ka:=c_words a 1001 (by omega)
  have kb:=c_words b 1002 (by omega)
  have ew:IntKind.i64.wrap (((wInts a).length:Int)+((wInts b).length:Int))=(((wInts a).length+(wInts b).length:Nat):Int):=by rw[wrap_i64 (by omega) (by omega)];omega
  refine callV (Z:=[]) tabOK mixedOK Tryz.func32 rfl (by kernel_rfl) rfl rfl (by kernel_rfl) rfl ?_
  intro W0 w0 ρ0 hE
  conv=>whnf
  by_cases h1:a<18446744073709551616
  ·rw[big_eq,decide_eq_true h1]
   (repeat(first|(refine step_w1 rfl rfl ?_;conv=>whnf)|(refine g_o (op_pickT rfl (ev_ok rfl) (ev_ok rfl)) ?_;conv=>whnf)))
   rw[big_eq,decide_eq_false (show ¬b<18446744073709551616 by omega)]
   (repeat((first|refine step_w2 rfl rfl ?_|refine step_i (by kernel_rfl) ?_|refine And.intro (by first|decide|omega|(simp only[tl0,dlen,List.length_replicate,List.length_set,List.length_map,List.length_zipWith,List.length_take,List.length_append,List.length_cons,List.length_nil];omega)) ?_|refine g_cn (by assumption) rfl ?_|rw[ew]);conv=>whnf))
   refine SW_loopN hE (fun k=>k) [4,8,9,53,54,55] [4,1001,1002,52] (fun m fr hp=>∃(i:Nat) (out:List Int),m=(wInts a).length - i∧i≤(wInts a).length∧out.length=(wInts a).length+(wInts b).length∧W32 out∧(∀j,i+(wInts b).length≤j→out.getD j 0=0)∧valI out (i+(wInts b).length)=valI (wInts a) i*b∧
    fr=[(4,.ptr 4 0 0 0),(8,.slc 1002 1 0 (wInts b).length),(9,.slc 52 1 0 ((wInts a).length+(wInts b).length)),(53,.slc 1001 1 0 (wInts a).length),(54,.val (.int .i64 ((wInts a).length:Nat))),(55,.val (.int .i64 i))]∧hp=[(4,⟨41,true,.one [.nat 0]⟩),(1001,⟨104,true,.ints .u32 (wArr a)⟩),(1002,⟨104,true,.ints .u32 (wArr b)⟩),(52,⟨104,true,.ints .u32 out⟩)]) (wInts a).length ?_ ?_ ?_
   ·kernel_rfl
   ·exact⟨0,List.replicate ((wInts a).length+(wInts b).length) 0,rfl,by omega,by simp,(fun i=>by rw[getD_replicate];decide),(fun j _=>getD_replicate),by rw[valI_zeros (k:=0) (fun i _ _=>getD_replicate) (by omega)];simp[valI],rfl,rfl⟩
   rintro m _ _ ⟨i,out,rfl,hi,hlen,hw,hz,hval,rfl,rfl⟩
   by_cases hlt:i<(wInts a).length
   ·have t1:decide ((i:Int)<((wInts a).length:Int))=true:=decide_eq_true (by omega)
    have e1:0+(i:Int).toNat=i:=by omega
    have e2:IntKind.i64.wrap ((i:Int)+1)=((i+1:Nat):Int):=by rw[wrap_i64 (by omega) (by omega)];omega
    obtain⟨w,hww⟩:=Int.eq_ofNat_of_zero_le (wInts_w32 a i).1
    have hw2:=(wInts_w32 a i).2
    have hal:=wArr_len a
    have e3:(wArr a).getD i 0=(w:Int):=by rw[wArr_get hlt];exact hww
    conv=>whnf
    (repeat((first|refine step_w1 rfl rfl ?_|refine And.intro (by first|decide|omega|(simp only[tl0,dlen,List.length_replicate,List.length_set,List.length_map,List.length_zipWith,List.length_take,List.length_append,List.length_cons,List.length_nil];omega)) ?_|rw[t1]|rw[e1]|rw[e3]);conv=>whnf))
    refine SW_loopN hE (fun k=>k) [4,8,9,10,11,12,53,54,55,60,61,62] [4,1001,1002,52] (fun m fr hp=>∃(k:Nat) (o2:List Int) (c:Nat),m=(wInts b).length - k∧k≤(wInts b).length∧c<4294967296∧o2.length=(wInts a).length+(wInts b).length∧W32 o2∧(∀j,i+k≤j→o2.getD j 0=out.getD j 0)∧valI o2 (i+k)+c*4294967296^(i+k)=valI out (i+k)+w*4294967296^i*valI (wInts b) k∧
     fr=[(4,.ptr 4 0 0 0),(8,.slc 1002 1 0 (wInts b).length),(9,.slc 52 1 0 ((wInts a).length+(wInts b).length)),(10,.val (.int .i64 i)),(11,.val (.int .u32 w)),(12,.val (.int .u64 c)),(53,.slc 1001 1 0 (wInts a).length),(54,.val (.int .i64 ((wInts a).length:Nat))),(55,.val (.int .i64 i)),(60,.slc 1002 1 0 (wInts b).length),(61,.val (.int .i64 ((wInts b).length:Nat))),(62,.val (.int .i64 k))]∧hp=[(4,⟨41,true,.one [.nat 0]⟩),(1001,⟨104,true,.ints .u32 (wArr a)⟩),(1002,⟨104,true,.ints .u32 (wArr b)⟩),(52,⟨104,true,.ints .u32 o2⟩)]) (wInts b).length ?_ ?_ ?_
    ·kernel_rfl
    ·exact⟨0,out,0,rfl,by omega,by omega,hlen,hw,(fun j _=>rfl),by simp[valI],rfl,rfl⟩
    rintro m _ _ ⟨k,o2,c,rfl,hk,hc,hlen2,hw2',hrest,hval2,rfl,rfl⟩
    have e4:IntKind.i64.wrap ((k:Int)+1)=((k+1:Nat):Int):=by rw[wrap_i64 (by omega) (by omega)];omega
    have hbl:=wArr_len b
    by_cases hklt:k<(wInts b).length
    ·have t2:decide ((k:Int)<((wInts b).length:Int))=true:=decide_eq_true (by omega)
     have e5:0+(k:Int).toNat=k:=by omega
     have e6:IntKind.i64.wrap ((i:Int)+k)=((i+k:Nat):Int):=by rw[wrap_i64 (by omega) (by omega)];omega
     have e7:0+((i+k:Nat):Int).toNat=i+k:=by omega
     obtain⟨v,hvv⟩:=Int.eq_ofNat_of_zero_le (wInts_w32 b k).1
     have hv2:=(wInts_w32 b k).2
     obtain⟨o,ho⟩:=Int.eq_ofNat_of_zero_le (hw2' (i+k)).1
     have ho2:=(hw2' (i+k)).2
     have e8:(wArr b).getD k 0=(v:Int):=by rw[wArr_get hklt];exact hvv
     have hpv:w*v≤4294967295*4294967295:=Nat.mul_le_mul (by omega) (by omega)
     have e9:IntKind.u64.wrap ((c:Int)+IntKind.u64.wrap (IntKind.u64.wrap (IntKind.u64.wrap (w:Int)*IntKind.u64.wrap (v:Int))+IntKind.u64.wrap (o:Int)))=((c+(w*v+o):Nat):Int):=by
      rw[wu64 (n:=w) (by omega),wu64 (n:=v) (by omega),wu64 (n:=o) (by omega),←Int.natCast_mul,wu64 (n:=w*v) (by omega),←Int.natCast_add,wu64 (n:=w*v+o) (by omega),←Int.natCast_add,wu64 (by omega)]
     have e10:IntKind.u32.wrap ((c+(w*v+o):Nat):Int)=(((c+(w*v+o)) % 4294967296:Nat):Int):=wu32m _
     have e11:ishr .u64 ((c+(w*v+o):Nat):Int) 32=(((c+(w*v+o))/4294967296:Nat):Int):=ishr_hi _
     have hc':(c+(w*v+o))/4294967296<4294967296:=by omega
     have hstep:=mul_step (i:=i) (k:=k) (Y:=wInts b) (by omega) ho (by rw[←hrest (i+k) (Nat.le_refl _)];exact ho) hvv hval2
     conv=>whnf
     (repeat((first|refine step_w1 rfl rfl ?_|refine And.intro (by first|decide|omega|(simp only[tl0,dlen,List.length_replicate,List.length_set,List.length_map,List.length_zipWith,List.length_take,List.length_append,List.length_cons,List.length_nil];omega)) ?_|rw[t2]|rw[e5]|rw[e8]|rw[e6]|rw[e7]|rw[ho]|rw[e9]|rw[e10]|rw[e11]|rw[e4]);conv=>whnf))
     exact⟨(wInts b).length - (k+1),fun k=>k,[4,8,9,10,11,12,53,54,55,60,61,62],[4,1001,1002,52],by omega,by kernel_rfl,k+1,_,_,rfl,by omega,hc',by simpa using hlen2,hw2'.set (by omega) (by omega),(fun j hj=>by rw[getD_set,if_neg (by omega)];exact hrest j (by omega)),hstep,rfl,rfl⟩
    ·have hk':k=(wInts b).length:=by omega
     subst hk'
     have t2:decide (((wInts b).length:Int)<((wInts b).length:Int))=false:=decide_eq_false (by omega)
     have e6:IntKind.i64.wrap ((i:Int)+((wInts b).length:Int))=((i+(wInts b).length:Nat):Int):=by rw[wrap_i64 (by omega) (by omega)];omega
     have e7:0+((i+(wInts b).length:Nat):Int).toNat=i+(wInts b).length:=by omega
     have e8:IntKind.u32.wrap (c:Int)=(c:Int):=wu32 hc
     have hfin:=mul_row (X:=wInts a) (o2:=o2) (by omega) (by rw[hrest _ (Nat.le_refl _)];exact hz _ (Nat.le_refl _)) hww (wInts_val b) hval hval2
     conv=>whnf
     (repeat((first|refine step_w2 rfl rfl ?_|refine And.intro (by first|decide|omega|(simp only[tl0,dlen,List.length_replicate,List.length_set,List.length_map,List.length_zipWith,List.length_take,List.length_append,List.length_cons,List.length_nil];omega)) ?_|rw[t2]|rw[e6]|rw[e7]|rw[e8]|rw[e2]);conv=>whnf))
     exact⟨(wInts a).length - (i+1),fun k=>k,[4,8,9,53,54,55],[4,1001,1002,52],by omega,by kernel_rfl,i+1,_,rfl,by omega,by simpa using hlen2,hw2'.set (by omega) (by omega),(fun j hj=>by rw[getD_set,if_neg (by omega),hrest j (by omega)];exact hz j (by omega)),by rw[show i+1+(wInts b).length=i+(wInts b).length+1 from by omega];exact hfin,rfl,rfl⟩
   ·have hi':i=(wInts a).length:=by omega
    subst hi'
    have t1:decide (((wInts a).length:Int)<((wInts a).length:Int))=false:=decide_eq_false (by omega)
    rw[wInts_val]at hval
    have hsum:(valI out ((wInts a).length+(wInts b).length)).toNat=a*b:=by
     rw[hval,←Int.natCast_mul,Int.toNat_natCast]
    have kof:=c_of out ((wInts a).length+(wInts b).length) (by omega) (by omega) hw 52 true
    rw[hsum]at kof
    conv=>whnf
    (repeat(first|(refine step_w2 rfl rfl ?_;conv=>whnf)|(refine g_c1 (by assumption) rfl ?_;conv=>whnf)|(rw[t1];conv=>whnf)))
    exact Recast.refl _
  ·rw[big_eq,decide_eq_false h1]
   (repeat((first|refine step_w2 rfl rfl ?_|refine step_i (by kernel_rfl) ?_|refine And.intro (by first|decide|omega|(simp only[tl0,dlen,List.length_replicate,List.length_set,List.length_map,List.length_zipWith,List.length_take,List.length_append,List.length_cons,List.length_nil];omega)) ?_|refine g_cn (by assumption) rfl ?_|refine g_o (op_pickF rfl (ev_ok rfl) (ev_ok rfl)) ?_|rw[ew]);conv=>whnf))
   refine SW_loopN hE (fun k=>k) [4,8,9,53,54,55] [4,1001,1002,52] (fun m fr hp=>∃(i:Nat) (out:List Int),m=(wInts a).length - i∧i≤(wInts a).length∧out.length=(wInts a).length+(wInts b).length∧W32 out∧(∀j,i+(wInts b).length≤j→out.getD j 0=0)∧valI out (i+(wInts b).length)=valI (wInts a) i*b∧
    fr=[(4,.ptr 4 0 0 0),(8,.slc 1002 1 0 (wInts b).length),(9,.slc 52 1 0 ((wInts a).length+(wInts b).length)),(53,.slc 1001 1 0 (wInts a).length),(54,.val (.int .i64 ((wInts a).length:Nat))),(55,.val (.int .i64 i))]∧hp=[(4,⟨41,true,.one [.nat 0]⟩),(1001,⟨104,true,.ints .u32 (wArr a)⟩),(1002,⟨104,true,.ints .u32 (wArr b)⟩),(52,⟨104,true,.ints .u32 out⟩)]) (wInts a).length ?_ ?_ ?_
   ·kernel_rfl
   ·exact⟨0,List.replicate ((wInts a).length+(wInts b).length) 0,rfl,by omega,by simp,(fun i=>by rw[getD_replicate];decide),(fun j _=>getD_replicate),by rw[valI_zeros (k:=0) (fun i _ _=>getD_replicate) (by omega)];simp[valI],rfl,rfl⟩
   rintro m _ _ ⟨i,out,rfl,hi,hlen,hw,hz,hval,rfl,rfl⟩
   by_cases hlt:i<(wInts a).length
   ·have t1:decide ((i:Int)<((wInts a).length:Int))=true:=decide_eq_true (by omega)
    have e1:0+(i:Int).toNat=i:=by omega
    have e2:IntKind.i64.wrap ((i:Int)+1)=((i+1:Nat):Int):=by rw[wrap_i64 (by omega) (by omega)];omega
    obtain⟨w,hww⟩:=Int.eq_ofNat_of_zero_le (wInts_w32 a i).1
    have hw2:=(wInts_w32 a i).2
    have hal:=wArr_len a
    have e3:(wArr a).getD i 0=(w:Int):=by rw[wArr_get hlt];exact hww
    conv=>whnf
    (repeat((first|refine step_w1 rfl rfl ?_|refine And.intro (by first|decide|omega|(simp only[tl0,dlen,List.length_replicate,List.length_set,List.length_map,List.length_zipWith,List.length_take,List.length_append,List.length_cons,List.length_nil];omega)) ?_|rw[t1]|rw[e1]|rw[e3]);conv=>whnf))
    refine SW_loopN hE (fun k=>k) [4,8,9,10,11,12,53,54,55,60,61,62] [4,1001,1002,52] (fun m fr hp=>∃(k:Nat) (o2:List Int) (c:Nat),m=(wInts b).length - k∧k≤(wInts b).length∧c<4294967296∧o2.length=(wInts a).length+(wInts b).length∧W32 o2∧(∀j,i+k≤j→o2.getD j 0=out.getD j 0)∧valI o2 (i+k)+c*4294967296^(i+k)=valI out (i+k)+w*4294967296^i*valI (wInts b) k∧
     fr=[(4,.ptr 4 0 0 0),(8,.slc 1002 1 0 (wInts b).length),(9,.slc 52 1 0 ((wInts a).length+(wInts b).length)),(10,.val (.int .i64 i)),(11,.val (.int .u32 w)),(12,.val (.int .u64 c)),(53,.slc 1001 1 0 (wInts a).length),(54,.val (.int .i64 ((wInts a).length:Nat))),(55,.val (.int .i64 i)),(60,.slc 1002 1 0 (wInts b).length),(61,.val (.int .i64 ((wInts b).length:Nat))),(62,.val (.int .i64 k))]∧hp=[(4,⟨41,true,.one [.nat 0]⟩),(1001,⟨104,true,.ints .u32 (wArr a)⟩),(1002,⟨104,true,.ints .u32 (wArr b)⟩),(52,⟨104,true,.ints .u32 o2⟩)]) (wInts b).length ?_ ?_ ?_
    ·kernel_rfl
    ·exact⟨0,out,0,rfl,by omega,by omega,hlen,hw,(fun j _=>rfl),by simp[valI],rfl,rfl⟩
    rintro m _ _ ⟨k,o2,c,rfl,hk,hc,hlen2,hw2',hrest,hval2,rfl,rfl⟩
    have e4:IntKind.i64.wrap ((k:Int)+1)=((k+1:Nat):Int):=by rw[wrap_i64 (by omega) (by omega)];omega
    have hbl:=wArr_len b
    by_cases hklt:k<(wInts b).length
    ·have t2:decide ((k:Int)<((wInts b).length:Int))=true:=decide_eq_true (by omega)
     have e5:0+(k:Int).toNat=k:=by omega
     have e6:IntKind.i64.wrap ((i:Int)+k)=((i+k:Nat):Int):=by rw[wrap_i64 (by omega) (by omega)];omega
     have e7:0+((i+k:Nat):Int).toNat=i+k:=by omega
     obtain⟨v,hvv⟩:=Int.eq_ofNat_of_zero_le (wInts_w32 b k).1
     have hv2:=(wInts_w32 b k).2
     obtain⟨o,ho⟩:=Int.eq_ofNat_of_zero_le (hw2' (i+k)).1
     have ho2:=(hw2' (i+k)).2
     have e8:(wArr b).getD k 0=(v:Int):=by rw[wArr_get hklt];exact hvv
     have hpv:w*v≤4294967295*4294967295:=Nat.mul_le_mul (by omega) (by omega)
     have e9:IntKind.u64.wrap ((c:Int)+IntKind.u64.wrap (IntKind.u64.wrap (IntKind.u64.wrap (w:Int)*IntKind.u64.wrap (v:Int))+IntKind.u64.wrap (o:Int)))=((c+(w*v+o):Nat):Int):=by
      rw[wu64 (n:=w) (by omega),wu64 (n:=v) (by omega),wu64 (n:=o) (by omega),←Int.natCast_mul,wu64 (n:=w*v) (by omega),←Int.natCast_add,wu64 (n:=w*v+o) (by omega),←Int.natCast_add,wu64 (by omega)]
     have e10:IntKind.u32.wrap ((c+(w*v+o):Nat):Int)=(((c+(w*v+o)) % 4294967296:Nat):Int):=wu32m _
     have e11:ishr .u64 ((c+(w*v+o):Nat):Int) 32=(((c+(w*v+o))/4294967296:Nat):Int):=ishr_hi _
     have hc':(c+(w*v+o))/4294967296<4294967296:=by omega
     have hstep:=mul_step (i:=i) (k:=k) (Y:=wInts b) (by omega) ho (by rw[←hrest (i+k) (Nat.le_refl _)];exact ho) hvv hval2
     conv=>whnf
     (repeat((first|refine step_w1 rfl rfl ?_|refine And.intro (by first|decide|omega|(simp only[tl0,dlen,List.length_replicate,List.length_set,List.length_map,List.length_zipWith,List.length_take,List.length_append,List.length_cons,List.length_nil];omega)) ?_|rw[t2]|rw[e5]|rw[e8]|rw[e6]|rw[e7]|rw[ho]|rw[e9]|rw[e10]|rw[e11]|rw[e4]);conv=>whnf))
     exact⟨(wInts b).length - (k+1),fun k=>k,[4,8,9,10,11,12,53,54,55,60,61,62],[4,1001,1002,52],by omega,by kernel_rfl,k+1,_,_,rfl,by omega,hc',by simpa using hlen2,hw2'.set (by omega) (by omega),(fun j hj=>by rw[getD_set,if_neg (by omega)];exact hrest j (by omega)),hstep,rfl,rfl⟩
    ·have hk':k=(wInts b).length:=by omega
     subst hk'
     have t2:decide (((wInts b).length:Int)<((wInts b).length:Int))=false:=decide_eq_false (by omega)
     have e6:IntKind.i64.wrap ((i:Int)+((wInts b).length:Int))=((i+(wInts b).length:Nat):Int):=by rw[wrap_i64 (by omega) (by omega)];omega
     have e7:0+((i+(wInts b).length:Nat):Int).toNat=i+(wInts b).length:=by omega
     have e8:IntKind.u32.wrap (c:Int)=(c:Int):=wu32 hc
     have hfin:=mul_row (X:=wInts a) (o2:=o2) (by omega) (by rw[hrest _ (Nat.le_refl _)];exact hz _ (Nat.le_refl _)) hww (wInts_val b) hval hval2
     conv=>whnf
     (repeat((first|refine step_w2 rfl rfl ?_|refine And.intro (by first|decide|omega|(simp only[tl0,dlen,List.length_replicate,List.length_set,List.length_map,List.length_zipWith,List.length_take,List.length_append,List.length_cons,List.length_nil];omega)) ?_|rw[t2]|rw[e6]|rw[e7]|rw[e8]|rw[e2]);conv=>whnf))
     exact⟨(wInts a).length - (i+1),fun k=>k,[4,8,9,53,54,55],[4,1001,1002,52],by omega,by kernel_rfl,i+1,_,rfl,by omega,by simpa using hlen2,hw2'.set (by omega) (by omega),(fun j hj=>by rw[getD_set,if_neg (by omega),hrest j (by omega)];exact hz j (by omega)),by rw[show i+1+(wInts b).length=i+(wInts b).length+1 from by omega];exact hfin,rfl,rfl⟩
   ·have hi':i=(wInts a).length:=by omega
    subst hi'
    have t1:decide (((wInts a).length:Int)<((wInts a).length:Int))=false:=decide_eq_false (by omega)
    rw[wInts_val]at hval
    have hsum:(valI out ((wInts a).length+(wInts b).length)).toNat=a*b:=by
     rw[hval,←Int.natCast_mul,Int.toNat_natCast]
    have kof:=c_of out ((wInts a).length+(wInts b).length) (by omega) (by omega) hw 52 true
    rw[hsum]at kof
    conv=>whnf
    (repeat(first|(refine step_w2 rfl rfl ?_;conv=>whnf)|(refine g_c1 (by assumption) rfl ?_;conv=>whnf)|(rw[t1];conv=>whnf)))
    exact Recast.refl _
end Go.Proofs.YthaeohlijigplaaGreat
namespace Go.Proofs.YthaeohlijigplaaGreat
open Go.Sx
set_option linter.unusedSimpArgs false
set_option linter.unusedVariables false
set_option maxRecDepth 100000
set_option maxHeartbeats 4000000
theorem c_short (xs:List Int) (n:Nat) (hn:n≤xs.length) (hl:xs.length<1099511627776) (hx:W32 xs) (y:Nat) (hy0:y≠0) (hy:y<4294967296) (K Q:Nat) (hKQ:Q≠K) (wr:Bool) (X:Nat) (hX:valI xs n=X):
  CallOK Tryz.prog 89 [.slc K 1 0 n,.val (.int .u32 y)] [(K,⟨104,wr,.ints .u32 xs⟩)] (.tup [.slc Q 1 0 n,.val (.int .u32 (X % y:Nat))]) [(Q,⟨104,true,.ints .u32 (digs (X/y) n)⟩)] []:=by
 refine CallOK.anyWr ?_
 refine callK (Z:=[]) tabOK mixedOK Tryz.func89 rfl (by kernel_rfl) (args:=[.slc 0 1 0 n,.val (.int .u32 y)]) (fk:=[(0,⟨104,false,.ints .u32 xs⟩)]) (c:=.tup [.slc 9 1 0 n,.val (.int .u32 (X % y:Nat))]) (new:=[(9,⟨104,true,.ints .u32 (digs (X/y) n)⟩)]) (upd:=[]) (ShapeOK.of rfl rfl rfl rfl rfl rfl rfl rfl rfl rfl rfl) rfl (renBy [(0,K),(9,Q)]) (NamesOK.roNew rfl (fun q hq=>by simp[keysOf]at hq;subst hq;exact hKQ)) ?_
 intro W0 w0 ρ0 hE
 conv=>whnf
 have e0:IntKind.i64.wrap ((n:Int) - 1)=(n:Int) - 1:=wrap_i64 (by omega) (by omega)
 (repeat(first|(refine And.intro (by first|decide|omega|(simp only[tl0,dlen,List.length_replicate,List.length_set,List.length_map,List.length_zipWith,List.length_take,List.length_append,List.length_cons,List.length_nil];omega)) ?_;conv=>whnf)|(rw[e0];conv=>whnf)))
 refine SW_loopN hE (fun k=>k) [0,1,4,5,6] [0,9] (fun j fr hp=>∃(q:List Int) (r:Nat),j≤n∧q.length=n∧W32 q∧(∀i,i<j→q.getD i 0=0)∧r<y∧valI q n*y+r*4294967296^j=X - valI xs j∧
  fr=[(0,.slc 0 1 0 n),(1,.val (.int .u32 y)),(4,.slc 9 1 0 n),(5,.val (.int .u32 r)),(6,.val (.int .i64 ((j:Int) - 1)))]∧hp=[(0,⟨104,false,.ints .u32 xs⟩),(9,⟨104,true,.ints .u32 q⟩)]) n ?_ ?_ ?_
 ·kernel_rfl
 ·exact⟨List.replicate n 0,0,by omega,by simp,(fun i=>by rw[getD_replicate];decide),(fun i _=>getD_replicate),by omega,by rw[valI_zeros (k:=0) (fun i _ _=>getD_replicate) (by omega),hX];simp[valI],rfl,rfl⟩
 rintro j _ _ ⟨q,r,hj,hql,hq,hq0,hr,hval,rfl,rfl⟩
 by_cases h0:j=0
 ·subst h0
  have t2:decide (((0:Nat):Int) - 1≥0)=false:=rfl
  obtain⟨Qv,hQ⟩:=Int.eq_ofNat_of_zero_le (valI_nonneg hq n)
  have hX2:Qv*y+r=X:=by
   rw[hQ,Int.pow_zero,Int.mul_one,valI,Int.sub_zero,←Int.natCast_mul]at hval
   omega
  have hdiv:X/y=Qv:=by rw[←hX2,Nat.add_comm,Nat.add_mul_div_right _ _ (by omega),Nat.div_eq_of_lt hr,Nat.zero_add]
  have hmod:X % y=r:=by rw[←hX2,Nat.add_comm,Nat.add_mul_mod_self_right,Nat.mod_eq_of_lt hr]
  rw[hdiv,hmod,←digs_of' hql hq hQ]
  conv=>whnf
  (repeat(first|(refine step_w2 rfl rfl ?_;conv=>whnf)))
  exact⟨Recast.refl _,one_get rfl,(fun _ _ h=>by cases h)⟩
 ·obtain⟨i,rfl⟩:∃i,j=i+1:=⟨j - 1,by omega⟩
  have ei:(((i+1:Nat):Int) - 1)=(i:Int):=by omega
  rw[ei]
  have t2:decide ((i:Int)≥0)=true:=decide_eq_true (by omega)
  have e1:0+(i:Int).toNat=i:=by omega
  have e2:IntKind.i64.wrap ((i:Int) - 1)=(i:Int) - 1:=wrap_i64 (by omega) (by omega)
  obtain⟨w,hww⟩:=Int.eq_ofNat_of_zero_le (hx i).1
  have hw2:=(hx i).2
  have kd:=c_Div32 r w y hr (by omega) hy
  have hrl:(r*4294967296+w) % y<y:=Nat.mod_lt _ (by omega)
  have hqd:(r*4294967296+w)/y<4294967296:=Nat.div_lt_of_lt_mul (by
   have:=Nat.mul_le_mul_right 4294967296 (show r+1≤y by omega)
   rw[Nat.mul_comm y];omega)
  have hstep:valI (q.set i (((r*4294967296+w)/y:Nat):Int)) n*y+(((r*4294967296+w) % y:Nat):Int)*4294967296^i=X - valI xs i:=by
   rw[valI_set (by omega) (by omega),hq0 i (by omega),Int.sub_zero]
   have hdm:((y:Int)*(((r*4294967296+w)/y:Nat):Int)+(((r*4294967296+w) % y:Nat):Int))=(r:Int)*4294967296+w:=by
    have:=Nat.div_add_mod (r*4294967296+w) y
    rw[←Int.natCast_mul,←Int.natCast_add,this];omega
   rw[Int.pow_succ,valI,hww]at hval
   generalize (((r*4294967296+w)/y:Nat):Int)=d at*
   generalize (((r*4294967296+w) % y:Nat):Int)=e at*
   generalize (4294967296:Int)^i=P at*
   grind
  conv=>whnf
  (repeat((first|refine step_w1 rfl rfl ?_|refine And.intro (by first|decide|omega|(simp only[tl0,dlen,List.length_replicate,List.length_set,List.length_map,List.length_zipWith,List.length_take,List.length_append,List.length_cons,List.length_nil];omega)) ?_|refine g_c (by assumption) ?_|rw[t2]|rw[e1]|rw[hww]|rw[e2]);conv=>whnf))
  exact⟨i,fun k=>k,[0,1,4,5,6],[0,9],by omega,by kernel_rfl,_,_,by omega,by simpa using hql,hq.set (Int.natCast_nonneg _) (Int.ofNat_lt.2 hqd),(fun j hj=>by rw[getD_set,if_neg (by omega)];exact hq0 j (by omega)),hrl,hstep,rfl,rfl⟩
theorem shl_or {w s c:Nat} (hs:s<32) (hc:c<2^s) (hw:w<4294967296):
  ior .u32 (ishl .u32 (w:Int) (s:Int)) (c:Int)=((w*2^s % 4294967296+c:Nat):Int)∧w*2^s % 4294967296+c<4294967296:=by
 have hmin:min (s:Int).toNat IntKind.u32.bits=s:=by simp[IntKind.bits];omega
 have e:ishl .u32 (w:Int) (s:Int)=((w*2^s % 4294967296:Nat):Int):=by
  rw[ishl,hmin,show(w:Int)*2^s=((w*2^s:Nat):Int)from by rw[Int.natCast_mul,Int.natCast_pow];rfl]
  exact wu32m _
 have hW:4294967296=2^(32 - s)*2^s:=by rw[←Nat.pow_add,show 32 - s+s=32 from by omega]
 have e2:w*2^s % 4294967296=2^s*(w % 2^(32 - s)):=by
  rw[hW,Nat.mul_mod_mul_right,Nat.mul_comm]
 have hm:w*2^s % 4294967296<4294967296:=Nat.mod_lt _ (by decide)
 have hlt:w % 2^(32 - s)<2^(32 - s):=Nat.mod_lt _ (Nat.two_pow_pos _)
 have hsum:w*2^s % 4294967296+c<4294967296:=by
  rw[e2]
  have:=Nat.mul_le_mul_left (2^s) (show w % 2^(32 - s)+1≤2^(32 - s)from hlt)
  rw[Nat.mul_comm (2^s) (2^(32 - s)),←hW,Nat.mul_add,Nat.mul_one]at this
  omega
 refine⟨?_,hsum⟩
 rw[e,ior_u32 hm (by omega)]
 congr 1
 rw[e2,←Nat.two_pow_add_eq_or_of_lt hc]
theorem c_shifted (xs:List Int) (n:Nat) (hn:n≤xs.length) (hl:xs.length<1099511627776) (hx:W32 xs) (s:Nat) (hs:s<32) (K Q:Nat) (hKQ:Q≠K) (wr:Bool) (X:Nat) (hX:valI xs n=X):
  CallOK Tryz.prog 120 [.slc K 1 0 n,.val (.int .i64 s)] [(K,⟨104,wr,.ints .u32 xs⟩)] (.slc Q 1 0 (n+1)) [(Q,⟨104,true,.ints .u32 (digs (X*2^s) (n+1))⟩)] []:=by
 refine CallOK.anyWr ?_
 refine callK (Z:=[]) tabOK mixedOK Tryz.func120 rfl (by kernel_rfl) (args:=[.slc 0 1 0 n,.val (.int .i64 s)]) (fk:=[(0,⟨104,false,.ints .u32 xs⟩)]) (c:=.slc 12 1 0 (n+1)) (new:=[(12,⟨104,true,.ints .u32 (digs (X*2^s) (n+1))⟩)]) (upd:=[]) (ShapeOK.of rfl rfl rfl rfl rfl rfl rfl rfl rfl rfl rfl) rfl (renBy [(0,K),(12,Q)]) (NamesOK.roNew rfl (fun q hq=>by simp[keysOf]at hq;subst hq;exact hKQ)) ?_
 intro W0 w0 ρ0 hE
 conv=>whnf
 have ew:IntKind.i64.wrap ((n:Int)+1)=((n+1:Nat):Int):=by rw[wrap_i64 (by omega) (by omega)];omega
 (repeat(first|(refine And.intro (by first|decide|omega|(simp only[tl0,dlen,List.length_replicate,List.length_set,List.length_map,List.length_zipWith,List.length_take,List.length_append,List.length_cons,List.length_nil];omega)) ?_;conv=>whnf)|(rw[ew];conv=>whnf)))
 refine SW_loopN hE (fun k=>k) [0,1,5,6,13,14,15] [0,12] (fun m fr hp=>∃(i:Nat) (out:List Int) (c:Nat),m=n - i∧i≤n∧out.length=n+1∧W32 out∧c<2^s∧valI out i+c*4294967296^i=valI xs i*2^s∧
  fr=[(0,.slc 0 1 0 n),(1,.val (.int .i64 s)),(5,.slc 12 1 0 (n+1)),(6,.val (.int .u32 c)),(13,.slc 0 1 0 n),(14,.val (.int .i64 n)),(15,.val (.int .i64 i))]∧hp=[(0,⟨104,false,.ints .u32 xs⟩),(12,⟨104,true,.ints .u32 out⟩)]) n ?_ ?_ ?_
 ·kernel_rfl
 ·exact⟨0,List.replicate (n+1) 0,0,by omega,by omega,by simp,(fun i=>by rw[getD_replicate];decide),Nat.two_pow_pos s,by simp[valI],rfl,rfl⟩
 rintro m _ _ ⟨i,out,c,rfl,hi,hlen,hw,hc,hval,rfl,rfl⟩
 have hs64:2^s≤2147483648:=Nat.le_trans (Nat.pow_le_pow_right (by decide) (show s≤31 by omega)) (by decide)
 by_cases hlt:i<n
 ·have t1:decide ((i:Int)<(n:Int))=true:=decide_eq_true (by omega)
  have e1:0+(i:Int).toNat=i:=by omega
  have e2:IntKind.i64.wrap ((i:Int)+1)=((i+1:Nat):Int):=by rw[wrap_i64 (by omega) (by omega)];omega
  obtain⟨w,hww⟩:=Int.eq_ofNat_of_zero_le (hx i).1
  have hw2:=(hx i).2
  obtain⟨f1,f2⟩:=shl_or (w:=w) hs hc (by omega)
  have hws:w*2^s≤4294967295*2147483648:=Nat.mul_le_mul (by omega) hs64
  have f3:IntKind.u32.wrap (ishr .u64 (ishl .u64 (IntKind.u64.wrap (w:Int)) (s:Int)) 32)=((w*2^s/4294967296:Nat):Int):=by
   have hmin:min (s:Int).toNat IntKind.u64.bits=s:=by simp[IntKind.bits];omega
   rw[wu64 (n:=w) (by omega),ishl,hmin,show(w:Int)*2^s=((w*2^s:Nat):Int)from by rw[Int.natCast_mul,Int.natCast_pow];rfl,wu64 (by omega),ishr_hi,wu32 (by omega)]
  have hc':w*2^s/4294967296<2^s:=Nat.div_lt_of_lt_mul (by
   exact Nat.mul_lt_mul_of_pos_right (by omega) (Nat.two_pow_pos s))
  have hstep:valI (out.set i ((w*2^s % 4294967296+c:Nat):Int)) (i+1)+((w*2^s/4294967296:Nat):Int)*4294967296^(i+1)=valI xs (i+1)*2^s:=by
   rw[valI,valI,valI_set_ge (Nat.le_refl _),getD_set,if_pos ⟨rfl,by omega⟩,hww,Int.pow_succ]
   have hd:((w*2^s % 4294967296+c:Nat):Int)=(w:Int)*2^s+c - ((w*2^s/4294967296:Nat):Int)*4294967296:=by
    have:=Nat.div_add_mod (w*2^s) 4294967296
    have h2:((w*2^s:Nat):Int)=(w:Int)*2^s:=by rw[Int.natCast_mul,Int.natCast_pow];rfl
    omega
   rw[hd]
   generalize ((w*2^s/4294967296:Nat):Int)=q
   generalize (4294967296:Int)^i=P at*
   generalize (2:Int)^s=S at*
   grind
  conv=>whnf
  (repeat((first|refine step_w1 rfl rfl ?_|refine And.intro (by first|decide|omega|(simp only[tl0,dlen,List.length_replicate,List.length_set,List.length_map,List.length_zipWith,List.length_take,List.length_append,List.length_cons,List.length_nil];omega)) ?_|rw[t1]|rw[e1]|rw[hww]|rw[f1]|rw[f3]|rw[e2]);conv=>whnf))
  exact⟨n - (i+1),fun k=>k,[0,1,5,6,13,14,15],[0,12],by omega,by kernel_rfl,i+1,_,_,rfl,by omega,by simpa using hlen,hw.set (by omega) (by omega),hc',hstep,rfl,rfl⟩
 ·have hi':i=n:=by omega
  subst hi'
  have t1:decide ((i:Int)<(i:Int))=false:=decide_eq_false (by omega)
  have e1:0+(i:Int).toNat=i:=by omega
  have hcl:c<4294967296:=by omega
  have hfin:valI (out.set i (c:Int)) (i+1)=((X*2^s:Nat):Int):=by
   rw[valI,valI_set_ge (Nat.le_refl _),getD_set,if_pos ⟨rfl,by omega⟩,hval,hX,Int.natCast_mul,Int.natCast_pow];rfl
  rw[←digs_of' (xs:=out.set i (c:Int)) (by simpa using hlen) (hw.set (by omega) (by omega)) hfin]
  conv=>whnf
  (repeat((first|refine step_w2 rfl rfl ?_|refine And.intro (by first|decide|omega|(simp only[tl0,dlen,List.length_replicate,List.length_set,List.length_map,List.length_zipWith,List.length_take,List.length_append,List.length_cons,List.length_nil];omega)) ?_|rw[t1]|rw[e1]);conv=>whnf))
  exact⟨Recast.refl _,one_get rfl,(fun _ _ h=>by cases h)⟩
theorem c_half (us:List Int) (hl:us.length<1099511627776) (hu:W32 us) (K:Nat) (U:Nat) (hU:valI us us.length=U):
  CallOK Tryz.prog 122 [.slc K 1 0 us.length] [(K,⟨104,true,.ints .u32 us⟩)] (.tup []) [] [(K,⟨104,true,.ints .u32 (digs (U/2) us.length)⟩)]:=by
 refine callK (Z:=[]) tabOK mixedOK Tryz.func122 rfl (by kernel_rfl) (args:=[.slc 0 1 0 us.length]) (fk:=[(0,⟨104,true,.ints .u32 us⟩)]) (c:=.tup []) (new:=[]) (upd:=[(0,⟨104,true,.ints .u32 (digs (U/2) us.length)⟩)]) (ShapeOK.of rfl rfl rfl rfl rfl rfl rfl rfl rfl rfl rfl) rfl (fun _=>K) NamesOK.upd ?_
 intro W0 w0 ρ0 hE
 conv=>whnf
 skip
 refine SW_loopN hE (fun k=>k) [0,4,5] [0] (fun m fr hp=>∃(i:Nat) (o:List Int),m=us.length - i∧i≤us.length∧o.length=us.length∧W32 o∧(∀j,i≤j→o.getD j 0=us.getD j 0)∧2*valI o i+us.getD 0 0 % 2=valI us i+us.getD i 0 % 2*4294967296^i∧
  fr=[(0,.slc 0 1 0 us.length),(4,.val (.int .i64 us.length)),(5,.val (.int .i64 i))]∧hp=[(0,⟨104,true,.ints .u32 o⟩)]) us.length ?_ ?_ ?_
 ·kernel_rfl
 ·exact⟨0,us,by omega,by omega,rfl,hu,(fun _ _=>rfl),by simp[valI],rfl,rfl⟩
 rintro m _ _ ⟨i,o,rfl,hi,hlen,hw,hrest,hval,rfl,rfl⟩
 by_cases hlt:i<us.length
 ·have t1:decide ((i:Int)<(us.length:Int))=true:=decide_eq_true (by omega)
  have e1:0+(i:Int).toNat=i:=by omega
  have e2:IntKind.i64.wrap ((i:Int)+1)=((i+1:Nat):Int):=by rw[wrap_i64 (by omega) (by omega)];omega
  obtain⟨w,hww⟩:=Int.eq_ofNat_of_zero_le (hu i).1
  have hw2:=(hu i).2
  have how:o.getD i 0=(w:Int):=by rw[hrest i (Nat.le_refl _)];exact hww
  have f1:ishr .u32 (w:Int) 1=((w/2:Nat):Int):=ishr_nat .u32 (s:=1) (by decide)
  obtain⟨z,hz⟩:=Int.eq_ofNat_of_zero_le (hu (i+1)).1
  have hz2:=(hu (i+1)).2
  have f2:∀q:Nat,q<2147483648→ior .u32 (q:Int) (ishl .u32 (z:Int) 31)=((q+z % 2*2147483648:Nat):Int):=fun q hq=>by
   have e:ishl .u32 (z:Int) 31=((2147483648*(z % 2):Nat):Int):=by
    show IntKind.u32.wrap ((z:Int)*2147483648)=_
    rw[show(z:Int)*2147483648=((z*2147483648:Nat):Int)from by omega,wu32m]
    congr 1;omega
   rw[e,ior_u32 (by omega) (by omega),Nat.or_comm,show 2147483648*(z % 2)=2^31*(z % 2)from rfl,←Nat.two_pow_add_eq_or_of_lt (i:=31) hq]
   congr 1;omega
  have hstep:∀t:Int,t=us.getD (i+1) 0 % 2→2*valI (o.set i (((w/2:Nat):Int)+t*2147483648)) (i+1)+us.getD 0 0 % 2=valI us (i+1)+us.getD (i+1) 0 % 2*4294967296^(i+1):=fun t ht=>by
   rw[←ht,valI,valI,valI_set_ge (Nat.le_refl _),getD_set,if_pos ⟨rfl,by omega⟩,hww,Int.pow_succ]
   rw[hww]at hval
   have hd:2*((w/2:Nat):Int)=(w:Int) - (w:Int) % 2:=by omega
   generalize ((w/2:Nat):Int)=q at*
   generalize (w:Int) % 2=p at*
   generalize (4294967296:Int)^i=P at*
   generalize us.getD 0 0 % 2=b at*
   grind
  have hrest':∀(v:Int) j,i+1≤j→(o.set i v).getD j 0=us.getD j 0:=fun v j hj=>by
   rw[getD_set,if_neg (by omega)];exact hrest j (by omega)
  by_cases hn:i+1<us.length
  ·have t2:decide (((i+1:Nat):Int)<(us.length:Int))=true:=decide_eq_true (by omega)
   have e3:0+((i+1:Nat):Int).toNat=i+1:=by omega
   have g1:∀v:Int,(o.set i v).getD i 0=v:=fun v=>by rw[getD_set,if_pos ⟨rfl,by omega⟩]
   have g2:∀v:Int,(o.set i v).getD (i+1) 0=(z:Int):=fun v=>by rw[hrest' v _ (Nat.le_refl _)];exact hz
   have g3:∀u v:Int,(o.set i u).set i v=o.set i v:=fun u v=>by rw[List.set_set]
   have g4:((w/2+z % 2*2147483648:Nat):Int)=((w/2:Nat):Int)+us.getD (i+1) 0 % 2*2147483648:=by rw[hz];omega
   conv=>whnf
   have g5:∀v:Int,(o.set i v).length=us.length:=fun v=>by simpa using hlen
   (repeat((first|refine step_w1 rfl rfl ?_|refine step_i (by kernel_rfl) ?_|refine And.intro (by first|decide|omega|(simp only[tl0,dlen,List.length_replicate,List.length_set,List.length_map,List.length_zipWith,List.length_take,List.length_append,List.length_cons,List.length_nil];omega)) ?_|rw[t1]|rw[e1]|rw[how]|rw[f1]|rw[e2]|rw[t2]|rw[e3]|rw[g1]|rw[g2]|rw[f2 (w/2) (by omega)]|rw[g3]|rw[g4]);conv=>whnf))
   exact⟨us.length - (i+1),fun k=>k,[0,4,5],[0],by omega,by kernel_rfl,i+1,_,rfl,by omega,by simpa using hlen,hw.set (by omega) (by omega),hrest' _,hstep _ rfl,rfl,rfl⟩
  ·have t2:decide (((i+1:Nat):Int)<(us.length:Int))=false:=decide_eq_false (by omega)
   have hz0:us.getD (i+1) 0=0:=getD_ge (by omega)
   have:=hstep 0 (by rw[hz0];rfl)
   rw[Int.zero_mul,Int.add_zero]at this
   conv=>whnf
   (repeat((first|refine step_w1 rfl rfl ?_|refine step_w2 rfl rfl ?_|refine And.intro (by first|decide|omega|(simp only[tl0,dlen,List.length_replicate,List.length_set,List.length_map,List.length_zipWith,List.length_take,List.length_append,List.length_cons,List.length_nil];omega)) ?_|rw[t1]|rw[e1]|rw[how]|rw[f1]|rw[e2]|rw[t2]);conv=>whnf))
   exact⟨us.length - (i+1),fun k=>k,[0,4,5],[0],by omega,by kernel_rfl,i+1,_,rfl,by omega,by simpa using hlen,hw.set (by omega) (by omega),hrest' _,this,rfl,rfl⟩
 ·have hi':i=us.length:=by omega
  subst hi'
  have t1:decide ((us.length:Int)<(us.length:Int))=false:=decide_eq_false (by omega)
  rw[getD_ge (xs:=us) (i:=us.length) (Nat.le_refl _),hU]at hval
  have hfin:valI o us.length=((U/2:Nat):Int):=by
   rw[show(0:Int) % 2=0 from rfl,Int.zero_mul,Int.add_zero]at hval
   omega
  rw[←digs_of' hlen hw hfin]
  conv=>whnf
  (repeat(first|(refine step_w2 rfl rfl ?_;conv=>whnf)|(rw[t1];conv=>whnf)))
  exact⟨Recast.refl _,(fun _ _ h=>by cases h),one_get rfl⟩
end Go.Proofs.YthaeohlijigplaaGreat
namespace Go.Proofs.YthaeohlijigplaaGreat
open Go.Sx
set_option linter.unusedSimpArgs false
set_option linter.unusedVariables false
set_option maxRecDepth 100000
set_option maxHeartbeats 4000000
theorem digs_hi {v m L i:Nat} (hv:v<4294967296^m) (hi:m≤i):(digs v L).getD i 0=0:=by
 by_cases h2:i<L
 ·rw[digs_get h2,Nat.div_eq_of_lt (Nat.lt_of_lt_of_le hv (Nat.pow_le_pow_right (by decide) hi))];rfl
 ·exact getD_ge (by rw[digs_len];omega)
theorem digs_low {o:List Int} {L m v:Nat} (hl:o.length=L) (hw:W32 o) (hz:∀j,m≤j→o.getD j 0=0) (hm:m≤L) (hv:valI o m=v):o=digs v L:=
 digs_of' hl hw (by rw[valI_zeros (k:=m) (fun i h1 _=>hz i h1) hm,hv])
theorem less_step {o us vs:List Int} {s i d w c l x:Nat} (hi:s+i<o.length) (hx:us.getD (s+i) 0=x) (hv:vs.getD i 0=w) (hl:l≤1) (hxl:x<4294967296)
  (hval:valI o (s+i)=valI us (s+i) - d*valI vs i*4294967296^s+((c:Int)+l)*4294967296^(s+i)):
  valI (o.set (s+i) (((x+4294967296 - (c+d*w) % 4294967296 - l) % 4294967296:Nat):Int)) (s+(i+1))=valI us (s+(i+1)) - d*valI vs (i+1)*4294967296^s+((((c+d*w)/4294967296:Nat):Int)+((if x<(c+d*w) % 4294967296+l then 1 else 0:Nat):Int))*4294967296^(s+(i+1)):=by
 rw[show s+(i+1)=(s+i)+1 from by omega,valI,valI,valI,valI_set_ge (Nat.le_refl _),getD_set,if_pos ⟨rfl,hi⟩,hx,hv,Int.pow_succ]
 have hlo:(c+d*w) % 4294967296<4294967296:=Nat.mod_lt _ (by decide)
 have hd:(((x+4294967296 - (c+d*w) % 4294967296 - l) % 4294967296:Nat):Int)=(x:Int) - (((c+d*w) % 4294967296:Nat):Int) - l+((if x<(c+d*w) % 4294967296+l then 1 else 0:Nat):Int)*4294967296:=by
  split<;>omega
 have hc:(((c+d*w) % 4294967296:Nat):Int)=(c:Int)+d*w - (((c+d*w)/4294967296:Nat):Int)*4294967296:=by
  have:=Nat.div_add_mod (c+d*w) 4294967296
  have h2:((d*w:Nat):Int)=(d:Int)*w:=Int.natCast_mul _ _
  omega
 rw[hd,hc,hval,Int.pow_add]
 generalize ((if x<(c+d*w) % 4294967296+l then 1 else 0:Nat):Int)=l'
 generalize (((c+d*w)/4294967296:Nat):Int)=q
 generalize (4294967296:Int)^s=S
 generalize (4294967296:Int)^i=P
 grind
theorem less_fin {o us vs:List Int} {s n d c l x:Nat} (hi:s+n<o.length) (hx:us.getD (s+n) 0=x) (hl:l≤1) (hc:c<4294967296) (hxl:x<4294967296)
  (hval:valI o (s+n)=valI us (s+n) - d*valI vs n*4294967296^s+((c:Int)+l)*4294967296^(s+n)):
  valI (o.set (s+n) (((x+4294967296 - c - l) % 4294967296:Nat):Int)) (s+n+1)=valI us (s+n+1) - d*valI vs n*4294967296^s+((if x<c+l then 1 else 0:Nat):Int)*4294967296^(s+n+1):=by
 rw[valI,valI,valI_set_ge (Nat.le_refl _),getD_set,if_pos ⟨rfl,hi⟩,hx,Int.pow_succ]
 have hd:(((x+4294967296 - c - l) % 4294967296:Nat):Int)=(x:Int) - c - l+((if x<c+l then 1 else 0:Nat):Int)*4294967296:=by
  split<;>omega
 rw[hd,hval]
 generalize ((if x<c+l then 1 else 0:Nat):Int)=l'
 generalize (4294967296:Int)^(s+n)=S
 generalize (4294967296:Int)^s=P
 grind
theorem less_end {R D B l:Nat} {v:Int} (hl:l≤1) (h0:0≤v) (h1:v<B) (hR:R<B) (hv:v=(R:Int) - D+l*B):
  decide ((l:Int)>0)=decide (R<D)∧v=(((R+B - D) % B:Nat):Int):=by
 have hcc:l=0∨l=1:=by omega
 rcases hcc with rfl|rfl
 ·have h2:D≤R:=by omega
  refine⟨by rw[decide_eq_false (show ¬R<D by omega)];rfl, ?_⟩
  rw[show R+B - D=(R - D)+B from by omega,Nat.add_mod_right,Nat.mod_eq_of_lt (by omega)]
  omega
 ·have h2:R<D:=by omega
  refine⟨by rw[decide_eq_true h2];rfl, ?_⟩
  rw[Nat.mod_eq_of_lt (by omega)]
  omega
theorem c_less (L s n R d V:Nat) (vs:List Int) (hL:L<1099511627776) (hsn:s+n+1≤L) (hR:R<4294967296^(s+n+1)) (hvl:vs.length<1099511627776) (hn:n≤vs.length) (hvw:W32 vs) (hV:valI vs n=V) (hd:d<4294967296)
  (K Q:Nat) (hKQ:K≠Q):
  CallOK Tryz.prog 121 [.slc K 1 s (n+1),.slc Q 1 0 n,.val (.int .u64 d)] [(K,⟨104,true,.ints .u32 (digs R L)⟩),(Q,⟨104,true,.ints .u32 vs⟩)]
   (.val (.bool (decide (R<d*V*4294967296^s)))) [] [(K,⟨104,true,.ints .u32 (digs ((R+4294967296^(s+n+1) - d*V*4294967296^s) % 4294967296^(s+n+1)) L)⟩),(Q,⟨104,true,.ints .u32 vs⟩)]:=by
 refine callK (Z:=[]) tabOK mixedOK Tryz.func121 rfl (by kernel_rfl) (args:=[.slc 0 1 s (n+1),.slc 1 1 0 n,.val (.int .u64 d)]) (fk:=[(0,⟨104,true,.ints .u32 (digs R L)⟩),(1,⟨104,true,.ints .u32 vs⟩)])
  (c:=.val (.bool (decide (R<d*V*4294967296^s)))) (new:=[]) (upd:=[(0,⟨104,true,.ints .u32 (digs ((R+4294967296^(s+n+1) - d*V*4294967296^s) % 4294967296^(s+n+1)) L)⟩),(1,⟨104,true,.ints .u32 vs⟩)]) (ShapeOK.of rfl rfl rfl rfl rfl rfl rfl rfl rfl rfl rfl) rfl (renBy [(0,K),(1,Q)]) (NamesOK.two hKQ) ?_
 intro W0 w0 ρ0 hE
 conv=>whnf
 skip
 have husl:(digs R L).length=L:=digs_len R L
 have husw:W32 (digs R L):=digs_w32 R L
 have husv:valI (digs R L) (s+n+1)=R:=by
  have h1:=valI_zeros (xs:=digs R L) (k:=s+n+1) (n:=L) (fun i h1 _=>digs_hi hR h1) hsn
  rw[←h1,valI_digs,Nat.mod_eq_of_lt (Nat.lt_of_lt_of_le hR (Nat.pow_le_pow_right (by decide) hsn))]
 have hlow:∀(o:List Int) (v:Nat),o.length=L→W32 o→(∀j,s+n+1≤j→o.getD j 0=0)→valI o (s+n+1)=v→o=digs v L:=fun o v h1 h2 h3 h4=>digs_low h1 h2 h3 hsn h4
 have hz:∀j,s+n+1≤j→(digs R L).getD j 0=0:=fun j hj=>digs_hi hR hj
 generalize digs R L=us at*
 refine SW_loopN hE (fun k=>k) [0,1,2,7,8,12,13,14] [0,1] (fun m fr hp=>∃(i:Nat) (o:List Int) (c l:Nat),m=n - i∧i≤n∧o.length=L∧W32 o∧c<4294967296∧l≤1∧(∀j,s+i≤j→o.getD j 0=us.getD j 0)∧valI o (s+i)=valI us (s+i) - d*valI vs i*4294967296^s+((c:Int)+l)*4294967296^(s+i)∧
  fr=[(0,.slc 0 1 s (n+1)),(1,.slc 1 1 0 n),(2,.val (.int .u64 d)),(7,.val (.int .u64 c)),(8,.val (.int .u32 l)),(12,.slc 1 1 0 n),(13,.val (.int .i64 n)),(14,.val (.int .i64 i))]∧hp=[(0,⟨104,true,.ints .u32 o⟩),(1,⟨104,true,.ints .u32 vs⟩)]) n ?_ ?_ ?_
 ·kernel_rfl
 ·exact⟨0,us,0,0,by omega,by omega,husl,husw,by omega,by omega,(fun _ _=>rfl),by simp[valI],rfl,rfl⟩
 rintro m _ _ ⟨i,o,c,l,rfl,hi,hlen,hw,hc,hl,hrest,hval,rfl,rfl⟩
 obtain⟨x,hx⟩:=Int.eq_ofNat_of_zero_le (husw (s+i)).1
 have hx2:=(husw (s+i)).2
 have hox:o.getD (s+i) 0=(x:Int):=by rw[hrest _ (Nat.le_refl _)];exact hx
 by_cases hlt:i<n
 ·have t1:decide ((i:Int)<(n:Int))=true:=decide_eq_true (by omega)
  have e1:0+(i:Int).toNat=i:=by omega
  have e1s:s+(i:Int).toNat=s+i:=by omega
  have e2:IntKind.i64.wrap ((i:Int)+1)=((i+1:Nat):Int):=by rw[wrap_i64 (by omega) (by omega)];omega
  obtain⟨w,hww⟩:=Int.eq_ofNat_of_zero_le (hvw i).1
  have hw2:=(hvw i).2
  have hp:d*w≤4294967295*4294967295:=Nat.mul_le_mul (by omega) (by omega)
  have e9:IntKind.u64.wrap ((c:Int)+IntKind.u64.wrap ((d:Int)*IntKind.u64.wrap (w:Int)))=((c+d*w:Nat):Int):=by
   rw[wu64 (n:=w) (by omega),←Int.natCast_mul,wu64 (n:=d*w) (by omega),←Int.natCast_add,wu64 (by omega)]
  have e10:IntKind.u32.wrap ((c+d*w:Nat):Int)=(((c+d*w) % 4294967296:Nat):Int):=wu32m _
  have e11:ishr .u64 ((c+d*w:Nat):Int) 32=(((c+d*w)/4294967296:Nat):Int):=ishr_hi _
  have k32:=c_Sub32 x ((c+d*w) % 4294967296) l (by omega) (by omega) hl
  have hstep:=less_step (o:=o) (us:=us) (vs:=vs) (by omega) hx hww hl (by omega) hval
  have hc':(c+d*w)/4294967296<4294967296:=by omega
  have hl':(if x<(c+d*w) % 4294967296+l then 1 else 0:Nat)≤1:=by split<;>omega
  conv=>whnf
  (repeat((first|refine step_w1 rfl rfl ?_|refine And.intro (by first|decide|omega|(simp only[tl0,dlen,List.length_replicate,List.length_set,List.length_map,List.length_zipWith,List.length_take,List.length_append,List.length_cons,List.length_nil];omega)) ?_|refine g_c (by assumption) ?_|rw[t1]|rw[e1]|rw[e1s]|rw[hww]|rw[hox]|rw[e9]|rw[e10]|rw[e11]|rw[e2]);conv=>whnf))
  exact⟨n - (i+1),fun k=>k,[0,1,2,7,8,12,13,14],[0,1],by omega,by kernel_rfl,i+1,_,_,_,rfl,by omega,by simpa using hlen,hw.set (by omega) (by omega),hc',hl',(fun j hj=>by rw[getD_set,if_neg (by omega)];exact hrest j (by omega)),hstep,rfl,rfl⟩
 ·have hi':i=n:=by omega
  subst hi'
  have t1:decide ((i:Int)<(i:Int))=false:=decide_eq_false (by omega)
  have e1s:s+(i:Int).toNat=s+i:=by omega
  have e8:IntKind.u32.wrap (c:Int)=(c:Int):=wu32 hc
  have k32:=c_Sub32 x c l (by omega) hc hl
  have hfin:=less_fin (by omega) hx hl hc (by omega) hval
  have hl':(if x<c+l then 1 else 0:Nat)≤1:=by split<;>omega
  have hw':W32 (o.set (s+i) (((x+4294967296 - c - l) % 4294967296:Nat):Int)):=hw.set (by omega) (by omega)
  have hol:(o.set (s+i) (((x+4294967296 - c - l) % 4294967296:Nat):Int)).length=L:=by simpa using hlen
  obtain⟨hd1,hd2⟩:=less_end (R:=R) (D:=d*V*4294967296^s) (B:=4294967296^(s+i+1)) hl' (valI_nonneg hw' _) (by rw[natPowW];exact valI_lt hw' _) hR (by rw[hfin,husv,hV,Int.natCast_mul,Int.natCast_mul,natPowW,natPowW])
  have ho':=hlow _ _ hol hw' (fun j hj=>by rw[getD_set,if_neg (by omega),hrest j (by omega)];exact hz j hj) hd2
  conv=>whnf
  (repeat((first|refine step_w2 rfl rfl ?_|refine And.intro (by first|decide|omega|(simp only[tl0,dlen,List.length_replicate,List.length_set,List.length_map,List.length_zipWith,List.length_take,List.length_append,List.length_cons,List.length_nil];omega)) ?_|refine g_c (by assumption) ?_|rw[t1]|rw[e1s]|rw[e8]|rw[hox]);conv=>whnf))
  rw[←ho',←hd1]
  exact⟨Recast.refl _,(fun _ _ h=>by cases h),two_fk rfl rfl⟩
end Go.Proofs.YthaeohlijigplaaGreat
namespace Go.Proofs.YthaeohlijigplaaGreat
open Go.Sx
set_option linter.unusedSimpArgs false
set_option linter.unusedVariables false
set_option maxRecDepth 100000
set_option maxHeartbeats 1000000
def Hid (p:Prop):Prop:=p
theorem Hid.out {p:Prop} (h:Hid p):p:=h
theorem step_oL {α:Type} [LT α] {a b:α} {q:Prop} (h:a<b) (hq:q):a<b∧q:=⟨h,hq⟩
theorem step_oM {α:Type} [LE α] {a b:α} {q:Prop} (h:a≤b) (hq:q):a≤b∧q:=⟨h,hq⟩
theorem step_oA {a b q:Prop} (h:a∧b) (hq:q):(a∧b)∧q:=⟨h,hq⟩
theorem step_oE {α:Type} {a b:α} {q:Prop} (h:a=b) (hq:q):a=b∧q:=⟨h,hq⟩
theorem step_oN {α:Type} {a b:α} {q:Prop} (h:a≠b) (hq:q):a≠b∧q:=⟨h,hq⟩
theorem long_low {V R P S W d r:Nat} (hP:0<P) (hS:0<S) (hW:0<W) (h1:d*(V/P/W)+r=R/(P*S)/W) (h2:r*W+R/(P*S) % W<d*(V/P % W)):R<d*V*S:=by
 have e1:=Nat.div_add_mod (V/P) W
 have e2:=Nat.div_add_mod (R/(P*S)) W
 have hV:=Nat.div_mul_le_self V P
 have hPS:0<P*S:=Nat.mul_pos hP hS
 have hR:=Nat.lt_div_mul_add (a:=R) hPS
 generalize V/P=V2 at*
 generalize R/(P*S)=R2 at*
 generalize V2/W=v1 at*
 generalize V2 % W=v2 at*
 generalize R2/W=t at*
 generalize R2 % W=u0 at*
 have h3:R2+1≤d*V2:=by
  rw[←e1,←e2,←h1,Nat.mul_add,Nat.mul_add]
  have:d*(W*v1)=W*(d*v1):=by rw[Nat.mul_left_comm]
  have:W*r=r*W:=Nat.mul_comm _ _
  omega
 have h4:(R2+1)*(P*S)≤d*V*S:=by
  refine Nat.le_trans (Nat.mul_le_mul_right _ h3) ?_
  rw[show d*V2*(P*S)=d*(V2*P)*S from by simp only[Nat.mul_assoc]]
  exact Nat.mul_le_mul_right _ (Nat.mul_le_mul_left _ hV)
 rw[Nat.add_mul,Nat.one_mul]at h4
 omega
theorem long_high {V R P S W d r:Nat} (hP:0<P) (hS:0<S) (hW:0<W) (hd:d<W) (h1:d*(V/P/W)+r=R/(P*S)/W) (h2:d*(V/P % W)≤r*W+R/(P*S) % W) (hV:W*P≤V):d*V*S≤R+V*S:=by
 have e1:=Nat.div_add_mod (V/P) W
 have e2:=Nat.div_add_mod (R/(P*S)) W
 have hV2:=Nat.lt_div_mul_add (a:=V) hP
 have hR:=Nat.div_mul_le_self R (P*S)
 generalize V/P=V2 at*
 generalize R/(P*S)=R2 at*
 generalize V2/W=v1 at*
 generalize V2 % W=v2 at*
 generalize R2/W=t at*
 generalize R2 % W=u0 at*
 have h3:d*V2≤R2:=by
  rw[←e1,←e2,←h1,Nat.mul_add,Nat.mul_add]
  have:d*(W*v1)=W*(d*v1):=by rw[Nat.mul_left_comm]
  have:W*r=r*W:=Nat.mul_comm _ _
  omega
 have h4:d*V≤d*V2*P+d*P:=by
  rw[Nat.mul_assoc,←Nat.mul_add];exact Nat.mul_le_mul_left _ (by omega)
 have h5:d*P≤V:=Nat.le_trans (Nat.mul_le_mul_right _ (Nat.le_of_lt hd)) hV
 have h6:d*V*S≤(R2*P+V)*S:=Nat.mul_le_mul_right _ (Nat.le_trans h4 (Nat.add_le_add (Nat.mul_le_mul_right _ h3) h5))
 rw[show(R2*P+V)*S=R2*(P*S)+V*S from by rw[Nat.add_mul,Nat.mul_assoc]]at h6
 omega
theorem long_rest {V R P S W d r:Nat} (hP:0<P) (hS:0<S) (hW:0<W) (hd:d<W) (h1:d*(V/P/W)+r=R/(P*S)/W) (hr:W≤r):d*V*S≤R:=by
 have hPW:0<P*W:=Nat.mul_pos hP hW
 have hV2:=Nat.lt_div_mul_add (a:=V) hPW
 have hR:=Nat.div_mul_le_self R (P*S*W)
 rw[Nat.div_div_eq_div_mul]at h1
 rw[Nat.div_div_eq_div_mul]at h1
 generalize V/(P*W)=v1 at*
 generalize R/(P*S*W)=t at*
 have h3:d*V≤(d*v1+W)*(P*W):=by
  have h4:d*V≤d*(v1*(P*W)+P*W):=Nat.mul_le_mul_left _ (by omega)
  rw[Nat.mul_add,←Nat.mul_assoc]at h4
  rw[Nat.add_mul]
  exact Nat.le_trans h4 (Nat.add_le_add_left (Nat.mul_le_mul_right _ (Nat.le_of_lt hd)) _)
 have h5:d*V*S≤(d*v1+r)*(P*W)*S:=Nat.mul_le_mul_right _ (Nat.le_trans h3 (Nat.mul_le_mul_right _ (by omega)))
 rw[h1,show t*(P*W)*S=t*(P*S*W)from by simp only[Nat.mul_assoc,Nat.mul_comm S W]]at h5
 omega
theorem long_small {V R P S W d r:Nat} (hP:0<P) (hS:0<S) (hW:0<W) (h1:d*(V/P/W)+r=R/(P*S)/W) (hr:W≤r) (hR:R<V*(S*W)):d<W:=by
 have hPW:0<P*W:=Nat.mul_pos hP hW
 have hV2:=Nat.lt_div_mul_add (a:=V) hPW
 have hR2:=Nat.div_mul_le_self R (P*S*W)
 rw[Nat.div_div_eq_div_mul]at h1
 rw[Nat.div_div_eq_div_mul]at h1
 generalize V/(P*W)=v1 at*
 generalize R/(P*S*W)=t at*
 refine Classical.byContradiction fun hc=> ?_
 have h2:W*v1≤d*v1:=Nat.mul_le_mul_right _ (by omega)
 have h3:W*v1+W≤t:=by omega
 have h4:(W*v1+W)*(P*S*W)≤R:=Nat.le_trans (Nat.mul_le_mul_right _ h3) hR2
 have h5:V*(S*W)≤(v1*(P*W)+P*W)*(S*W):=Nat.mul_le_mul_right _ (by omega)
 rw[show(v1*(P*W)+P*W)*(S*W)=(W*v1+W)*(P*S*W)from by grind]at h5
 omega
theorem long_guess {V R P S W d:Nat} (hP:0<P) (hS:0<S) (hW:0<W) (hv:0<V/P/W) (hd:R/(P*S)/W/(V/P/W)=d):R<(d+1)*V*S:=by
 have hPW:0<P*W:=Nat.mul_pos hP hW
 have hPSW:0<P*S*W:=Nat.mul_pos (Nat.mul_pos hP hS) hW
 have hV2:=Nat.div_mul_le_self V (P*W)
 have hR2:=Nat.lt_div_mul_add (a:=R) hPSW
 rw[Nat.div_div_eq_div_mul R,Nat.div_div_eq_div_mul V]at hd
 rw[Nat.div_div_eq_div_mul]at hv
 have hlt:=Nat.lt_div_mul_add (a:=R/(P*S*W)) hv
 rw[hd]at hlt
 generalize V/(P*W)=v1 at*
 generalize R/(P*S*W)=t at*
 have h1:t+1≤(d+1)*v1:=by rw[Nat.add_mul];omega
 have h2:(t+1)*(P*S*W)≤(d+1)*V*S:=by
  refine Nat.le_trans (Nat.mul_le_mul_right _ h1) ?_
  rw[show(d+1)*v1*(P*S*W)=(d+1)*(v1*(P*W))*S from by grind]
  exact Nat.mul_le_mul_right _ (Nat.mul_le_mul_left _ hV2)
 rw[Nat.add_mul,Nat.one_mul]at h2
 omega
theorem back_step {o us vs:List Int} {s i x w c:Nat} (hi:s+i<o.length) (hx:us.getD (s+i) 0=x) (hw:vs.getD i 0=w)
  (hv:valI o (s+i)+c*4294967296^(s+i)=valI us (s+i)+valI vs i*4294967296^s):
  valI (o.set (s+i) (((x+w+c) % 4294967296:Nat):Int)) (s+(i+1))+(((x+w+c)/4294967296:Nat):Int)*4294967296^(s+(i+1))=valI us (s+(i+1))+valI vs (i+1)*4294967296^s:=by
 rw[show s+(i+1)=(s+i)+1 from by omega,valI,valI,valI,valI_set_ge (Nat.le_refl _),getD_set,if_pos ⟨rfl,hi⟩,hx,hw,Int.pow_succ]
 have hd:(((x+w+c) % 4294967296:Nat):Int)=(x:Int)+w+c - (((x+w+c)/4294967296:Nat):Int)*4294967296:=by omega
 rw[hd]
 rw[Int.pow_add]at hv ⊢
 generalize (((x+w+c)/4294967296:Nat):Int)=q
 generalize (4294967296:Int)^i=P at*
 generalize (4294967296:Int)^s=Q at*
 grind
theorem back_fin {o us vs:List Int} {s n x c R' V:Nat} (hi:s+n<o.length) (hx:us.getD (s+n) 0=x) (hc:c≤1) (hxl:x<4294967296) (hu:valI us (s+n+1)=R') (hV:valI vs n=V)
  (hv:valI o (s+n)+c*4294967296^(s+n)=valI us (s+n)+valI vs n*4294967296^s) (h0:W32 (o.set (s+n) (((x+c) % 4294967296:Nat):Int))):
  valI (o.set (s+n) (((x+c) % 4294967296:Nat):Int)) (s+n+1)=(((R'+V*4294967296^s) % 4294967296^(s+n+1):Nat):Int):=by
 have h1:=valI_nonneg h0 (s+n+1)
 have h2:=valI_lt h0 (s+n+1)
 rw[valI]at hu
 have h3:valI (o.set (s+n) (((x+c) % 4294967296:Nat):Int)) (s+n+1)=((R'+V*4294967296^s:Nat):Int) - (((x+c)/4294967296:Nat):Int)*4294967296^(s+n+1):=by
  rw[valI,valI_set_ge (Nat.le_refl _),getD_set,if_pos ⟨rfl,hi⟩,Int.natCast_add,←hu,hx,Int.natCast_mul,←hV,natPowW,Int.pow_succ]
  have hd:(((x+c) % 4294967296:Nat):Int)=(x:Int)+c - (((x+c)/4294967296:Nat):Int)*4294967296:=by omega
  rw[hd]
  generalize (((x+c)/4294967296:Nat):Int)=q
  generalize (4294967296:Int)^(s+n)=P at*
  generalize (4294967296:Int)^s=Q at*
  grind
 rw[←natPowW]at h2
 rw[h3]at h1 h2 ⊢
 rw[←natPowW]at*
 have e1:(((x+c)/4294967296:Nat):Int)*((4294967296^(s+n+1):Nat):Int)=((((x+c)/4294967296)*4294967296^(s+n+1):Nat):Int):=(Int.natCast_mul _ _).symm
 rw[e1]at h1 h2 ⊢
 generalize (x+c)/4294967296=t at*
 generalize 4294967296^(s+n+1)=B at*
 generalize V*4294967296^s=D at*
 have h5:R'+D=(R'+D - t*B)+t*B:=by omega
 rw[h5,Nat.add_mul_mod_self_right,Nat.mod_eq_of_lt (by omega)]
 omega
theorem long_pos {R d D B:Nat} (h:d*D≤R) (hB:R<B):(R+B - d*D) % B=R - d*D:=by
 rw[show R+B - d*D=(R - d*D)+B from by omega,Nat.add_mod_right,Nat.mod_eq_of_lt (by omega)]
theorem long_neg {R d D B:Nat} (h:R<d*D) (h2:d*D≤R+D) (hB:R<B) (hD:D≤B):((R+B - d*D) % B+D) % B=R - (d - 1)*D∧(d - 1)*D≤R∧R<(d - 1+1)*D∧0<d:=by
 have hd:0<d:=by
  rcases Nat.eq_zero_or_pos d with rfl|h'
  ·simp at h
  ·exact h'
 have e:d*D=(d - 1)*D+D:=by rw[←Nat.succ_mul];congr 1;omega
 have e2:(d - 1+1)*D=d*D:=by congr 1;omega
 rw[e2]
 refine⟨?_,by omega,h,hd⟩
 rw[Nat.mod_eq_of_lt (show R+B - d*D<B by omega)]
 rw[show R+B - d*D+D=(R - (d - 1)*D)+B from by omega,Nat.add_mod_right,Nat.mod_eq_of_lt (by omega)]
theorem long_norm {ys:List Int} (hy:W32 ys) {n y Y s V:Nat} (h2:2≤n) (hyt:ys.getD (n - 1) 0=y) (hY:valI ys n=Y) (hs:32 - sz y=s) (hV:Y*2^s=V) (h1:1≤sz y) (h32:sz y≤32):
  V<4294967296^n∧2147483648*4294967296^(n - 1)≤V:=by
 have hn:n=(n - 1)+1:=by omega
 have ha:=valI_nonneg hy (n - 1)
 have hb:=valI_lt hy (n - 1)
 rw[hn,valI,hyt]at hY
 rw[←natPowW]at hb hY
 have e1:(y:Int)*((4294967296^(n - 1):Nat):Int)=((y*4294967296^(n - 1):Nat):Int):=(Int.natCast_mul _ _).symm
 rw[e1]at hY
 have hY1:y*4294967296^(n - 1)≤Y:=by omega
 have hY2:Y<(y+1)*4294967296^(n - 1):=by rw[Nat.add_mul,Nat.one_mul];omega
 have hy1:y<2^sz y:=sz_le.1 (Nat.le_refl _)
 have hy2:2^(sz y - 1)≤y:=by
  refine Classical.byContradiction fun h=> ?_
  have:=sz_le.2 (show y<2^(sz y - 1) by omega)
  omega
 have p1:2^sz y*2^s=4294967296:=by rw[←Nat.pow_add,show sz y+s=32 from by omega]
 have p2:2^(sz y - 1)*2^s=2147483648:=by rw[←Nat.pow_add,show sz y - 1+s=31 from by omega]
 have hs0:0<2^s:=Nat.two_pow_pos s
 have hQ:4294967296^n=4294967296^(n - 1)*4294967296:=by rw[←Nat.pow_succ];congr 1
 rw[hQ,←hV]
 generalize 4294967296^(n - 1)=Q at*
 generalize 2^s=T at*
 constructor
 ·have h3:Y*T<(y+1)*Q*T:=Nat.mul_lt_mul_of_pos_right hY2 hs0
  have h4:(y+1)*Q*T≤2^sz y*Q*T:=Nat.mul_le_mul_right _ (Nat.mul_le_mul_right _ hy1)
  rw[show 2^sz y*Q*T=Q*(2^sz y*T)from by rw[Nat.mul_comm (2^sz y) Q,Nat.mul_assoc],p1]at h4
  omega
 ·have h3:2^(sz y - 1)*Q*T≤Y*T:=Nat.mul_le_mul_right _ (Nat.le_trans (Nat.mul_le_mul_right _ hy2) hY1)
  rw[show 2^(sz y - 1)*Q*T=(2^(sz y - 1)*T)*Q from by rw[Nat.mul_assoc,Nat.mul_comm Q T,Nat.mul_assoc],p2]at h3
  exact h3
theorem powW_split {k n:Nat} (h2:2≤n):4294967296^(k+(n - 2))=4294967296^(n - 2)*4294967296^k∧4294967296^(k+(n - 1))=4294967296^(n - 2)*4294967296^k*4294967296∧4294967296^(k+n)=4294967296^(n - 2)*4294967296^k*4294967296*4294967296∧
  4294967296^(n - 1)=4294967296^(n - 2)*4294967296∧4294967296^n=4294967296^(n - 2)*4294967296*4294967296∧4294967296^(k+n+1)=4294967296^(n - 2)*4294967296^k*4294967296*4294967296*4294967296:=by
 have e0:4294967296^(k+(n - 2))=4294967296^(n - 2)*4294967296^k:=by rw[Nat.pow_add,Nat.mul_comm]
 refine⟨e0, ?_, ?_, ?_, ?_, ?_⟩
 ·rw[←e0,←Nat.pow_succ];congr 1;omega
 ·rw[←e0,←Nat.pow_succ,←Nat.pow_succ];congr 1;omega
 ·rw[←Nat.pow_succ];congr 1;omega
 ·rw[←Nat.pow_succ,←Nat.pow_succ];congr 1;omega
 ·rw[←e0,←Nat.pow_succ,←Nat.pow_succ,←Nat.pow_succ];congr 1;omega
theorem long_first {X V s l n:Nat} (hX:X<4294967296^l) (hs:s<32) (hV:2147483648*4294967296^(n - 1)≤V) (h2:2≤n) (hnl:n≤l):X*2^s<V*4294967296^(l+1 - n):=by
 have h3:2^s≤2147483648:=Nat.le_trans (Nat.pow_le_pow_right (by decide) (show s≤31 by omega)) (by decide)
 have e:4294967296^l=4294967296^(n - 1)*4294967296^(l+1 - n):=by rw[←Nat.pow_add];congr 1;omega
 have h4:2147483648*4294967296^(n - 1)*4294967296^(l+1 - n)≤V*4294967296^(l+1 - n):=Nat.mul_le_mul_right _ hV
 rw[Nat.mul_assoc,←e,Nat.mul_comm]at h4
 have h5:X*2^s<4294967296^l*2147483648:=Nat.lt_of_lt_of_le (Nat.mul_lt_mul_of_pos_right hX (Nat.two_pow_pos s)) (Nat.mul_le_mul_left _ h3)
 omega
theorem long_words {R V P S k n l:Nat} (h2:2≤n) (hk:k+n<l+1) (hP:4294967296^(n - 2)=P) (hS:4294967296^k=S) (hVn:V<4294967296^n) (hVg:2147483648*4294967296^(n - 1)≤V) (hR:R<V*(S*4294967296)):
  R<4294967296^(k+n+1)∧V*4294967296^k≤4294967296^(k+n+1)∧4294967296*P≤V∧(2147483648≤V/P/4294967296∧V/P/4294967296<4294967296)∧R/(P*S)/4294967296<18446744073709551616∧
  (digs R (l+1)).getD (k+n) 0=((R/(P*S)/4294967296/4294967296:Nat):Int)∧(digs R (l+1)).getD (k+(n - 1)) 0=((R/(P*S)/4294967296 % 4294967296:Nat):Int)∧(digs R (l+1)).getD (k+(n - 2)) 0=((R/(P*S) % 4294967296:Nat):Int)∧
  (digs V (n+1)).getD (n - 1) 0=((V/P/4294967296:Nat):Int)∧(digs V (n+1)).getD (n - 2) 0=((V/P % 4294967296:Nat):Int):=by
 obtain⟨q1,q2,q3,q4,q5,q6⟩:=powW_split (k:=k) h2
 rw[hP]at q1 q2 q3 q4 q5 q6
 rw[hS]at q1 q2 q3 q6
 have hP0:0<P:=by rw[←hP];exact Nat.pow_pos (by decide)
 have hS0:0<S:=by rw[←hS];exact Nat.pow_pos (by decide)
 have hPS:0<P*S:=Nat.mul_pos hP0 hS0
 rw[q5]at hVn
 rw[q4]at hVg
 have c1:V*(S*4294967296)≤P*S*4294967296*4294967296*4294967296:=by
  refine Nat.le_trans (Nat.mul_le_mul_right _ (Nat.le_of_lt hVn)) (Nat.le_of_eq ?_)
  grind
 have hRB:R<P*S*4294967296*4294967296*4294967296:=Nat.lt_of_lt_of_le hR c1
 have c2:V*S≤P*S*4294967296*4294967296*4294967296:=Nat.le_trans (Nat.mul_le_mul_left _ (by omega)) c1
 have d1:V/P/4294967296=V/(P*4294967296):=Nat.div_div_eq_div_mul _ _ _
 have v1lt:V/P/4294967296<4294967296:=by
  rw[d1];exact Nat.div_lt_of_lt_mul hVn
 have v1ge:2147483648≤V/P/4294967296:=by
  rw[d1];exact(Nat.le_div_iff_mul_le (by omega)).2 hVg
 have d2:R/(P*S)/4294967296/4294967296=R/(P*S*4294967296*4294967296):=by rw[Nat.div_div_eq_div_mul,Nat.div_div_eq_div_mul,Nat.mul_assoc (P*S)]
 have d3:R/(P*S)/4294967296=R/(P*S*4294967296):=Nat.div_div_eq_div_mul _ _ _
 have tlt:R/(P*S)/4294967296/4294967296<4294967296:=by
  rw[d2];exact Nat.div_lt_of_lt_mul hRB
 refine⟨by rw[q6];exact hRB,by rw[q6,hS];exact c2,by omega,⟨v1ge,v1lt⟩,by omega, ?_, ?_, ?_, ?_, ?_⟩
 ·rw[digs_get (by omega),q3,←d2,Nat.mod_eq_of_lt tlt]
 ·rw[digs_get (by omega),q2,←d3]
 ·rw[digs_get (by omega),q1]
 ·rw[digs_get (by omega),q4,←d1,Nat.mod_eq_of_lt v1lt]
 ·rw[digs_get (by omega),hP]
end Go.Proofs.YthaeohlijigplaaGreat
namespace Go.Proofs.YthaeohlijigplaaGreat
open Go.Sx
set_option linter.unusedSimpArgs false
set_option linter.unusedVariables false
set_option maxRecDepth 100000
set_option maxHeartbeats 4000000
variable {M:Nat}
theorem more_eq (a b:Rat):decide (a.den - 1=b.den - 1)=decide (a.den=b.den):=decide_eq_decide.2 (by have:=a.den_pos;have:=b.den_pos;omega)
theorem sz_iadd {x y:Int} {k M:Nat} (hx:sz x.natAbs≤k) (hy:sz y.natAbs≤k) (h:k+1≤M):sz (x+y).natAbs≤M:=
 Nat.le_trans (Nat.le_trans (sz_mono (Int.natAbs_add_le x y)) (sz_add hx hy)) h
theorem mkRat_same {a b:Rat} (h:a.den=b.den):mkRat (a.num+b.num) a.den=a+b:=by
 rw[Rat.add_def',←h,←Int.add_mul,Rat.mkRat_mul_right a.den_nz]
theorem c_fAdd (ok:NatOK M) (a b:Rat) (h:fsz a+fsz b+1≤M):CallOK Tryz.prog 51 [.frac a,.frac b] [] (.frac (a+b)) [] []:=by
 have ha:=fsz_num a;have ha':=fsz_den a;have hb:=fsz_num b;have hb':=fsz_den b
 have hbp:=sz_one_le b.den b.den_nz
 have hap:=sz_one_le a.den a.den_nz
 have wa:=c_Whole a
 have wb:=c_Whole b
 have k1:=c_iAdd ok a.num b.num (by omega) (by omega)
 have k2:=c_den ok a (by omega)
 have k3:=c_den ok b (by omega)
 refine callV (Z:=[]) tabOK mixedOK Tryz.func51 rfl (by kernel_rfl) rfl rfl (by kernel_rfl) rfl ?_
 intro W0 w0 ρ0 hE
 conv=>whnf
 by_cases hw:a.den=1∧b.den=1
 ·have k5:=c_whole (a.num+b.num)
  have e:((a.num+b.num:Int):Rat)=a+b:=by
   rw[int_of_den hw.1,int_of_den hw.2,Rat.intCast_add];rfl
  rw[e]at k5
  rw[decide_eq_true hw.1]at wa
  rw[decide_eq_true hw.2]at wb
  (repeat(first|(refine step_w1 rfl rfl ?_;conv=>whnf)|(refine g_c (by assumption) ?_;conv=>whnf)|(refine g_o (op_pickT rfl (ev_ok rfl) (ev_ok rfl)) ?_;conv=>whnf)));exact Recast.refl _
 ·by_cases h1:a.den=1
  ·rw[decide_eq_true h1]at wa
   rw[decide_eq_false (show ¬b.den=1 from fun h2=>hw ⟨h1,h2⟩)]at wb
   (repeat((first|refine step_w1 rfl rfl ?_|refine step_w2 rfl rfl ?_|refine g_c (by assumption) ?_|refine g_o (op_pickT rfl (ev_ok rfl) (ev_ok rfl)) ?_);conv=>whnf))
   refine⟨_,op_eqAgg tabOK goodOK rfl (ev_ok rfl) (ev_ok rfl) rfl rfl rfl rfl (eqTy_nat (a.den - 1) (b.den - 1)) guard_nat, ?_⟩
   rw[more_eq]
   by_cases hd:a.den=b.den
   ·rw[decide_eq_true hd]
    have k4:=c_lowest ok (a.num+b.num) a.den (sz_iadd (k:=M - 1) (by omega) (by omega) (by omega)) (by omega) a.den_nz
    rw[mkRat_same hd]at k4
    conv=>whnf
    (repeat(first|(refine step_w1 rfl rfl ?_;conv=>whnf)|(refine step_i (by kernel_rfl) ?_;conv=>whnf)|(refine g_c (by assumption) ?_;conv=>whnf)));exact Recast.refl _
   ·rw[decide_eq_false hd]
    have p1:=sz_mul a.num.natAbs b.den
    have p2:=sz_mul b.num.natAbs a.den
    have p3:=sz_mul a.den b.den
    have q1:sz (a.num*b.den).natAbs≤M - 1:=by rw[Int.natAbs_mul,Int.natAbs_natCast];omega
    have q2:sz (b.num*a.den).natAbs≤M - 1:=by rw[Int.natAbs_mul,Int.natAbs_natCast];omega
    have r1:=c_signed ok a (by omega)
    have r2:=c_signed ok b (by omega)
    have r3:=c_iMul ok a.num b.den (by rw[Int.natAbs_natCast];omega)
    have r4:=c_iMul ok b.num a.den (by rw[Int.natAbs_natCast];omega)
    have r5:=c_iAdd ok (a.num*b.den) (b.num*a.den) (by omega) (by omega)
    have r6:=ok.mul a.den b.den (by omega)
    have r7:=c_lowest ok (a.num*b.den+b.num*a.den) (a.den*b.den) (sz_iadd (k:=M - 1) q1 q2 (by omega)) (by omega) (Nat.mul_ne_zero a.den_nz b.den_nz)
    rw[←Rat.add_def']at r7
    conv=>whnf
    (repeat(first|(refine step_w2 rfl rfl ?_;conv=>whnf)|(refine step_i (by kernel_rfl) ?_;conv=>whnf)|(refine g_c (by assumption) ?_;conv=>whnf)));exact Recast.refl _
  ·rw[decide_eq_false h1]at wa
   (repeat(first|(refine step_w2 rfl rfl ?_;conv=>whnf)|(refine g_c (by assumption) ?_;conv=>whnf)|(refine g_o (op_pickF rfl (ev_ok rfl) (ev_ok rfl)) ?_;conv=>whnf)))
   refine⟨_,op_eqAgg tabOK goodOK rfl (ev_ok rfl) (ev_ok rfl) rfl rfl rfl rfl (eqTy_nat (a.den - 1) (b.den - 1)) guard_nat, ?_⟩
   rw[more_eq]
   by_cases hd:a.den=b.den
   ·rw[decide_eq_true hd]
    have k4:=c_lowest ok (a.num+b.num) a.den (sz_iadd (k:=M - 1) (by omega) (by omega) (by omega)) (by omega) a.den_nz
    rw[mkRat_same hd]at k4
    conv=>whnf
    (repeat(first|(refine step_w1 rfl rfl ?_;conv=>whnf)|(refine step_i (by kernel_rfl) ?_;conv=>whnf)|(refine g_c (by assumption) ?_;conv=>whnf)));exact Recast.refl _
   ·rw[decide_eq_false hd]
    have p1:=sz_mul a.num.natAbs b.den
    have p2:=sz_mul b.num.natAbs a.den
    have p3:=sz_mul a.den b.den
    have q1:sz (a.num*b.den).natAbs≤M - 1:=by rw[Int.natAbs_mul,Int.natAbs_natCast];omega
    have q2:sz (b.num*a.den).natAbs≤M - 1:=by rw[Int.natAbs_mul,Int.natAbs_natCast];omega
    have r1:=c_signed ok a (by omega)
    have r2:=c_signed ok b (by omega)
    have r3:=c_iMul ok a.num b.den (by rw[Int.natAbs_natCast];omega)
    have r4:=c_iMul ok b.num a.den (by rw[Int.natAbs_natCast];omega)
    have r5:=c_iAdd ok (a.num*b.den) (b.num*a.den) (by omega) (by omega)
    have r6:=ok.mul a.den b.den (by omega)
    have r7:=c_lowest ok (a.num*b.den+b.num*a.den) (a.den*b.den) (sz_iadd (k:=M - 1) q1 q2 (by omega)) (by omega) (Nat.mul_ne_zero a.den_nz b.den_nz)
    rw[←Rat.add_def']at r7
    conv=>whnf
    (repeat(first|(refine step_w2 rfl rfl ?_;conv=>whnf)|(refine step_i (by kernel_rfl) ?_;conv=>whnf)|(refine g_c (by assumption) ?_;conv=>whnf)));exact Recast.refl _
end Go.Proofs.YthaeohlijigplaaGreat
