/- The texts Ek, Em, Ga, Gb, Gc, Gd, Ge, Shelf, Ha, Hb, Pa, Hd, Ja, Na, Nb, Nc, Nd, Ne, Ta, Tb, Tc, Ka, Kb, Kc, Kd, Kg, Kf, Kh, Ra, Rb. -/
import Derived.Shelf.Strings.Builder1
import Derived.Shelf.Strings.Builder2
import Derived.Shelf.Strings.OnBuilder
import Derived.Shelf.Small.Bits
import Derived.Shelf.Strings.BuilderF
import Derived.Shelf.Strings.Builder2Cap
import Derived.Shelf.Strconv.Itoa0
import Derived.Shelf.Strconv.Itoa1
import Derived.Shelf.LaysM
import Derived.Shelf.Strconv.Itoa2
import Derived.Shelf.Strconv.Itoa3
import Derived.Shelf.Strings.Prefix
import Derived.Shelf.Bits.Mul64
import Derived.Shelf.Strings.Repeat
import Derived.Ground.Names2Prog
import Derived.Shelf.Slices.ReverseS
import Derived.Shelf.Slices.Cells
import Derived.Test.YtfpagioknjjacaaGreatDoorProg
import Derived.Lib.Walk
import Derived.Lib.ItoaMem
import Derived.Lib.AppendIntMem
import Derived.WalkKit
import Derived.BigCall
import Derived.BigGuard
import Derived.Test.YtfpagioknjjacaaGreatDoorQMBareissKnown4
import Derived.Test.YtfpagioknjjacaaGreatDoorQMBareissKnown3
import Derived.Test.YtfpagioknjjacaaGreatDoorQMBareissKnown2
namespace Go.Proofs.YtfpagioknjjacaaGreatDoor
open Go.Sx
set_option linter.unusedSimpArgs false
set_option linter.unusedVariables false
set_option maxRecDepth 100000
set_option maxHeartbeats 8000000
theorem JG (a b:Nat) (ha:(ae a).length<274877906944) (hb:(ae b).length<274877906944) (h0:b≠0):
  ab Tryz.prog 280 [.nat a,.nat b] [] (.ct [.nat (a/b),.nat (a % b),.val (.bool true)]) [] []:=by
 by_cases hs:a<18446744073709551616∧b<18446744073709551616
 ·exact abV a b hs.1 hs.2 h0
 have kz:=uQ b
 rw[decide_eq_false h0]at kz
 have kc:=Ce a b aa aa
 have kb:=gY b 1002 aa
 have ka:=gY a 1001 aa
 by_cases aA:a<b
 ·have t1:Hid (decide (((a:Int) - b).sign<0)=true):=show decide (((a:Int) - b).sign<0)=true from decide_eq_true (Int.sign_neg_iff.2 aa)
  rw[Nat.div_eq_of_lt aA,Nat.mod_eq_of_lt aA]
  refine bP [] Tryz.func280 ?_
  intro W0 w0 ρ0 hE
  conv=>whnf
  (repeat((first|refine ag rfl rfl ?_|refine af rfl rfl ?_|refine aw aB ?_|refine aS (by assumption) ?_|rw[t1.out]);conv=>whnf));exact aq.refl _
 have t1:Hid (decide (((a:Int) - b).sign<0)=false):=show decide (((a:Int) - b).sign<0)=false from decide_eq_false Q36
 have rV:¬a<18446744073709551616:=aa
 have hlen:(ae b).length≤(ae a).length:=gF (Nat.lt_of_le_of_lt (Nat.le_of_not_lt aA) (cf a))
 have hA:cw a=ae a:=if_neg rV
 rw[hA]at ka
 have wB:=D3 b
 have hb0:(ae b).length≠0:=(lX h0).1
 have b7:=eN a
 have hvb:=wF b
 have Yi:=cD b
 have aeB:(cw b).length<549755813888:=by
  have:=rX b (M:=274877906944) aa aa
  omega
 by_cases vq:(ae b).length=1
 ·rw[vq]at kb hvb wB
  obtain⟨y,hy⟩:=Int.eq_ofNat_of_zero_le (l8 b 0).1
  have ZN:=(l8 b 0).2
  have hyb:y=b:=by
   rw[az,az,Int.pow_zero,hy]at hvb
   omega
  subst hyb
  have ks:=Fs (ae a) (ae a).length (Nat.le_refl _) aa (aZ a) y h0 aa 1001 2001 aF true a b7
  have hq:(az (bL (a/y) (ae a).length) (ae a).length).toNat=a/y:=by
   rw[gG,Nat.mod_eq_of_lt (Nat.lt_of_le_of_lt (Nat.div_le_self _ _) (cf a))];exact Int.toNat_natCast _
  have ko:=rW (bL (a/y) (ae a).length) (ae a).length (by rw[cY];exact Nat.le_refl _) (by rw[cY];omega) (gg _ _) 2001 true
  rw[hq]at ko
  have hr:a % y<y:=Nat.mod_lt _ aa
  have i1:Hid (IntKind.u64.wrap ((a % y:Nat):Int)=((a % y:Nat):Int)):=show IntKind.u64.wrap ((a % y:Nat):Int)=((a % y:Nat):Int)from ep aa
  have i2:Hid ((cw y).getD (0+Int.toNat 0) 0=(y:Int)):=show(cw y).getD (0+Int.toNat 0) 0=(y:Int)from hy
  refine bP [] Tryz.func280 ?_
  intro W0 w0 ρ0 hE
  conv=>whnf
  (repeat(first|(refine af rfl rfl ?_;conv=>whnf)|(refine aS (by assumption) ?_;conv=>whnf)|(rw[t1.out];conv=>whnf)))
  rw[dw,decide_eq_false rV]
  (repeat((first|refine ag rfl rfl ?_|refine af rfl rfl ?_|refine aw aB ?_|refine aX Q3 ?_|refine ay Q3 ?_|refine mK (by assumption) rfl ?_|refine kU (by assumption) rfl ?_|refine E9 (by assumption) rfl rfl ?_|rw[i2.out]|rw[i1.out]);conv=>whnf))
  refine ub (fun _ _ h=>h) rfl (qS ?_ rfl aa) rfl (fun _ _ h=>h) rfl
  rfl
 ·have NB:2≤(ae b).length:=aa
  have QK:(cw b).getD ((ae b).length - 1) 0≠0:=wB.resolve_left hb0
  have hbg:4294967296^((ae b).length - 1)≤b:=by
   have:=qK (l8 b) QK
   rw[show(ae b).length - 1+1=(ae b).length from aa,hvb,←cS]at this
   omega
  have RI:a/b<4294967296^((ae a).length+1 - (ae b).length):=by
   refine Nat.div_lt_of_lt_mul (Nat.lt_of_lt_of_le (cf a) ?_)
   have e:4294967296^(ae a).length=4294967296^((ae b).length - 1)*4294967296^((ae a).length+1 - (ae b).length):=by rw[←Nat.pow_add];congr 1;omega
   rw[e]
   exact Nat.mul_le_mul_right _ hbg
  have hrb:a % b<4294967296^((ae a).length+1):=Nat.lt_of_le_of_lt (Nat.mod_le _ _) (Nat.lt_of_lt_of_le (cf a) (Nat.pow_le_pow_right aF aa))
  have kl:=ab.px (Yp (ae a) (cw b) (ae a).length (ae b).length a b (Nat.le_refl _) Yi aa aeB (aZ a) (l8 b) b7 hvb NB QK hlen 1001 1002 2001 2002 aF aF aF) (fk:=[(1001,⟨23,true,.ints .u32 (ae a)⟩),(1002,⟨23,true,.ints .u32 (cw b)⟩)])
  have ko1:=rW (bL (a/b) ((ae a).length+1 - (ae b).length)) ((ae a).length+1 - (ae b).length) (by rw[cY];exact Nat.le_refl _) (by rw[cY];omega) (gg _ _) 2001 true
  have ko2:=rW (bL (a % b) ((ae a).length+1)) ((ae a).length+1) (by rw[cY];exact Nat.le_refl _) (by rw[cY];omega) (gg _ _) 2002 true
  rw[gG,Nat.mod_eq_of_lt RI,Int.toNat_natCast]at ko1
  rw[gG,Nat.mod_eq_of_lt hrb,Int.toNat_natCast]at ko2
  have t2:Hid ((((ae b).length:Int)==1)=false):=show(((ae b).length:Int)==1)=false from by simp;omega
  have t3:Hid (decide (((ae b).length:Int)=1)=false):=show decide (((ae b).length:Int)=1)=false from by simp;omega
  refine bP [] Tryz.func280 ?_
  intro W0 w0 ρ0 hE
  conv=>whnf
  (repeat(first|(refine af rfl rfl ?_;conv=>whnf)|(refine aS (by assumption) ?_;conv=>whnf)|(rw[t1.out];conv=>whnf)))
  rw[dw,decide_eq_false rV]
  (repeat((first|refine af rfl rfl ?_|refine mK (by assumption) rfl ?_|refine kU (by assumption) rfl ?_|refine⟨[_,_],_,[_,_],[],(by assumption),fW rfl rfl,NA rfl rfl,an, ?_⟩|rw[t2.out]);conv=>whnf))
  exact aq.refl _
theorem QL (a b:Nat) (ha:(ae a).length<274877906944) (hb:(ae b).length<274877906944):
  ab Tryz.prog 178 [.nat a,.nat b] [] (.nat (Nat.gcd a b)) [] []:=by
 refine bP [] Tryz.func178 ?_
 intro W0 w0 ρ0 hE
 conv=>whnf
 refine ai hE (fun k=>k) [2,3,4] [2,3,4] (fun m fr hp=>∃x,(ae x).length<274877906944∧(ae m).length<274877906944∧Nat.gcd x m=Nat.gcd a b∧fr=[(2,.ptr 2 0 0 0),(3,.ptr 3 0 0 0),(4,.ptr 4 0 0 0)]∧hp=[(2,⟨46,true,.one [.nat x]⟩),(3,⟨46,true,.one [.nat m]⟩),(4,⟨46,true,.one [.nat 0]⟩)]) b ?_ ?_ ?_
 ·kernel_rfl
 ·exact⟨a,ha,hb,rfl,rfl,rfl⟩
 rintro m _ _ ⟨x,hx,hm,hg,rfl,rfl⟩
 have kz:=uQ m
 by_cases h0:m=0
 ·rw[decide_eq_true h0]at kz
  subst h0
  rw[←hg,Nat.gcd_zero_right]
  conv=>whnf
  (repeat(first|(refine af rfl rfl ?_;conv=>whnf)|(refine aS (by assumption) ?_;conv=>whnf)));exact aq.refl _
 ·rw[decide_eq_false h0]at kz
  have kd:=JG x m hx hm h0
  have aA:=Nat.mod_lt x (Nat.pos_of_ne_zero h0)
  conv=>whnf
  (repeat(first|(refine ag rfl rfl ?_;conv=>whnf)|(refine aw aB ?_;conv=>whnf)|(refine aS (by assumption) ?_;conv=>whnf)))
  refine⟨x % m,fun k=>k,[2,3,4],[2,3,4],aA,aB,m,hm, ?_, ?_,rfl,rfl⟩
  ·exact Nat.lt_of_le_of_lt (gF (Nat.lt_trans aA (cf m))) hm
  ·rw[←hg,Nat.gcd_comm m,←Nat.gcd_rec,Nat.gcd_comm]
theorem iG {n:Nat} (h:sz n≤1073741824):(ae n).length<274877906944:=by
 have:=Fp (n:=n) (M:=33554432) aa
 omega
theorem er:il 1073741824 where
 nu:=aF
 cmp a b ha hb:=Ce a b (by have:=iG ha;omega) (by have:=iG hb;omega)
 add a b h:=QC a b (by have:=iG (n:=a) (Nat.le_trans (dQ aa) h);omega) (by have:=iG (n:=b) (Nat.le_trans (dQ aa) h);omega)
 sub a b ha h:=QE a b (by have:=iG ha;omega) h
 X9 a b hb h:=Jv a b (by have:=iG hb;have:=gF (Nat.lt_trans h (cf b));omega) (by have:=iG hb;omega) h
 mul a b h:=QG a b (iG aa) (iG aa)
 div a b ha hb h0:=JG a b (iG ha) (iG hb) h0
 Ya a:=Jp a
 gcd a b ha hb:=QL a b (iG ha) (iG hb)
def fs (q:Rat):Nat:=qg q+1
theorem JH (a b:Rat):fs (a+b)≤fs a+fs b:=by have:=@Fi a b;unfold fs;omega
theorem Yx (a b:Rat):fs (a - b)≤fs a+fs b:=by have:=@Nr a b;unfold fs;omega
theorem lK (a b:Rat):fs (a*b)≤fs a+fs b:=by have:=@Nq a b;unfold fs;omega
theorem wK (a:Rat):fs (-a)=fs a:=by unfold fs;rw[Fj]
theorem Yy (a:Rat):fs a⁻¹≤fs a:=by have:=Fk a;unfold fs;omega
theorem Eb (a b:Rat):fs (a/b)≤fs a+fs b:=by rw[Rat.div_def];have h1:=lK a b⁻¹;have h2:=Yy b;omega
theorem mU:fs 0=2:=by decide+kernel
theorem Ao:fs 1=2:=by decide+kernel
theorem Yz (q:Rat):2≤fs q:=by have:=dE q;have:=rU q.den q.den_nz;unfold fs;omega
theorem Ap {n:Int} (h0: -9223372036854775808≤n) (h1:n<9223372036854775808):fs (n:Rat)≤65:=by
 have:=Fl (n:=n) (k:=64) (Jm h0 h1) aF;unfold fs;omega
theorem ab8 (a b:Rat) (h:fs a+fs b≤1073741824):ab Tryz.prog 80 [.frac a,.frac b] [] (.frac (a+b)) [] []:=JD er a b ZK
theorem Cl (a b:Rat) (h:fs a+fs b≤1073741824):ab Tryz.prog 81 [.frac a,.frac b] [] (.frac (a*b)) [] []:=DV er a b ZK
theorem ab9 (a b:Rat) (hb:b≠0) (h:fs a+fs b≤1073741824):ab Tryz.prog 141 [.frac a,.frac b] [] (.ct [.frac (a/b),.val (.int .i64 0)]) [] []:=DX er a b hb ZK
def JI (n:Int):Int:=if n<0 then 1 else if n>2048 then 3 else 0
theorem YA (n:Int):ab Tryz.prog 230 [.val (.int .i64 n)] [] (.val (.int .i64 (JI n))) [] []:=by
 refine bP [] Tryz.func230 ?_
 intro W0 w0 ρ0 hE
 conv=>whnf
 unfold JI
 by_cases h1:n<0
 ·have t1:decide (n<0)=true:=decide_eq_true h1
  rw[if_pos h1]
  (repeat(first|(refine ag rfl rfl ?_;conv=>whnf)|(rw[t1];conv=>whnf)));exact Q5
 ·have t1:decide (n<0)=false:=decide_eq_false h1
  rw[if_neg h1]
  by_cases h2:n>2048
  ·have t2:decide (n>2048)=true:=decide_eq_true h2
   rw[if_pos h2]
   (repeat((first|refine ag rfl rfl ?_|refine af rfl rfl ?_|rw[t1]|rw[t2]);conv=>whnf));exact Q5
  ·have t2:decide (n>2048)=false:=decide_eq_false h2
   rw[if_neg h2]
   (repeat(first|(refine af rfl rfl ?_;conv=>whnf)|(rw[t1];conv=>whnf)|(rw[t2];conv=>whnf)));exact Q5
theorem oH (l:List Rat) (i:Nat) (hi:i<l.length):l.take (i+1)=l.take i++[l.getD i 0]:=by rw[List.take_add_one,List.getD_eq_getElem?_getD,List.getElem?_eq_getElem hi];rfl
abbrev n7 (c:Rat) (a:List Rat):List Rat:=List.zipWith (fun x _=>c*x) a a
theorem NC (n:Nat) (hn:n≤2048) (K:Nat):ab Tryz.prog 123 [.val (.int .i64 (n:Nat))] [] (.ct [.aN K 5 0 n,.val (.int .i64 0)]) [(K,⟨52,true,.cm (List.replicate n 0)⟩)] []:=by
 have k1:=YA n
 rw[JI,if_neg aa,if_neg aa]at k1
 refine fq (Z:=[]) aL bJ Tryz.func123 rfl aB (args:=[.val (.int .i64 (n:Nat))]) (fk:=[]) (c:=.ct [.aN 11 5 0 n,.val (.int .i64 0)]) (new:=[(11,⟨52,true,.cm (List.replicate n 0)⟩)]) (upd:=[]) (cu.of rfl rfl rfl rfl rfl rfl rfl rfl rfl rfl rfl) rfl (fun _=>K) bh.one ?_
 intro W0 w0 ρ0 hE
 conv=>whnf
 (repeat((first|refine af rfl rfl ?_|refine And.intro Q7 ?_|refine aS (by assumption) ?_|rw[Int.toNat_natCast]);conv=>whnf))
 exact⟨aq.refl _,(fun k b hm=>by simp only[List.mem_singleton,Prod.mk.injEq]at hm;obtain⟨rfl,rfl⟩:=hm;rfl),(fun _ _ h=>by cases h)⟩
theorem uV:Tryz.prog.eqGuardType Tryz.prog.depth 52=false:=aB
theorem Ec (a b:Rat):pn vP dP 10 52 (bD a) (bD b)=some (decide (a=b)):=by
 have e:pn vP dP 10 52 (bD a) (bD b)=some (((((low a.num.natAbs==low b.num.natAbs)&&(((nu a.num.natAbs).toList==(nu b.num.natAbs).toList)&&true))&&true)&&((decide (a.num<0)==decide (b.num<0))&&true))&&
  (((low (a.den - 1)==low (b.den - 1))&&(((nu (a.den - 1)).toList==(nu (b.den - 1)).toList)&&true))&&true)):=rfl
 rw[e]
 simp only[Bool.and_true]
 rw[iE,iE]
 congr 1
 rw[Bool.eq_iff_iff]
 simp only[Bool.and_eq_true,decide_eq_true_eq,beq_iff_eq,decide_eq_decide]
 have h1:=a.den_pos
 have h2:=b.den_pos
 constructor
 ·rintro⟨⟨h3,h4⟩,h5⟩
  exact Rat.ext aa aa
 ·rintro rfl
  exact⟨⟨rfl,Iff.rfl⟩,rfl⟩
def aG (l:List Int):List Rat:=l.map fun(n:Int)=>((n:Int):Rat)
theorem oI {α β:Type} {f:α→β} {l:List α} {i:Nat} {d:α} {e:β} (h:i<l.length):(l.map f).getD i e=f (l.getD i d):=by
 simp[List.getD_eq_getElem?_getD,List.getElem?_eq_getElem h]
end Go.Proofs.YtfpagioknjjacaaGreatDoor
namespace Go.Proofs
open Go.Shelf
def Tryz.uk:Go.Shelf.Ren:=⟨fun|156=>220|165=>304|166=>305|169=>306|240=>344|241=>345|276=>363|277=>364|n=>n,fun|31=>262|9=>9|3=>3|4=>4|0=>0|20=>20|72=>342|76=>346|70=>340|37=>61|75=>345|127=>387|164=>400|5=>5|80=>348|n=>n,fun|n=>n⟩
theorem Tryz.Fv:Go.Proofs.Lays.n156 Tryz.prog Tryz.uk:={
 mixed:=by kernel_rfl
 f156:=Tryz.func220.trans (congrArg some (by kernel_rfl))
 f165:=Tryz.func304.trans (congrArg some (by kernel_rfl))
 f166:=Tryz.func305.trans (congrArg some (by kernel_rfl))
 f169:=Tryz.func306.trans (congrArg some (by kernel_rfl))
 f240:=Tryz.func344.trans (congrArg some (by kernel_rfl))
 f241:=Tryz.func345.trans (congrArg some (by kernel_rfl))
 f276:=Tryz.func363.trans (congrArg some (by kernel_rfl))
 f277:=Tryz.func364.trans (congrArg some (by kernel_rfl))
 t0:=Tryz.underlying0
 a0:=Tryz.isAgg0
 z0:=Tryz.sizeOf0
 v0:=Tryz.zeroValue0
 t3:=Tryz.underlying3
 a3:=Tryz.isAgg3
 z3:=Tryz.sizeOf3
 v3:=Tryz.zeroValue3
 t4:=Tryz.underlying4
 a4:=Tryz.isAgg4
 z4:=Tryz.sizeOf4
 v4:=Tryz.zeroValue4
 t9:=Tryz.underlying9
 a9:=Tryz.isAgg9
 z9:=Tryz.sizeOf9
 v9:=Tryz.zeroValue9
 t20:=Tryz.underlying20
 a20:=Tryz.isAgg20
 z20:=Tryz.sizeOf20
 v20:=Tryz.zeroValue20
 t31:=Tryz.underlying262
 a31:=Tryz.isAgg262
 z31:=Tryz.sizeOf262
 v31:=Tryz.zeroValue262
 t37:=Tryz.underlying61
 a37:=Tryz.isAgg61
 z37:=Tryz.sizeOf61
 v37:=Tryz.zeroValue61
 t70:=Tryz.underlying340
 a70:=Tryz.isAgg340
 z70:=Tryz.sizeOf340
 v70:=Tryz.zeroValue340
 t72:=Tryz.underlying342
 a72:=Tryz.isAgg342
 z72:=Tryz.sizeOf342
 v72:=Tryz.zeroValue342
 t75:=Tryz.underlying345
 a75:=Tryz.isAgg345
 z75:=Tryz.sizeOf345
 v75:=Tryz.zeroValue345
 t76:=Tryz.underlying346
 a76:=Tryz.isAgg346
 z76:=Tryz.sizeOf346
 v76:=Tryz.zeroValue346
 t127:=Tryz.underlying387
 a127:=Tryz.isAgg387
 z127:=Tryz.sizeOf387
 v127:=Tryz.zeroValue387
 t164:=Tryz.underlying400
 a164:=Tryz.isAgg400
 z164:=Tryz.sizeOf400
 v164:=Tryz.zeroValue400}
theorem Tryz.lp:Builder.Extra Tryz.prog Tryz.uk:={
 sizeBuilder:=by kernel_rfl
 liesBuilder:=by kernel_rfl
 t5:=Tryz.underlying5
 a5:=Tryz.isAgg5
 z5:=Tryz.sizeOf5
 v5:=Tryz.zeroValue5
 infoByte:=by kernel_rfl
 cellsByte:=by kernel_rfl
 sizeByte:=by kernel_rfl
 neB5:=by decide}
open Go.RowKit in
theorem Tryz.strings_Join_none (a:Option Addr) (c:Nat) (sep:ByteArray) (w:World):
  Calls Tryz.prog 220 #[.slice a 0 c,.string sep] w fun e w'=>e= .returned (.string ⟨#[]⟩)∧w'=w:=Any.strings_Join_none Tryz.Fv Tryz.lp a c sep w
open Go.RowKit in
/-- strings.Join: "Join concatenates the elements of its first argument to create a single string. The separator string sep is placed between elements in the resulting string.": HOWEVER MANY ELEMENTS. Below the heap's end the world is as it was. (LAID: no walk: one application.) -/
theorem Tryz.strings_Join (bk o c:Nat) (xs:List ByteArray) (sep:ByteArray) (w:World) (eD:∀(j:Nat) x,xs[j]? =some x→w.cell? ⟨bk,o+j,none⟩=some (.string x)) (hbk:bk<w.heap.size) (hN:xs.length≤140737488355328) (hcap:xs.length≤c) (hlen:(Lib.join (xs.map (·.data.toList)) sep.data.toList).length≤140737488355328):
  Calls Tryz.prog 220 #[.slice (some ⟨bk,o,none⟩) xs.length c,.string sep] w fun e w'=>e= .returned (.string ⟨(Lib.join (xs.map (·.data.toList)) sep.data.toList).toArray⟩)∧Below w.heap.size w w':=Any.strings_Join Tryz.Fv Tryz.lp bk o c xs sep w eD hbk hN hcap hlen
def Tryz.Cm:Go.Shelf.Ren:=⟨fun|283=>365|n=>n,fun|3=>3|9=>9|4=>4|n=>n,fun|n=>n⟩
theorem Tryz.ND:Go.Proofs.Lays.n283 Tryz.prog Tryz.Cm:={
 mixed:=by kernel_rfl
 f283:=Tryz.func365.trans (congrArg some (by kernel_rfl))
 t3:=Tryz.underlying3
 a3:=Tryz.isAgg3
 z3:=Tryz.sizeOf3
 v3:=Tryz.zeroValue3
 t4:=Tryz.underlying4
 a4:=Tryz.isAgg4
 z4:=Tryz.sizeOf4
 v4:=Tryz.zeroValue4
 t9:=Tryz.underlying9
 a9:=Tryz.isAgg9
 z9:=Tryz.sizeOf9
 v9:=Tryz.zeroValue9}
open Go.Lib in
/-- internal/strconv.small: "small returns the string for an i with 0 <= i < nSmalls.": i's decimal numeral. The world is as it was. (LAID: no walk: one application.) -/
theorem Tryz.internal_strconv_small (i:Nat) (h:i<100) (w:World):
  Calls Tryz.prog 365 #[.int .i64 i] w fun e w'=>e= .returned (.string ⟨(Lib.decDigits i).toArray⟩)∧w'=w:=Any.internal_strconv_small Tryz.ND i h w
def Tryz.Aq:Go.Shelf.Ren:=⟨fun|284=>366|129=>373|317=>372|318=>374|n=>n,fun|53=>44|3=>3|212=>411|0=>0|4=>4|46=>334|5=>5|9=>9|n=>n,fun|17=>2|n=>n⟩
theorem Tryz.JJ:Go.Proofs.LaysM.n284 Tryz.prog Tryz.Aq:={
 mixed:=by kernel_rfl
 f129:=Tryz.func373.trans (congrArg some (by kernel_rfl))
 f284:=Tryz.func366.trans (congrArg some (by kernel_rfl))
 f317:=Tryz.func372.trans (congrArg some (by kernel_rfl))
 f318:=Tryz.func374.trans (congrArg some (by kernel_rfl))
 t0:=Tryz.underlying0
 a0:=Tryz.isAgg0
 z0:=Tryz.sizeOf0
 v0:=Tryz.zeroValue0
 t3:=Tryz.underlying3
 a3:=Tryz.isAgg3
 z3:=Tryz.sizeOf3
 v3:=Tryz.zeroValue3
 t4:=Tryz.underlying4
 a4:=Tryz.isAgg4
 z4:=Tryz.sizeOf4
 v4:=Tryz.zeroValue4
 t5:=Tryz.underlying5
 a5:=Tryz.isAgg5
 z5:=Tryz.sizeOf5
 v5:=Tryz.zeroValue5
 t9:=Tryz.underlying9
 a9:=Tryz.isAgg9
 z9:=Tryz.sizeOf9
 v9:=Tryz.zeroValue9
 t46:=Tryz.underlying334
 a46:=Tryz.isAgg334
 z46:=Tryz.sizeOf334
 v46:=Tryz.zeroValue334
 t53:=Tryz.underlying44
 a53:=Tryz.isAgg44
 z53:=Tryz.sizeOf44
 v53:=Tryz.zeroValue44
 t212:=Tryz.underlying411
 a212:=Tryz.isAgg411
 z212:=Tryz.sizeOf411
 v212:=Tryz.zeroValue411
 g17:=by kernel_rfl
 i0:=by kernel_rfl
 i3:=by kernel_rfl
 i4:=by kernel_rfl
 i5:=by kernel_rfl
 i9:=by kernel_rfl
 i46:=by kernel_rfl
 i53:=by kernel_rfl
 i212:=by kernel_rfl
 m17:=by kernel_rfl}
open Go.Lib in
theorem Tryz.internal_strconv_numDigits (u:Nat) (h1:1≤u) (h2:u<18446744073709551616) (w:World) (htab:Lib.TabIs Tryz.prog w "internal/strconv.uint64pow10" .u64 Lib.pow10Tab):
  Calls Tryz.prog 366 #[.int .u64 u] w fun e w'=>e= .returned (.int .i64 (Lib.nDigits u))∧w'=w:=Any.internal_strconv_numDigits Tryz.JJ u h1 h2 w htab
def Tryz.Cn:Go.Shelf.Ren:=⟨fun|285=>367|n=>n,fun|37=>61|53=>44|3=>3|4=>4|51=>23|9=>9|5=>5|0=>0|n=>n,fun|n=>n⟩
theorem Tryz.NF:Go.Proofs.Lays.n285 Tryz.prog Tryz.Cn:={
 mixed:=by kernel_rfl
 f285:=Tryz.func367.trans (congrArg some (by kernel_rfl))
 t0:=Tryz.underlying0
 a0:=Tryz.isAgg0
 z0:=Tryz.sizeOf0
 v0:=Tryz.zeroValue0
 t3:=Tryz.underlying3
 a3:=Tryz.isAgg3
 z3:=Tryz.sizeOf3
 v3:=Tryz.zeroValue3
 t4:=Tryz.underlying4
 a4:=Tryz.isAgg4
 z4:=Tryz.sizeOf4
 v4:=Tryz.zeroValue4
 t5:=Tryz.underlying5
 a5:=Tryz.isAgg5
 z5:=Tryz.sizeOf5
 v5:=Tryz.zeroValue5
 t9:=Tryz.underlying9
 a9:=Tryz.isAgg9
 z9:=Tryz.sizeOf9
 v9:=Tryz.zeroValue9
 t37:=Tryz.underlying61
 a37:=Tryz.isAgg61
 z37:=Tryz.sizeOf61
 v37:=Tryz.zeroValue61
 t51:=Tryz.underlying23
 a51:=Tryz.isAgg23
 z51:=Tryz.sizeOf23
 v51:=Tryz.zeroValue23
 t53:=Tryz.underlying44
 a53:=Tryz.isAgg44
 z53:=Tryz.sizeOf44
 v53:=Tryz.zeroValue44}
open Go.RowKit Go.Sort Go.Lib in
/-- internal/strconv.formatBase10: "formatBase10 formats the decimal representation of u into a. The caller is responsible for ensuring that a is big enough to hold u. If a is too big, leading zeros will be filled in as needed.": THE ROW HOLDS u's DIGITS ('FmtInv .. 0 ..': every place t holds 'dg u (len - 1 - t)'); all else is as it was but for the count of draws. (LAID: no walk: one application.) -/
theorem Tryz.internal_strconv_formatBase10 (blk off cap:Nat) (u:Nat) (d:Array UInt8) (w:World) (hH:Holds (fun(b:UInt8)=>Value.int .u8 (b.toNat:Int)) w blk off d) (hu:u<10^d.size) (hu64:u<18446744073709551616) (ir:d.size<4611686018427387904):
  Calls Tryz.prog 367 #[.slice (some ⟨blk,off,none⟩) d.size cap,.int .u64 u] w fun e w'=>
   e= .returned (.tuple #[])∧∃(n v':Nat) (dk:Array UInt8),w'=(putRow (fun(b:UInt8)=>Value.int .u8 (b.toNat:Int)) w blk off dk).drewN n∧FmtInv d.size u 0 v' dk:=Any.internal_strconv_formatBase10 Tryz.NF blk off cap u d w hH hu hu64 ir
def Tryz.Ar:Go.Shelf.Ren:=⟨fun|171=>316|243=>352|246=>369|283=>365|284=>366|285=>367|286=>368|129=>373|317=>372|318=>374|319=>375|320=>376|337=>377|338=>378|n=>n,fun|3=>3|9=>9|2=>2|4=>4|171=>403|0=>0|53=>44|37=>61|5=>5|173=>406|212=>411|51=>23|20=>20|213=>412|46=>334|232=>414|233=>415|n=>n,fun|17=>2|18=>3|19=>4|n=>n⟩
theorem Tryz.JK:Go.Proofs.LaysM.n171 Tryz.prog Tryz.Ar:={
 mixed:=by kernel_rfl
 f129:=Tryz.func373.trans (congrArg some (by kernel_rfl))
 f171:=Tryz.func316.trans (congrArg some (by kernel_rfl))
 f243:=Tryz.func352.trans (congrArg some (by kernel_rfl))
 f246:=Tryz.func369.trans (congrArg some (by kernel_rfl))
 f283:=Tryz.func365.trans (congrArg some (by kernel_rfl))
 f284:=Tryz.func366.trans (congrArg some (by kernel_rfl))
 f285:=Tryz.func367.trans (congrArg some (by kernel_rfl))
 f286:=Tryz.func368.trans (congrArg some (by kernel_rfl))
 f317:=Tryz.func372.trans (congrArg some (by kernel_rfl))
 f318:=Tryz.func374.trans (congrArg some (by kernel_rfl))
 f319:=Tryz.func375.trans (congrArg some (by kernel_rfl))
 f320:=Tryz.func376.trans (congrArg some (by kernel_rfl))
 f337:=Tryz.func377.trans (congrArg some (by kernel_rfl))
 f338:=Tryz.func378.trans (congrArg some (by kernel_rfl))
 t0:=Tryz.underlying0
 a0:=Tryz.isAgg0
 z0:=Tryz.sizeOf0
 v0:=Tryz.zeroValue0
 t2:=Tryz.underlying2
 a2:=Tryz.isAgg2
 z2:=Tryz.sizeOf2
 v2:=Tryz.zeroValue2
 t3:=Tryz.underlying3
 a3:=Tryz.isAgg3
 z3:=Tryz.sizeOf3
 v3:=Tryz.zeroValue3
 t4:=Tryz.underlying4
 a4:=Tryz.isAgg4
 z4:=Tryz.sizeOf4
 v4:=Tryz.zeroValue4
 t5:=Tryz.underlying5
 a5:=Tryz.isAgg5
 z5:=Tryz.sizeOf5
 v5:=Tryz.zeroValue5
 t9:=Tryz.underlying9
 a9:=Tryz.isAgg9
 z9:=Tryz.sizeOf9
 v9:=Tryz.zeroValue9
 t20:=Tryz.underlying20
 a20:=Tryz.isAgg20
 z20:=Tryz.sizeOf20
 v20:=Tryz.zeroValue20
 t37:=Tryz.underlying61
 a37:=Tryz.isAgg61
 z37:=Tryz.sizeOf61
 v37:=Tryz.zeroValue61
 t46:=Tryz.underlying334
 a46:=Tryz.isAgg334
 z46:=Tryz.sizeOf334
 v46:=Tryz.zeroValue334
 t51:=Tryz.underlying23
 a51:=Tryz.isAgg23
 z51:=Tryz.sizeOf23
 v51:=Tryz.zeroValue23
 t53:=Tryz.underlying44
 a53:=Tryz.isAgg44
 z53:=Tryz.sizeOf44
 v53:=Tryz.zeroValue44
 t171:=Tryz.underlying403
 a171:=Tryz.isAgg403
 z171:=Tryz.sizeOf403
 v171:=Tryz.zeroValue403
 t173:=Tryz.underlying406
 a173:=Tryz.isAgg406
 z173:=Tryz.sizeOf406
 v173:=Tryz.zeroValue406
 t212:=Tryz.underlying411
 a212:=Tryz.isAgg411
 z212:=Tryz.sizeOf411
 v212:=Tryz.zeroValue411
 t213:=Tryz.underlying412
 a213:=Tryz.isAgg412
 z213:=Tryz.sizeOf412
 t232:=Tryz.underlying414
 a232:=Tryz.isAgg414
 z232:=Tryz.sizeOf414
 v232:=Tryz.zeroValue414
 t233:=Tryz.underlying415
 a233:=Tryz.isAgg415
 z233:=Tryz.sizeOf415
 v233:=Tryz.zeroValue415
 g17:=by kernel_rfl
 g18:=by kernel_rfl
 g19:=by kernel_rfl
 i0:=by kernel_rfl
 i2:=by kernel_rfl
 i3:=by kernel_rfl
 i4:=by kernel_rfl
 i5:=by kernel_rfl
 i9:=by kernel_rfl
 i20:=by kernel_rfl
 i37:=by kernel_rfl
 i46:=by kernel_rfl
 i51:=by kernel_rfl
 i53:=by kernel_rfl
 i171:=by kernel_rfl
 i173:=by kernel_rfl
 i212:=by kernel_rfl
 i232:=by kernel_rfl
 i233:=by kernel_rfl
 m17:=by kernel_rfl
 m18:=by kernel_rfl
 m19:=by kernel_rfl}
open Go.RowKit Go.Sort Go.Lib in
/-- strconv.Itoa: "Itoa is equivalent to FormatInt(int64(i), 10).": i's DECIMAL NUMERAL ('Lib.itoa': a '-' where i is negative, then the digits), FOR EVERY int. The world behind the call: the world before it, new blocks behind the heap (the library's 'var a [24]byte'), draws. (LAID: no walk: one application.) -/
theorem Tryz.strconv_Itoa (n:Int) (h0: -9223372036854775808≤n) (h1:n≤9223372036854775807) (w:World) (htab:Lib.TabIs Tryz.prog w "internal/strconv.uint64pow10" .u64 Lib.pow10Tab):
  Calls Tryz.prog 316 #[.int .i64 n] w fun e w'=>e= .returned (.string ⟨(Lib.itoa n).toArray⟩)∧∃k os,w'=grow (w.drewN k) os:=Any.strconv_Itoa Tryz.JK n h0 h1 w htab
def Tryz.um:Go.Shelf.Ren:=⟨fun|105=>317|212=>353|99=>354|165=>304|166=>305|170=>355|169=>306|263=>370|264=>298|206=>371|240=>344|241=>345|276=>363|277=>364|n=>n,fun|9=>9|3=>3|4=>4|20=>20|0=>0|46=>334|109=>391|5=>5|72=>342|76=>346|51=>23|146=>383|53=>44|148=>331|70=>340|37=>61|75=>345|127=>387|164=>400|80=>348|n=>n,fun|n=>n⟩
theorem Tryz.NG:Go.Proofs.Lays.n105 Tryz.prog Tryz.um:={
 mixed:=by kernel_rfl
 f99:=Tryz.func354.trans (congrArg some (by kernel_rfl))
 f105:=Tryz.func317.trans (congrArg some (by kernel_rfl))
 f165:=Tryz.func304.trans (congrArg some (by kernel_rfl))
 f166:=Tryz.func305.trans (congrArg some (by kernel_rfl))
 f169:=Tryz.func306.trans (congrArg some (by kernel_rfl))
 f170:=Tryz.func355.trans (congrArg some (by kernel_rfl))
 f206:=Tryz.func371.trans (congrArg some (by kernel_rfl))
 f212:=Tryz.func353.trans (congrArg some (by kernel_rfl))
 f240:=Tryz.func344.trans (congrArg some (by kernel_rfl))
 f241:=Tryz.func345.trans (congrArg some (by kernel_rfl))
 f263:=Tryz.func370.trans (congrArg some (by kernel_rfl))
 f264:=Tryz.func298.trans (congrArg some (by kernel_rfl))
 f276:=Tryz.func363.trans (congrArg some (by kernel_rfl))
 f277:=Tryz.func364.trans (congrArg some (by kernel_rfl))
 t0:=Tryz.underlying0
 a0:=Tryz.isAgg0
 z0:=Tryz.sizeOf0
 v0:=Tryz.zeroValue0
 t3:=Tryz.underlying3
 a3:=Tryz.isAgg3
 z3:=Tryz.sizeOf3
 v3:=Tryz.zeroValue3
 t4:=Tryz.underlying4
 a4:=Tryz.isAgg4
 z4:=Tryz.sizeOf4
 v4:=Tryz.zeroValue4
 t5:=Tryz.underlying5
 a5:=Tryz.isAgg5
 z5:=Tryz.sizeOf5
 v5:=Tryz.zeroValue5
 t9:=Tryz.underlying9
 a9:=Tryz.isAgg9
 z9:=Tryz.sizeOf9
 v9:=Tryz.zeroValue9
 t20:=Tryz.underlying20
 a20:=Tryz.isAgg20
 z20:=Tryz.sizeOf20
 v20:=Tryz.zeroValue20
 t37:=Tryz.underlying61
 a37:=Tryz.isAgg61
 z37:=Tryz.sizeOf61
 v37:=Tryz.zeroValue61
 t46:=Tryz.underlying334
 a46:=Tryz.isAgg334
 z46:=Tryz.sizeOf334
 v46:=Tryz.zeroValue334
 t51:=Tryz.underlying23
 a51:=Tryz.isAgg23
 z51:=Tryz.sizeOf23
 v51:=Tryz.zeroValue23
 t53:=Tryz.underlying44
 a53:=Tryz.isAgg44
 z53:=Tryz.sizeOf44
 v53:=Tryz.zeroValue44
 t70:=Tryz.underlying340
 a70:=Tryz.isAgg340
 z70:=Tryz.sizeOf340
 v70:=Tryz.zeroValue340
 t72:=Tryz.underlying342
 a72:=Tryz.isAgg342
 z72:=Tryz.sizeOf342
 v72:=Tryz.zeroValue342
 t75:=Tryz.underlying345
 a75:=Tryz.isAgg345
 z75:=Tryz.sizeOf345
 v75:=Tryz.zeroValue345
 t76:=Tryz.underlying346
 a76:=Tryz.isAgg346
 z76:=Tryz.sizeOf346
 v76:=Tryz.zeroValue346
 t109:=Tryz.underlying391
 a109:=Tryz.isAgg391
 z109:=Tryz.sizeOf391
 v109:=Tryz.zeroValue391
 t127:=Tryz.underlying387
 a127:=Tryz.isAgg387
 z127:=Tryz.sizeOf387
 v127:=Tryz.zeroValue387
 t146:=Tryz.underlying383
 a146:=Tryz.isAgg383
 z146:=Tryz.sizeOf383
 v146:=Tryz.zeroValue383
 t148:=Tryz.underlying331
 a148:=Tryz.isAgg331
 z148:=Tryz.sizeOf331
 v148:=Tryz.zeroValue331
 t164:=Tryz.underlying400
 a164:=Tryz.isAgg400
 z164:=Tryz.sizeOf400
 v164:=Tryz.zeroValue400}
theorem Tryz.qW:Builder.Extra Tryz.prog Tryz.um:={
 sizeBuilder:=by kernel_rfl
 liesBuilder:=by kernel_rfl
 t5:=Tryz.underlying5
 a5:=Tryz.isAgg5
 z5:=Tryz.sizeOf5
 v5:=Tryz.zeroValue5
 infoByte:=by kernel_rfl
 cellsByte:=by kernel_rfl
 sizeByte:=by kernel_rfl
 neB5:=by decide}
open Go.RowKit Go.Lib in
theorem Tryz.strings_Repeat (s:ByteArray) (c:Nat) (w:World) (hc:c≤9223372036854775807) (hlen:s.size*c≤140737488355328):
  Calls Tryz.prog 317 #[.string s,.int .i64 c] w fun e w'=>e= .returned (.string ⟨(Lib.repeatL s.data.toList c).toArray⟩)∧Below w.heap.size w w':=Any.strings_Repeat Tryz.NG Tryz.qW s c w hc hlen
end Go.Proofs
namespace Go.Proofs.YtfpagioknjjacaaGreatDoor
open Go.Sx
set_option linter.unusedSimpArgs false
set_option linter.unusedVariables false
set_option maxRecDepth 100000
set_option maxHeartbeats 4000000
def NH:Nat→Nat→List UInt8
 |0,_=>[]
 |f+1,n=>if n<10 then[UInt8.ofNat (48+n)]else NH f (n/10)++[UInt8.ofNat (48+n % 10)]
theorem Fw:∀f n,n<f→NH f n=Lib.decDigits n
 |0,n,h=>aa
 |f+1,n,h=>by
  rw[NH,Lib.decDigits]
  by_cases h1:n<10
  ·rw[if_pos h1,dif_pos h1]
  ·rw[if_neg h1,dif_neg h1,Fw f (n/10) aa]
def tN (n:Nat):ByteArray:=⟨(NH (n+1) n).toArray⟩
theorem pC (n:Nat):tN n=⟨(Lib.decDigits n).toArray⟩:=by rw[tN,Fw _ _ (Nat.lt_succ_self n)]
def tZ (z:Int):ByteArray:=if z<0 then "-".toUTF8++tN z.natAbs else tN z.natAbs
def tQ (q:Rat):ByteArray:=if q.den=1 then tZ q.num else tZ q.num++ "/".toUTF8++tN q.den
theorem NI (i:Nat) (h:i<100):ab Tryz.prog 365 [.val (.int .i64 (i:Nat))] [] (.val (.string (tN i))) [] []:=
 DM (vs:=[.int .i64 (i:Nat)]) ⟨Tryz.f365,Tryz.func365,rfl,aB⟩ rfl (fun w=>by rw[pC];exact Tryz.internal_strconv_small i h w)
theorem G2 (n:Nat) (h:n<100):ab Tryz.prog 350 [.val (.int .u64 (n:Nat)),.val (.int .i64 10)] [] (.val (.string (tN n))) [] []:=by
 have k1:=NI n h
 have t1:decide ((n:Int)<100)=true:=decide_eq_true aa
 have t2:IntKind.i64.wrap (n:Int)=n:=wrap_i64 aa aa
 refine bP [] Tryz.func350 ?_
 intro W0 w0 ρ0 hE
 conv=>whnf
 (repeat((first|refine ag rfl rfl ?_|refine aS (by assumption) ?_|rw[beq_self_eq_true]|rw[t1]|rw[t2]);conv=>whnf));exact Q5
theorem JL (n:Nat) (h:n<100):ab Tryz.prog 313 [.val (.int .u64 (n:Nat)),.val (.int .i64 10)] [] (.val (.string (tN n))) [] []:=by
 have k1:=G2 n h
 refine bP [] Tryz.func313 ?_
 intro W0 w0 ρ0 hE
 conv=>whnf
 (repeat(first|(refine aS (by assumption) ?_;conv=>whnf)));exact Q5
def tV (a:List Rat):ByteArray:= "[".toUTF8++⟨(Lib.join ((a.map tQ).map (·.data.toList)) [32]).toArray⟩++ "]".toUTF8
theorem JM (ss:List ByteArray) (hN:ss.length≤1099511627776) (hlen:(Lib.join (ss.map (·.data.toList)) [32]).length≤140737488355328):
  ab Tryz.prog 220 [cT 1 qf ss,.val (.string ⟨#[32]⟩)] [] (.val (.string ⟨(Lib.join (ss.map (·.data.toList)) [32]).toArray⟩)) [] []:=by
 refine GQ ⟨Tryz.f220,Tryz.func220,rfl,aB⟩ rfl ?_ ?_
 ·rintro rfl a w
  exact Tryz.strings_Join_none a 0 ⟨#[32]⟩ w
 ·intro bk o c w hc hb hcap
  exact Tryz.strings_Join bk o c ss ⟨#[32]⟩ w hc hb aa hcap hlen
abbrev qA:Int×Int→SV:=ag2 (fV .i64) (fV .u32)
def qV (q:Int×Int):Rat:=(q.1:Rat)/((if q.2<1 then 1 else q.2:Int):Rat)
def Ed (q:Int×Int):Prop:=(-9223372036854775808≤q.1∧q.1<9223372036854775808)∧(0≤q.2∧q.2<4294967296)
theorem aca {q:Int×Int} (h:Ed q):fs (qV q)≤130:=by
 have h1:=Eb (q.1:Rat) ((if q.2<1 then 1 else q.2:Int):Rat)
 have h2:=Ap h.1.1 h.1.2
 have h3:fs ((if q.2<1 then 1 else q.2:Int):Rat)≤65:=Ap Qz Qz
 unfold qV
 omega
theorem acb (q:Int×Int) (h:Ed q):ab Tryz.prog 39 [qA q] [] (.frac (qV q)) [] []:=by
 have hd:(if q.2<1 then 1 else q.2)≠0:=by have:=h.2;split<;>omega
 have e1:(if (1:Int)>q.2 then 1 else q.2)=(if q.2<1 then 1 else q.2):=rfl
 have e2:IntKind.i64.wrap (if (1:Int)>q.2 then 1 else q.2)=(if q.2<1 then 1 else q.2):=wrap_i64 Qz Qz
 have g2:=Ap h.1.1 h.1.2
 have g3:fs ((if q.2<1 then 1 else q.2:Int):Rat)≤65:=Ap Qz Qz
 have k1:=Jn er q.1 (if q.2<1 then 1 else q.2) (by unfold fs at g2 g3;omega) h.1.1 h.1.2 Qz Qz hd
 refine bP [] Tryz.func39 ?_
 intro W0 w0 ρ0 hE
 conv=>whnf
 (repeat(first|(refine aS (by assumption) ?_;conv=>whnf)|(rw[e2];conv=>whnf)));exact Q5
theorem JN {α:Type} {l:List α} {i:Nat} {d:α} (h:i<l.length):(l.take i).take i++(([l.getD i d]:List α).drop 0).take 1=l.take (i+1):=by
 have e:l.take (i+1)=l.take i++[l.getD i d]:=by rw[List.take_add_one,List.getD_eq_getElem?_getD,List.getElem?_eq_getElem h];rfl
 rw[List.take_take,Nat.min_self,e];rfl
def aH:Nat→(Nat→Rat)→Rat
 |0,_=>0
 |n+1,f=>aH n f+f n
section
variable (x y:Nat→Rat)
end
theorem ao {f g:Nat→Rat}:∀n,(∀i,i<n→f i=g i)→aH n f=aH n g
 |0,_=>rfl
 |n+1,h=>by rw[aH,aH,ao n (fun i hi=>h i aa),h n aa]
theorem n8:∀n,aH n (fun _=>0)=0
 |0=>rfl
 |n+1=>by rw[aH,n8 n];grind
def Sm (B:Nat) (l:List Rat):Prop:=∀i,i<l.length→fs (l.getD i 0)≤B
abbrev QWf (l:List (Int×Int)):Prop:=l.length≤maxLen∧∀x∈l,((Lit.int .i64 x.1).wf=true)∧((Lit.int .u32 x.2).wf=true)
theorem YB {l:List (Int×Int)} (w:l.length≤maxLen∧∀x∈l,((Lit.int .i64 x.1).wf=true)∧((Lit.int .u32 x.2).wf=true)):∀q∈l,Ed q:=fun q hq=>⟨wf_i64 (w.2 q hq).1,wf_u32 (w.2 q hq).2⟩
section
variable {a b z:List Rat} {n i:Nat} {c:Rat}
theorem As (ha:a.length=n) (hb:b.length=n) (h:∀i,i<n→a.getD i 0=b.getD i 0):a=b:=by
 refine List.ext_getElem (ha.trans hb.symm) fun i h1 h2=> ?_
 have:=h i aa
 rwa [List.getD_eq_getElem?_getD,List.getD_eq_getElem?_getD,List.getElem?_eq_getElem h1,List.getElem?_eq_getElem h2]at this
theorem sum_add (f g:Nat→Rat):∀n,aH n (fun i=>f i+g i)=aH n f+aH n g
 |0=>by simp only[aH];grind
 |n+1=>by simp only[aH];rw[sum_add f g n];grind
theorem sum_smul (c:Rat) (f:Nat→Rat):∀n,aH n (fun i=>c*f i)=c*aH n f
 |0=>by simp only[aH];grind
 |n+1=>by simp only[aH];rw[sum_smul c f n];grind
end
def mk (r c:Nat) (f:Nat→Nat→Rat):List Rat:=(List.range (r*c)).map fun p=>f (p/c) (p % c)
abbrev el (a:List Rat) (c i k:Nat):Rat:=a.getD (i*c+k) 0
theorem dx (r c:Nat) (f:Nat→Nat→Rat):(mk r c f).length=r*c:=by simp[mk]
theorem dN {r c i k:Nat} (hi:i<r) (hk:k<c):i*c+k<r*c:=by
 have:=Nat.mul_le_mul_right c (show i+1≤r from hi)
 rw[Nat.succ_mul]at this;omega
theorem uX {c i k:Nat} (hk:k<c):(i*c+k)/c=i:=by
 rw[Nat.mul_comm,Nat.mul_add_div aa,Nat.div_eq_of_lt hk,Nat.add_zero]
theorem uY {c i k:Nat} (hk:k<c):(i*c+k) % c=k:=by
 rw[Nat.mul_comm,Nat.mul_add_mod,Nat.mod_eq_of_lt hk]
theorem QM {r c:Nat} {f:Nat→Nat→Rat} {p:Nat} (hp:p<r*c):(mk r c f).getD p 0=f (p/c) (p % c):=by
 simp[mk,List.getD_eq_getElem?_getD,hp]
theorem fy {r c i k:Nat} {f:Nat→Nat→Rat} (hi:i<r) (hk:k<c):el (mk r c f) c i k=f i k:=by
 rw[el,QM (dN hi hk),uX hk,uY hk]
theorem oJ {r c p:Nat} (hp:p<r*c):p/c<r∧p % c<c∧p/c*c+p % c=p:=by
 have hc:0<c:=by rcases Nat.eq_zero_or_pos c with h|h
                 ·subst h;omega
                 ·exact h
 refine⟨(Nat.div_lt_iff_lt_mul hc).2 hp,Nat.mod_lt _ hc, ?_⟩
 rw[Nat.mul_comm];exact Nat.div_add_mod p c
theorem qX {a b:List Rat} {r c:Nat} (ha:a.length=r*c) (hb:b.length=r*c) (h:∀i k,i<r→k<c→el a c i k=el b c i k):a=b:=by
 refine As ha hb fun p hp=> ?_
 obtain⟨h1,h2,h3⟩:=oJ hp
 have:=h _ _ h1 h2
 rwa [el,el,h3]at this
theorem JO {a:List Rat} {r c:Nat} {f:Nat→Nat→Rat} (ha:a.length=r*c) (h:∀i k,i<r→k<c→f i k=el a c i k):mk r c f=a:=
 qX (dx ..) ha fun i k hi hk=>by rw[fy hi hk,h i k hi hk]
theorem mk_congr {r c:Nat} {f g:Nat→Nat→Rat} (h:∀i k,i<r→k<c→f i k=g i k):mk r c f=mk r c g:=
 JO (dx ..) fun i k hi hk=>by rw[fy hi hk,h i k hi hk]
theorem wL {r c B:Nat} {f:Nat→Nat→Rat} (h:∀i k,i<r→k<c→fs (f i k)≤B):Sm B (mk r c f):=by
 intro p hp
 rw[dx]at hp
 obtain⟨h1,h2,_⟩:=oJ hp
 rw[QM hp];exact h _ _ h1 h2
theorem mb {a:List Rat} {r c B i k:Nat} (h:Sm B a) (ha:a.length=r*c) (hi:i<r) (hk:k<c):fs (el a c i k)≤B:=h _ (by rw[ha];exact dN hi hk)
theorem fA (f:Nat→Nat→Rat) (m:Nat):∀n,aH n (fun i=>aH m (f i))=aH m (fun k=>aH n (fun i=>f i k))
 |0=>by
  rw[aH]
  have:aH m (fun _=>(0:Rat))=0:=by induction m with
   |zero=>rfl
   |succ m ih=>rw[aH,ih];grind
  exact(show aH m (fun k=>aH 0 (fun i=>f i k))=0 from this).symm
 |n+1=>by rw[aH,fA f m n,←sum_add];exact ao m fun k _=>rfl
theorem NJ (c:Rat) (f:Nat→Rat) (n:Nat):aH n (fun i=>f i*c)=aH n f*c:=by
 rw[Rat.mul_comm,←sum_smul]
 exact ao n fun i _=>Rat.mul_comm _ _
theorem Ee {f:Nat→Rat} {B:Nat}:∀n,(∀i,i<n→fs (f i)≤B)→fs (aH n f)≤2+n*B
 |0,_=>by rw[aH,mU];omega
 |n+1,h=>by
  have h1:=Ee n (fun i hi=>h i aa)
  have h2:=h n aa
  have:=JH (aH n f) (f n)
  rw[aH,Nat.succ_mul];omega
def delta (i k:Nat):Rat:=if i=k then 1 else 0
theorem dh {f:Nat→Rat} {i:Nat}:∀n,aH n (fun j=>delta i j*f j)=if i<n then f i else 0
 |0=>by simp[aH]
 |n+1=>by
  rw[aH,dh n,delta]
  by_cases h:i=n
  ·subst h;simp;grind
  ·by_cases h2:i<n
   ·simp[h,h2,show i<n+1 by omega];grind
   ·simp[h,h2,show ¬i<n+1 by omega];grind
theorem wM (i k:Nat):delta i k=delta k i:=by unfold delta;by_cases h:i=k<;>simp[h,eq_comm]
theorem gA {f:Nat→Rat} {i n:Nat}:aH n (fun j=>f j*delta j i)=if i<n then f i else 0:=by
 rw[←dh n];exact ao n fun j _=>by rw[wM,Rat.mul_comm]
abbrev qY (r s t:Nat) (a b:List Rat):List Rat:=mk r t fun i k=>aH s fun p=>el a s i p*el b t p k
abbrev JP (r c:Nat) (a:List Rat):List Rat:=mk c r fun i k=>el a c k i
abbrev ig (n:Nat):List Rat:=mk n n delta
abbrev jv (r c:Nat) (a v:List Rat):List Rat:=(List.range r).map fun i=>aH c fun p=>el a c i p*v.getD p 0
theorem pP {r c:Nat} {a v:List Rat}:(jv r c a v).length=r:=by simp
theorem iH {r c i:Nat} {a v:List Rat} (hi:i<r):(jv r c a v).getD i 0=aH c fun p=>el a c i p*v.getD p 0:=by
 simp[List.getD_eq_getElem?_getD,hi]
theorem bC {f:Nat→Rat} (c:Rat) (n:Nat):c*aH n f=aH n fun i=>c*f i:=(sum_smul c f n).symm
theorem gZ {f:Nat→Rat} (c:Rat) (n:Nat):aH n f*c=aH n fun i=>f i*c:=(NJ c f n).symm
theorem Ef {r s t:Nat} (x y v:List Rat):jv r t (qY r s t x y) v=jv r s x (jv s t y v):=by
 refine As pP pP fun i hi=> ?_
 rw[iH hi,iH hi]
 have e1:(aH t fun j=>el (qY r s t x y) t i j*v.getD j 0)=aH t fun j=>aH s fun k=>el x s i k*el y t k j*v.getD j 0:=
  ao t fun j hj=>by rw[fy hi hj,gZ]
 have e2:(aH s fun k=>el x s i k*(jv s t y v).getD k 0)=aH s fun k=>aH t fun j=>el x s i k*el y t k j*v.getD j 0:=
  ao s fun k hk=>by rw[iH hk,bC];exact ao t fun j _=>by grind
 rw[e1,e2,fA]
theorem yF (f:Nat→Rat):∀n,aH (n+1) f=f 0+aH n (fun i=>f (i+1))
 |0=>by simp only[aH];grind
 |n+1=>by rw[aH,yF f n,aH];grind
theorem c6 {f:Nat→Rat} {n:Nat} (h:∀i,i<n→f i=0):aH n f=0:=by
 rw[ao n h,n8]
theorem hO {f:Nat→Rat} {j:Nat}:∀n,j<n→(∀i,i<n→i≠j→f i=0)→aH n f=f j
 |0,h,_=>aa
 |n+1,hj,h=>by
  rw[aH]
  by_cases e:j=n
  ·subst e;rw[c6 fun i hi=>h i aa aa];grind
  ·rw[hO n aa (fun i hi hn=>h i aa hn),h n aa (fun g=>e g.symm)];grind
theorem NK {f:Nat→Rat} {j:Nat} {n:Nat} (hj:j+1<n) (h:∀i,i<n→i≠j→i≠j+1→f i=0) (h2:f j+f (j+1)=0):aH n f=0:=by
 have e:aH n f=aH n (fun i=>(if i=j then f j else 0)+(if i=j+1 then f (j+1)else 0)):=ao n fun i hi=>by
  by_cases h1:i=j
  ·subst h1;simp;grind
  ·by_cases h3:i=j+1
   ·subst h3;simp;grind
   ·rw[h i hi h1 h3,if_neg h1,if_neg h3];grind
 rw[e,sum_add,hO (f:=fun i=>if i=j then f j else 0) (j:=j) n aa (fun i _ hn=>if_neg hn),hO (f:=fun i=>if i=j+1 then f (j+1)else 0) (j:=j+1) n hj (fun i _ hn=>if_neg hn)]
 simp[h2]
abbrev Mx:=Nat→Nat→Rat
def sg:Nat→Rat
 |0=>1
 |n+1=> - sg n
theorem wN (m:Nat):∀n,sg (m+n)=sg m*sg n
 |0=>by rw[sg,Nat.add_zero];grind
 |n+1=>by rw[←Nat.add_assoc,sg,sg,wN m n];grind
theorem Fx (n:Nat):sg n*sg n=1:=by
 induction n with
 |zero=>rw[sg];grind
 |succ n ih=>rw[sg];grind
def sk (k j:Nat):Nat:=if j<k then j else j+1
theorem JQ (k j:Nat):sk k j≠k:=by unfold sk;split<;>omega
theorem kp {n k j:Nat} (hj:j<n):sk k j<n+1:=by unfold sk;split<;>omega
theorem kr {k j:Nat} (h:j<k):sk k j=j:=if_pos h
theorem pD {k j:Nat} (h:k≤j):sk k j=j+1:=if_neg aa
theorem acd {k l j:Nat} (h:l≤k):sk (k+1) (sk l j)=sk l (sk k j):=by
 unfold sk
 by_cases h1:j<l
 ·simp[h1,show j<k by omega,show j<k+1 by omega]
 ·by_cases h2:j<k
  ·simp[h1,h2]
  ·simp[h1,h2,show ¬j+1<l by omega]
def mn (A:Mx) (k:Nat):Mx:=fun i j=>A (i+1) (sk k j)
def bH:Nat→Mx→Rat
 |0,_=>1
 |n+1,A=>aH (n+1) fun k=>sg k*A 0 k*bH n (mn A k)
theorem cK (n:Nat) (A:Mx):bH (n+1) A=aH (n+1) fun k=>sg k*A 0 k*bH n (mn A k):=rfl
theorem aO:∀{n:Nat} {A B:Mx},(∀i k,i<n→k<n→A i k=B i k)→bH n A=bH n B
 |0,_,_,_=>rfl
 |n+1,A,B,h=>by
  rw[cK,cK]
  refine ao _ fun k hk=> ?_
  rw[h 0 k aa hk,aO (n:=n) (A:=mn A k) (B:=mn B k) (fun i j hi hj=>h _ _ aa (kp hj))]
def setRow (A:Mx) (i:Nat) (x:Nat→Rat):Mx:=fun p q=>if p=i then x q else A p q
theorem aU (A:Mx) (i:Nat) (x:Nat→Rat):setRow A i x i=x:=by funext q;simp[setRow]
theorem aV (A:Mx) {i p:Nat} (x:Nat→Rat) (h:p≠i):setRow A i x p=A p:=by funext q;simp[setRow,h]
theorem setRow_self (A:Mx) (i:Nat):setRow A i (A i)=A:=by
 funext p q
 by_cases h:p=i
 ·subst h;rw[aU]
 ·rw[aV _ _ h]
theorem Eg (A:Mx) (i:Nat) (x y:Nat→Rat):setRow (setRow A i x) i y=setRow A i y:=by
 funext p q;unfold setRow;split<;>rfl
theorem gI (A:Mx) {i j:Nat} (x y:Nat→Rat) (h:i≠j):setRow (setRow A i x) j y=setRow (setRow A j y) i x:=by
 funext p q;unfold setRow
 by_cases h1:p=i
 ·subst h1;simp[h]
 ·simp[h1]
structure Alt (n:Nat) (F:Mx→Rat):Prop where
 congr:∀A B,(∀i k,i<n→k<n→A i k=B i k)→F A=F B
 Mw:∀A i x c y,i<n→F (setRow A i fun k=>x k+c*y k)=F (setRow A i x)+c*F (setRow A i y)
 alt:∀A i,i+1<n→(∀k,k<n→A i k=A (i+1) k)→F A=0
theorem At (A:Mx) (x:Nat→Rat) (k:Nat):mn (setRow A 0 x) k=mn A k:=by
 funext i j;rw[mn,aV _ _ aa];rfl
theorem Eh (A:Mx) (x:Nat→Rat) (k i:Nat):mn (setRow A (i+1) x) k=setRow (mn A k) i fun j=>x (sk k j):=by
 funext p q
 by_cases h:p=i
 ·subst h;rw[aU,mn,aU]
 ·rw[aV _ _ h,mn,aV _ _ aa];rfl
theorem uZ:∀(n:Nat) (A:Mx) (i:Nat) (x:Nat→Rat) (c:Rat) (y:Nat→Rat),i<n→bH n (setRow A i fun k=>x k+c*y k)=bH n (setRow A i x)+c*bH n (setRow A i y)
 |0,_,_,_,_,_,h=>aa
 |n+1,A,0,x,c,y,_=>by
  rw[cK,cK,cK,bC,←sum_add]
  refine ao _ fun k _=> ?_
  rw[aU,aU,aU,At,At,At]
  grind
 |n+1,A,i+1,x,c,y,h=>by
  rw[cK,cK,cK,bC,←sum_add]
  refine ao _ fun k _=> ?_
  rw[aV _ _ aa,aV _ _ aa,aV _ _ aa,Eh,Eh,Eh,uZ n _ _ _ _ _ aa]
  grind
theorem JR (n:Nat) (T:Nat→Nat→Rat) (h:∀k l,l≤k→k<n→T (k+1) l= - T l k):aH (n+1) (fun k=>aH n (T k))=0:=by
 have e1:aH (n+1) (fun k=>aH n (T k))=aH (n+1) (fun k=>aH n fun l=>if l<k then T k l else 0)+aH (n+1) (fun k=>aH n fun l=>if l<k then 0 else T k l):=by
  rw[←sum_add]
  refine ao _ fun k _=> ?_
  rw[←sum_add]
  exact ao _ fun l _=>by split<;>grind
 have e2:aH (n+1) (fun k=>aH n fun l=>if l<k then T k l else 0)=aH n fun k=>aH n fun l=>if l<k+1 then T (k+1) l else 0:=by
  rw[yF,c6 fun l _=>if_neg aa];grind
 have e3:aH (n+1) (fun k=>aH n fun l=>if l<k then 0 else T k l)=aH n fun k=>aH n fun l=>if k<l then 0 else T l k:=by
  rw[aH,c6 (f:=fun l=>if l<n then 0 else T n l) fun l hl=>if_pos hl,fA];grind
 rw[e1,e2,e3,←sum_add]
 refine c6 fun k hk=> ?_
 rw[←sum_add]
 refine c6 fun l hl=> ?_
 by_cases h1:l≤k
 ·rw[if_pos aa,if_neg aa,h k l h1 hk];grind
 ·rw[if_neg aa,if_pos aa];grind
theorem qZ:∀(n:Nat) (A:Mx) (i:Nat),i+1<n→(∀k,k<n→A i k=A (i+1) k)→bH n A=0
 |0,_,_,h,_=>aa
 |1,_,_,h,_=>aa
 |n+2,A,0,_,h=>by
  rw[cK]
  have e:∀k,k<n+2→sg k*A 0 k*bH (n+1) (mn A k)=aH (n+1) fun l=>sg k*A 0 k*(sg l*A 1 (sk k l)*bH n (mn (mn A k) l)):=fun k _=>by
   rw[cK,bC];rfl
  rw[ao _ e]
  refine JR (n+1) (fun k l=>sg k*A 0 k*(sg l*A 1 (sk k l)*bH n (mn (mn A k) l))) fun k l hl hk=> ?_
  have e1:mn (mn A (k+1)) l=mn (mn A l) k:=by
   funext i j
   rw[mn,mn,mn,mn,acd hl]
  show sg (k+1)*A 0 (k+1)*(sg l*A 1 (sk (k+1) l)*bH n (mn (mn A (k+1)) l))= - (sg l*A 0 l*(sg k*A 1 (sk l k)*bH n (mn (mn A l) k)))
  rw[e1,kr aa,pD hl,h (k+1) aa,h l aa,sg]
  grind
 |n+2,A,i+1,hi,h=>by
  rw[cK]
  refine c6 fun k _=> ?_
  rw[qZ (n+1) (mn A k) i aa (fun j hj=>h _ (kp hj))];grind
theorem eb (n:Nat):Alt n (bH n):=⟨fun _ _=>aO,fun A i x c y=>uZ n A i x c y,fun A i=>qZ n A i⟩
section
variable {n:Nat} {F:Mx→Rat} (hF:Alt n F)
include hF
theorem Alt.add (A:Mx) {i:Nat} (x y:Nat→Rat) (hi:i<n):F (setRow A i fun k=>x k+y k)=F (setRow A i x)+F (setRow A i y):=by
 have:=hF.Mw A i x 1 y hi
 rw[show(fun k=>x k+1*y k)=fun k=>x k+y k from by funext k;grind]at this
 rw[this];grind
theorem Alt.zero (A:Mx) {i:Nat} (hi:i<n):F (setRow A i fun _=>0)=0:=by
 have:=hF.add A (fun _=>0) (fun _=>0) hi
 rw[show(fun _:Nat=>(0:Rat)+0)=fun _=>0 from by funext k;grind]at this
 grind
theorem Alt.smul (A:Mx) {i:Nat} (c:Rat) (x:Nat→Rat) (hi:i<n):F (setRow A i fun k=>c*x k)=c*F (setRow A i x):=by
 have:=hF.Mw A i (fun _=>0) c x hi
 rw[hF.zero A hi,show(fun k=>(0:Rat)+c*x k)=fun k=>c*x k from by funext k;grind]at this
 rw[this];grind
theorem Alt.sum (A:Mx) {i:Nat} (hi:i<n) (a:Nat→Rat) (e:Nat→Nat→Rat):∀m,F (setRow A i fun k=>aH m fun p=>a p*e p k)=aH m fun p=>a p*F (setRow A i (e p))
 |0=>by simp only[aH];exact hF.zero A hi
 |m+1=>by
  simp only[aH]
  rw[hF.Mw A i (fun k=>aH m fun p=>a p*e p k) (a m) (e m) hi,Alt.sum A hi a e m]
def aR (A:Mx) (i j:Nat):Mx:=fun p=>if p=i then A j else if p=j then A i else A p
omit hF in
theorem JS (A:Mx) {i j:Nat} (h:i≠j):aR A i j=setRow (setRow A i (A j)) j (A i):=by
 funext p q
 unfold aR
 by_cases h1:p=i
 ·subst h1;rw[if_pos rfl,aV _ _ h,aU]
 ·by_cases h2:p=j
  ·subst h2;rw[if_neg h1,if_pos rfl,aU]
  ·rw[if_neg h1,if_neg h2,aV _ _ h2,aV _ _ h1]
theorem Alt.Fy (A:Mx) {i j:Nat} (hi:i<n) (hj:j<n) (b6:i≠j) (h0:∀x,F (setRow (setRow A i x) j x)=0):F (aR A i j)= - F A:=by
 have h1:=h0 (fun k=>A i k+A j k)
 rw[hF.add _ _ _ hj,gI _ _ _ b6,hF.add _ _ _ hi,gI _ _ _ b6,hF.add _ _ _ hi,
  gI _ _ _ b6.symm,h0,gI _ _ _ b6.symm,gI _ _ _ b6.symm,gI _ _ _ b6.symm,h0]at h1
 have e1:setRow (setRow A i (A i)) j (A j)=A:=by rw[setRow_self,setRow_self]
 rw[←JS A b6]at h1
 rw[e1]at h1
 grind
theorem Alt.QN (A:Mx) {i:Nat} (hi:i+1<n):F (aR A i (i+1))= - F A:=
 hF.Fy A aa hi aa fun x=>hF.alt _ i hi fun k _=>by rw[aV _ _ aa,aU,aU]
theorem Alt.same (d:Nat):∀(A:Mx) (i:Nat),i+d+1<n→(∀k,k<n→A i k=A (i+d+1) k)→F A=0:=by
 induction d with
 |zero=>exact fun A i hi h=>hF.alt A i hi h
 |succ d ih=>
  intro A i hi h
  have h1:=ih (aR A (i+d+1) (i+d+1+1)) i aa fun k hk=>by
   unfold aR
   rw[if_neg aa,if_neg aa,if_pos rfl];exact h k hk
  rw[hF.QN A aa]at h1
  grind
theorem Alt.eq (A:Mx) {i j:Nat} (hi:i<n) (hj:j<n) (b6:i≠j) (h:∀k,k<n→A i k=A j k):F A=0:=by
 rcases Nat.lt_or_gt_of_ne b6 with g|g
 ·exact hF.same (j - i - 1) A i aa fun k hk=>by rw[show i+(j - i - 1)+1=j by omega];exact h k hk
 ·exact hF.same (i - j - 1) A j aa fun k hk=>by rw[show j+(i - j - 1)+1=i by omega];exact(h k hk).symm
theorem Alt.swap (A:Mx) {i j:Nat} (hi:i<n) (hj:j<n) (b6:i≠j):F (aR A i j)= - F A:=
 hF.Fy A hi hj b6 fun x=>hF.eq _ hi hj b6 fun k _=>by rw[aV _ _ b6,aU,aU]
theorem Alt.Ei (A:Mx) {i j:Nat} (c:Rat) (hi:i<n) (hj:j<n) (b6:i≠j):F (setRow A i fun k=>A i k+c*A j k)=F A:=by
 rw[hF.Mw A i (A i) c (A j) hi,setRow_self,hF.eq (setRow A i (A j)) hi hj b6 fun k _=>by rw[aU,aV _ _ (fun h=>b6 h.symm)]]
 grind
def kx (k:Nat) (A:Mx):Mx:=fun i=>if i=0 then A k else if i≤k then A (i - 1)else A i
theorem Alt.top:∀(k:Nat) (A:Mx),k<n→F (kx k A)=sg k*F A
 |0,A,_=>by
  rw[show kx 0 A=A from by
   funext i;unfold kx
   by_cases h:i=0
   ·rw[if_pos h,h]
   ·rw[if_neg h,if_neg aa],sg]
  grind
 |k+1,A,h=>by
  have e:kx (k+1) A=kx k (aR A k (k+1)):=by
   funext i;unfold kx aR
   by_cases h1:i=0
   ·rw[if_pos h1,if_pos h1,if_pos rfl]
   ·rw[if_neg h1,if_neg h1]
    by_cases h2:i≤k
    ·rw[if_pos aa,if_pos h2,if_neg aa,if_neg aa]
    ·rw[if_neg h2]
     by_cases h3:i=k+1
     ·subst h3;rw[if_pos aa,if_neg aa,if_pos rfl];rfl
     ·rw[if_neg aa,if_neg aa,if_neg h3]
  rw[e,Alt.top k _ aa,hF.QN A h,sg]
  grind
end
def un (k q:Nat):Nat:=if q<k then q else q - 1
theorem ace (k j:Nat):un k (sk k j)=j:=by
 unfold un sk
 by_cases h:j<k
 ·rw[if_pos h,if_pos h]
 ·rw[if_neg h,if_neg aa];rfl
theorem QO {k q:Nat} (h:q≠k):sk k (un k q)=q:=by
 unfold un sk
 by_cases h1:q<k
 ·rw[if_pos h1,if_pos h1]
 ·rw[if_neg h1,if_neg aa];omega
theorem JT {n k q:Nat} (hq:q<n+1) (hk:k<n+1) (h:q≠k):un k q<n:=by unfold un;split<;>omega
def q7 (k:Nat) (B:Mx):Mx:=fun i q=>if i=0 then delta k q else if q=k then 0 else B (i - 1) (un k q)
theorem wO (k:Nat) (B:Mx) (i:Nat) (x:Nat→Rat):q7 k (setRow B i x)=setRow (q7 k B) (i+1) fun q=>if q=k then 0 else x (un k q):=by
 funext p q
 by_cases h:p=i+1
 ·subst h
  rw[aU,q7,if_neg aa,show i+1 - 1=i by omega,aU]
 ·rw[aV _ _ h,q7,q7]
  by_cases h0:p=0
  ·rw[if_pos h0,if_pos h0]
  ·rw[if_neg h0,if_neg h0,aV _ _ aa]
theorem Alt.q7 {n:Nat} {F:Mx→Rat} (hF:Alt (n+1) F) {k:Nat} (hk:k<n+1):Alt n fun B=>F (q7 k B) where
 congr:=fun A B h=>hF.congr _ _ fun i q hi hq=>by
  unfold Go.Proofs.YtfpagioknjjacaaGreatDoor.q7
  by_cases h0:i=0
  ·rw[if_pos h0,if_pos h0]
  ·rw[if_neg h0,if_neg h0]
   by_cases h1:q=k
   ·rw[if_pos h1,if_pos h1]
   ·rw[if_neg h1,if_neg h1];exact h _ _ aa (JT hq hk h1)
 Mw:=fun A i x c y hi=>by
  show F _=F _+c*F _
  rw[wO,wO,wO,←hF.Mw _ _ _ _ _ aa]
  congr 2
  funext q
  by_cases h:q=k
  ·rw[if_pos h,if_pos h,if_pos h];grind
  ·rw[if_neg h,if_neg h,if_neg h]
 alt:=fun A i hi h=>hF.alt _ (i+1) aa fun q hq=>by
  unfold Go.Proofs.YtfpagioknjjacaaGreatDoor.q7
  rw[if_neg (show ¬i+1=0 by omega),if_neg (show ¬i+1+1=0 by omega)]
  by_cases h1:q=k
  ·rw[if_pos h1,if_pos h1]
  ·rw[if_neg h1,if_neg h1];exact h _ (JT hq hk h1)
theorem kB:∀(n:Nat) (F:Mx→Rat),Alt n F→∀A,F A=F delta*bH n A
 |0,F,hF,A=>by rw[hF.congr A delta fun i k hi=>aa,bH];grind
 |n+1,F,hF,A=>by
  have e0:F A=aH (n+1) fun k=>A 0 k*F (setRow A 0 (delta k)):=by
   rw[←hF.sum A aa (A 0) delta (n+1)]
   refine hF.congr _ _ fun i q hi hq=> ?_
   by_cases h:i=0
   ·subst h;rw[aU,gA,if_pos hq]
   ·rw[aV _ _ h]
  rw[e0,cK,bC]
  refine ao _ fun k hk=> ?_
  have e1:∀m,m≤n→F (setRow A 0 (delta k))=F (fun i q=>if i=0 then delta k q else if i≤m∧q=k then 0 else A i q):=by
   intro m
   induction m with
   |zero=>
    intro _
    refine hF.congr _ _ fun i q _ _=> ?_
    by_cases h:i=0
    ·subst h;rw[aU,if_pos rfl]
    ·rw[aV _ _ h,if_neg h,if_neg aa]
   |succ m ih=>
    intro hm
    rw[ih aa,←hF.Ei (i:=m+1) (j:=0) (fun i q=>if i=0 then delta k q else if i≤m∧q=k then 0 else A i q) (- A (m+1) k) aa aa aa]
    refine hF.congr _ _ fun i q _ _=> ?_
    by_cases h:i=m+1
    ·subst h
     rw[aU,if_neg aa,if_neg aa,if_pos rfl,if_neg aa]
     by_cases hq:q=k
     ·subst hq;rw[if_pos ⟨Nat.le_refl _,rfl⟩];simp[delta];grind
     ·rw[if_neg (fun g=>hq g.2),delta,if_neg (fun g=>hq g.symm)];grind
    ·rw[aV _ _ h]
     by_cases h0:i=0
     ·rw[if_pos h0,if_pos h0]
     ·rw[if_neg h0,if_neg h0]
      by_cases g:i≤m∧q=k
      ·rw[if_pos g,if_pos ⟨aa,g.2⟩]
      ·rw[if_neg g,if_neg (fun g2=>g ⟨aa,g2.2⟩)]
  have e2:F (setRow A 0 (delta k))=F (q7 k (mn A k)):=by
   rw[e1 n (Nat.le_refl _)]
   refine hF.congr _ _ fun i q hi _=> ?_
   unfold q7
   by_cases h0:i=0
   ·rw[if_pos h0,if_pos h0]
   ·rw[if_neg h0,if_neg h0]
    by_cases hq:q=k
    ·rw[if_pos ⟨aa,hq⟩,if_pos hq]
    ·rw[if_neg (fun g=>hq g.2),if_neg hq,mn,QO hq,show i - 1+1=i by omega]
  have e3:F (q7 k delta)=sg k*F delta:=by
   rw[←hF.top k delta hk]
   refine hF.congr _ _ fun i q hi _=> ?_
   unfold q7 kx
   by_cases h0:i=0
   ·rw[if_pos h0,if_pos h0]
   ·rw[if_neg h0,if_neg h0]
    by_cases hq:q=k
    ·rw[if_pos hq,hq]
     by_cases h1:i≤k
     ·rw[if_pos h1,delta,if_neg aa]
     ·rw[if_neg h1,delta,if_neg aa]
    ·rw[if_neg hq]
     unfold un delta
     by_cases h1:i≤k
     ·rw[if_pos h1]
      by_cases h2:q<k
      ·rw[if_pos h2]
      ·rw[if_neg h2,if_neg aa,if_neg aa]
     ·rw[if_neg h1]
      by_cases h2:q<k
      ·rw[if_pos h2,if_neg aa,if_neg aa]
      ·rw[if_neg h2]
       by_cases h3:i=q
       ·rw[if_pos aa,if_pos h3]
       ·rw[if_neg aa,if_neg h3]
  rw[e2,kB n _ (hF.q7 hk) (mn A k),e3]
  grind
theorem oK:∀n,bH n delta=1
 |0=>rfl
 |n+1=>by
  rw[cK,hO (j:=0) (n+1) aa fun i _ hi=>by rw[delta,if_neg fun h=>hi h.symm];grind]
  rw[sg,aO (A:=mn delta 0) (B:=delta) fun i k _ _=>by
   show delta (i+1) (sk 0 k)=_
   rw[pD aa];unfold delta
   by_cases h:i=k
   ·rw[if_pos aa,if_pos h]
   ·rw[if_neg aa,if_neg h],oK n]
  simp[delta]
def pr (n:Nat) (A B:Mx):Mx:=fun i k=>aH n fun p=>A i p*B p k
theorem q8 (n:Nat) (A B:Mx):bH n (pr n A B)=bH n A*bH n B:=by
 have h:Alt n fun A=>bH n (pr n A B):={
  congr:=fun A A' h=>aO fun i k hi hk=>ao n fun p hp=>by rw[h i p hi hp]
  Mw:=fun A i x c y hi=>by
   have e:∀z,pr n (setRow A i z) B=setRow (pr n A B) i fun k=>aH n fun p=>z p*B p k:=fun z=>by
    funext p q
    by_cases h:p=i
    ·subst h;rw[aU,pr];simp only[aU]
    ·rw[aV _ _ h];unfold pr;simp only[aV _ _ h]
   show bH n _=bH n _+c*bH n _
   rw[e,e,e,←uZ n _ _ _ _ _ hi]
   congr 2
   funext k
   rw[bC,←sum_add]
   exact ao n fun p _=>by grind
  alt:=fun A i hi h=>qZ n _ i hi fun k _=>ao n fun p hp=>by rw[h p hp]}
 rw[kB n _ h A]
 show bH n (pr n delta B)*bH n A=_
 rw[aO (A:=pr n delta B) (B:=B) fun i k hi _=>by rw[pr,dh,if_pos hi]]
 grind
def fB (A:Mx) (j:Nat) (x:Nat→Rat):Mx:=fun p q=>if q=j then x p else A p q
theorem mV (A:Mx) (x:Nat→Rat) (k:Nat):mn (fB A k x) k=mn A k:=by
 funext i j;rw[mn,fB,if_neg (JQ _ _)];rfl
theorem rY (A:Mx) (x:Nat→Rat) {j k:Nat} (h:j≠k):mn (fB A j x) k=fB (mn A k) (un k j) fun p=>x (p+1):=by
 funext p q
 unfold mn fB
 by_cases e:sk k q=j
 ·rw[if_pos e,if_pos (by rw[←e,ace])]
 ·rw[if_neg e,if_neg fun g=>e (by rw[g,QO h])]
theorem wP:∀(n:Nat) (A:Mx) (j:Nat) (x:Nat→Rat) (c:Rat) (y:Nat→Rat),j<n→bH n (fB A j fun k=>x k+c*y k)=bH n (fB A j x)+c*bH n (fB A j y)
 |0,_,_,_,_,_,h=>aa
 |n+1,A,j,x,c,y,hj=>by
  rw[cK,cK,cK,bC,←sum_add]
  refine ao _ fun k hk=> ?_
  by_cases h:j=k
  ·subst h
   rw[mV,mV,mV]
   simp only[fB,if_true]
   grind
  ·rw[rY _ _ h,rY _ _ h,rY _ _ h,wP n _ _ _ _ _ (JT hj hk h)]
   simp only[fB,if_neg fun g=>h (Eq.symm g)]
   grind
theorem pQ:∀(n:Nat) (A:Mx) (j:Nat),j+1<n→(∀i,i<n→A i j=A i (j+1))→bH n A=0
 |0,_,_,h,_=>aa
 |n+1,A,j,hj,h=>by
  rw[cK]
  refine NK hj (fun k hk h1 h2=> ?_) ?_
  ·have:bH n (mn A k)=0:=by
    rcases Nat.lt_or_gt_of_ne h1 with g|g
    ·refine pQ n _ (j - 1) aa fun i hi=> ?_
     show A (i+1) (sk k (j - 1))=A (i+1) (sk k (j - 1+1))
     rw[pD aa,pD aa,show j - 1+1=j by omega]
     exact h _ aa
    ·refine pQ n _ j aa fun i hi=> ?_
     show A (i+1) (sk k j)=A (i+1) (sk k (j+1))
     rw[kr aa,kr aa]
     exact h _ aa
   rw[this];grind
  ·have:bH n (mn A j)=bH n (mn A (j+1)):=aO fun i q hi _=>by
    unfold mn
    by_cases e:q=j
    ·subst e;rw[pD (Nat.le_refl _),kr (Nat.lt_succ_self _)];exact(h _ aa).symm
    ·by_cases g:q<j
     ·rw[kr g,kr aa]
     ·rw[pD aa,pD aa]
   rw[this,h 0 aa,sg];grind
def tr (A:Mx):Mx:=fun i k=>A k i
theorem kE (n:Nat) (A:Mx):bH n (tr A)=bH n A:=by
 have h:Alt n fun A=>bH n (tr A):={
  congr:=fun A A' h=>aO fun i k hi hk=>h k i hk hi
  Mw:=fun A i x c y hi=>wP n (tr A) i x c y hi
  alt:=fun A i hi h=>pQ n (tr A) i hi h}
 rw[kB n _ h A]
 show bH n (tr delta)*bH n A=_
 rw[aO (A:=tr delta) (B:=delta) fun i k _ _=>wM k i,oK];grind
def rK (A:Mx) (r k:Nat):Mx:=fun i j=>A (sk r i) (sk k j)
theorem u7 (n:Nat) (A:Mx) {r:Nat} (hr:r<n+1):bH (n+1) A=aH (n+1) fun k=>sg (r+k)*A r k*bH n (rK A r k):=by
 have h:=(eb (n+1)).top r A hr
 have h2:bH (n+1) A=sg r*bH (n+1) (kx r A):=by rw[h,←Rat.mul_assoc,Fx];grind
 rw[h2,cK,bC]
 refine ao _ fun k _=> ?_
 have e:mn (kx r A) k=rK A r k:=by
  funext i j
  unfold mn rK kx
  rw[if_neg aa]
  by_cases g:i<r
  ·rw[if_pos aa,kr g];rfl
  ·rw[if_neg aa,pD (k:=r) aa]
 rw[e,wN,show kx r A 0=A r from rfl];grind
theorem JU (A:Mx) (r k:Nat):rK (tr A) r k=tr (rK A k r):=rfl
theorem JV (n:Nat) (A:Mx) {r:Nat} (hr:r<n+1):bH (n+1) A=aH (n+1) fun i=>sg (i+r)*A i r*bH n (rK A i r):=by
 rw[←kE,u7 n (tr A) hr]
 exact ao _ fun k _=>by rw[JU,kE,Nat.add_comm];rfl
def dU (n:Nat) (A:Mx):Mx:=fun i k=>sg (i+k)*bH (n - 1) (rK A k i)
theorem JW (n:Nat) (A:Mx) (i k:Nat):dU n (tr A) i k=dU n A k i:=by
 rw[dU,dU,JU,kE,Nat.add_comm]
theorem NL (A:Mx) (r k:Nat) (x:Nat→Rat):rK (setRow A r x) r k=rK A r k:=by
 funext i j;rw[rK,aV _ _ (JQ _ _)];rfl
theorem Au {n:Nat} (A:Mx) {i k:Nat} (hi:i<n) (hk:k<n):pr n A (dU n A) i k=if i=k then bH n A else 0:=by
 obtain⟨m,rfl⟩:∃m,n=m+1:=⟨n - 1,aa⟩
 have h:pr (m+1) A (dU (m+1) A) i k=bH (m+1) (setRow A k (A i)):=by
  rw[u7 m _ hk]
  refine ao _ fun p _=> ?_
  rw[NL,aU,dU,Nat.add_comm k p,show m+1 - 1=m from rfl];grind
 rw[h]
 by_cases e:i=k
 ·subst e;rw[setRow_self,if_pos rfl]
 ·rw[if_neg e,(eb (m+1)).eq _ hi hk e fun q _=>by rw[aV _ _ e,aU]]
theorem lv {n:Nat} (A:Mx) {i k:Nat} (hi:i<n) (hk:k<n):pr n (dU n A) A i k=if i=k then bH n A else 0:=by
 have h:=Au (tr A) hk hi
 rw[kE]at h
 have e:pr n (dU n A) A i k=pr n (tr A) (dU n (tr A)) k i:=ao _ fun p _=>by rw[JW,Rat.mul_comm];rfl
 rw[e,h]
 by_cases g:i=k
 ·rw[if_pos g,if_pos g.symm]
 ·rw[if_neg g,if_neg (fun h=>g h.symm)]
def n9:List Rat→Rat→Rat
 |[],_=>0
 |a::l,t=>a+t*n9 l t
def eO (f:Rat→Rat):Prop:=∃l,∀t,f t=n9 l t
theorem eO.const (c:Rat):eO fun _=>c:=⟨[c],fun t=>by simp only[n9];grind⟩
theorem eO.id:eO fun t=>t:=⟨[0,1],fun t=>by simp only[n9];grind⟩
def wR:List Rat→List Rat→List Rat
 |[],l=>l
 |l,[]=>l
 |a::l,b::m=>(a+b)::wR l m
theorem wS:∀(l m:List Rat) (t:Rat),n9 (wR l m) t=n9 l t+n9 m t
 |[],m,t=>by rw[wR,n9];grind
 |a::l,[],t=>by rw[wR];simp only[n9];grind;simp
 |a::l,b::m,t=>by rw[wR];simp only[n9];rw[wS l m t];grind
theorem Co:∀(l m:List Rat) (d:Nat),l.length≤d→m.length≤d→(wR l m).length≤d
 |[],m,d,_,h=>by rw[wR];exact h
 |a::l,[],d,h,_=>by rw[wR];exact h;simp
 |a::l,b::m,0,h,_=>by simp at h
 |a::l,b::m,d+1,h1,h2=>by rw[wR,List.length_cons];have:=Co l m d (by simpa using h1) (by simpa using h2);omega
theorem Av (c:Rat):∀(l:List Rat) (t:Rat),n9 (l.map (c*·)) t=c*n9 l t
 |[],t=>by simp only[List.map_nil,n9];grind
 |a::l,t=>by simp only[List.map_cons,n9];rw[Av c l t];grind
theorem eO.add {f g:Rat→Rat} (hf:eO f) (hg:eO g):eO fun t=>f t+g t:=by
 obtain⟨l,hl⟩:=hf;obtain⟨m,hm⟩:=hg
 exact⟨wR l m,fun t=>by show f t+g t=_;rw[wS,hl,hm]⟩
theorem eO.smul {f:Rat→Rat} (c:Rat) (hf:eO f):eO fun t=>c*f t:=by
 obtain⟨l,hl⟩:=hf
 exact⟨l.map (c*·),fun t=>by show c*f t=_;rw[Av,hl]⟩
theorem eO.x {f:Rat→Rat} (hf:eO f):eO fun t=>t*f t:=by
 obtain⟨l,hl⟩:=hf
 exact⟨0::l,fun t=>by show t*f t=_;rw[n9,hl];grind⟩
theorem eO.mul {f g:Rat→Rat} (hf:eO f) (hg:eO g):eO fun t=>f t*g t:=by
 obtain⟨l,hl⟩:=hf
 have:∀l:List Rat,eO fun t=>n9 l t*g t:=by
  intro l
  induction l with
  |nil=>exact⟨[],fun t=>by simp only[n9];grind⟩
  |cons a l ih=>
   obtain⟨m,hm⟩:=(hg.smul a).add ih.x
   exact⟨m,fun t=>by rw[←hm t];simp only[n9];grind⟩
 obtain⟨m,hm⟩:=this l
 exact⟨m,fun t=>by show f t*g t=_;rw[hl];exact hm t⟩
theorem eO.sub {f g:Rat→Rat} (hf:eO f) (hg:eO g):eO fun t=>f t - g t:=by
 obtain⟨m,hm⟩:=hf.add (hg.smul (-1))
 exact⟨m,fun t=>by rw[←hm t];grind⟩
theorem eO.sum {f:Nat→Rat→Rat}:∀n,(∀i,i<n→eO (f i))→eO fun t=>aH n fun i=>f i t
 |0,_=>⟨[],fun t=>by simp only[aH,n9]⟩
 |n+1,h=>(eO.sum n fun i hi=>h i aa).add (h n aa)
theorem eO.pow {f:Rat→Rat} (hf:eO f):∀n:Nat,eO fun t=>f t^n
 |0=>⟨[1],fun t=>by simp only[n9];grind⟩
 |n+1=>by
  obtain⟨m,hm⟩:=(eO.pow hf n).mul hf
  exact⟨m,fun t=>by show f t^(n+1)=_;rw[←hm t,Rat.pow_succ]⟩
theorem eO.bH {A:Rat→Mx}:∀n,(∀i k,eO fun t=>A t i k)→eO fun t=>bH n (A t)
 |0,_=>eO.const 1
 |n+1,h=>eO.sum (n+1) fun k _=>((h 0 k).smul (sg k)).mul (eO.bH (A:=fun t=>mn (A t) k) n fun _ _=>h _ _)
def qd (s:Rat):List Rat→List Rat
 |[]=>[]
 |_::l=>wR l ((qd s l).map (s*·))
theorem JX (s:Rat):∀(l:List Rat),(qd s l).length≤l.length - 1
 |[]=>by simp[qd]
 |a::l=>by
  rw[qd]
  refine Co _ _ _ (by simp) ?_
  rw[List.length_map];have:=JX s l;simp;omega
theorem Fz (s:Rat):∀(l:List Rat) (t:Rat),n9 l t - n9 l s=(t - s)*n9 (qd s l) t
 |[],t=>by simp only[n9,qd];grind
 |a::l,t=>by
  have:=Fz s l t
  rw[qd,wS,Av];simp only[n9];grind
theorem Cp:∀(d N:Nat) (l:List Rat),l.length≤d→(∀n:Nat,N≤n→n9 l n=0)→∀t,n9 l t=0
 |0,_,l,hl,_,t=>by
  obtain rfl:l=[]:=List.eq_nil_of_length_eq_zero aa
  rfl
 |d+1,N,l,hl,h,t=>by
  have h1:=Fz (N:Rat) l
  rw[h N (Nat.le_refl _)]at h1
  have h2:=Cp d (N+1) (qd N l) (by have:=JX (N:Rat) l;omega) fun n hn=>by
   have:=h1 n
   rw[h n aa]at this
   have b6:(n:Rat) - N≠0:=by
    intro e
    have:(n:Rat)=N:=by grind
    have:=Rat.natCast_inj.1 this
    omega
   have h0:((n:Rat) - N)*n9 (qd N l) n=0:=by rw[←this];grind
   rcases Rat.mul_eq_zero.1 h0 with g|g
   ·exact absurd g b6
   ·exact g
  have:=h1 t
  rw[h2 t]at this
  grind
theorem eO.zero {f:Rat→Rat} (hf:eO f) (N:Nat) (h:∀n:Nat,N≤n→f n=0) (t:Rat):f t=0:=by
 obtain⟨l,hl⟩:=hf
 rw[hl];exact Cp _ N l (Nat.le_refl _) (fun n hn=>by rw[←hl];exact h n hn) t
theorem eO.rL {f h:Rat→Rat} (hf:eO f) (hh:eO h) (h0:h 0≠0) (H:∀s,h s≠0→f s=0) (t:Rat):f t=0:=by
 have key:∀l:List Rat,(∀t,n9 l t*h t=0)→∀t,n9 l t=0:=by
  intro l
  induction l with
  |nil=>intro _ t;rfl
  |cons a l ih=>
   intro hz t
   have h1:=hz 0
   simp only[n9]at h1
   have ha:a=0:=by
    rcases Rat.mul_eq_zero.1 h1 with g|g
    ·grind
    ·exact absurd g h0
   have hp:eO fun t=>n9 l t*h t:=eO.mul ⟨l,fun _=>rfl⟩ hh
   have h2:=ih fun t=>hp.zero 1 (fun n hn=>by
    have h3:=hz n
    simp only[n9]at h3
    rw[ha]at h3
    have h4:(n:Rat)*(n9 l n*h n)=0:=by grind
    rcases Rat.mul_eq_zero.1 h4 with g|g
    ·have:=Rat.natCast_inj.1 (show(n:Rat)=(0:Nat) by rw[g];rfl)
     omega
    ·exact g) t
   simp only[n9];rw[ha,h2 t];grind
 obtain⟨l,hl⟩:=hf
 rw[hl]
 refine key l (fun t=> ?_) t
 by_cases g:h t=0
 ·rw[g];grind
 ·rw[←hl,H t g];grind
def xW (A:Mx) (s:Rat):Mx:=fun i k=>s*A i k+(1 - s)*delta i k
theorem gh (A:Mx) (i k:Nat):eO fun s=>xW A s i k:=(eO.id.mul (eO.const _)).add (((eO.const 1).sub eO.id).mul (eO.const _))
theorem JY (A:Mx):xW A 1=A:=by funext i k;unfold xW;grind
theorem G3 (A:Mx):xW A 0=delta:=by funext i k;unfold xW;grind
theorem generic (s:Nat) (A:Mx) (f:Mx→Rat) (hp:eO fun t=>f (xW A t)) (h:∀B,bH s B≠0→f B=0):f A=0:=by
 have:=hp.rL (h:=fun t=>bH s (xW A t)) (eO.bH s (gh A)) (by show bH s (xW A 0)≠0;rw[G3,oK];decide) (fun t ht=>h _ ht) 1
 rwa [JY]at this
theorem Alt.q9 {n:Nat} {F:Mx→Rat} (hF:Alt n F) (A:Mx) {i:Nat} (c:Nat→Rat) (hi:i<n):∀m,m≤i→F (setRow A i fun k=>A i k+aH m fun p=>c p*A p k)=F A
 |0,_=>by
  simp only[aH]
  rw[show(fun k=>A i k+0)=A i from by funext k;grind,setRow_self]
 |m+1,h=>by
  have h1:=hF.Ei (i:=i) (j:=m) (setRow A i fun k=>A i k+aH m fun p=>c p*A p k) (c m) hi aa aa
  rw[aU,Eg,aV _ _ aa,Alt.q9 hF A c hi m aa]at h1
  rw[←h1]
  congr 2
  funext k
  simp only[aH];grind
theorem Cq {n:Nat} {A:Mx} (h:∀k,k<n→A n k=0):bH (n+1) A=A n n*bH n A:=by
 rw[u7 n A (r:=n) aa,hO (j:=n) (n+1) aa fun k hk b6=>by rw[h k aa];grind,wN,Fx]
 rw[aO (A:=rK A n n) (B:=A) fun i j hi hj=>by unfold rK;rw[kr hi,kr hj]]
 grind
theorem G4 {n:Nat} {A:Mx} (h:∀k,k<n→A (n+1) k=0):bH (n+2) A=A (n+1) (n+1)*bH (n+1) A - A (n+1) n*bH (n+1) (fun i j=>A i (if j<n then j else n+1)):=by
 rw[u7 (n+1) A (r:=n+1) aa,aH,aH,c6 fun k hk=>by rw[h k hk];grind]
 rw[aO (A:=rK A (n+1) n) (B:=fun i j=>A i (if j<n then j else n+1)) fun i j hi hj=>by
  unfold rK;rw[kr hi]
  by_cases g:j<n
  ·rw[kr g,if_pos g]
  ·rw[pD aa,if_neg g,show j=n by omega]]
 rw[aO (A:=rK A (n+1) (n+1)) (B:=A) fun i j hi hj=>by unfold rK;rw[kr hi,kr hj]]
 rw[show n+1+n=(n+n)+1 by omega,sg,wN,Fx,wN,Fx]
 grind
def ff (s i a:Nat):Nat:=if a<s then a else s+i
def bm (s:Nat) (A:Mx) (i k:Nat):Rat:=bH (s+1) fun a b=>A (ff s i a) (ff s k b)
theorem acf (s:Nat) (A:Mx) (i k:Nat):bm s (tr A) i k=bm s A k i:=by
 unfold bm;rw[←kE];rfl
theorem NM (A:Mx) (i k:Nat):bm 0 A i k=A i k:=by
 unfold bm ff
 rw[cK,aH,aH,bH,sg]
 simp only[Nat.not_lt_zero,if_false,Nat.zero_add];grind
theorem Cr (s:Nat) (A:Mx):bm s A 0 0=bH (s+1) A:=aO fun a b ha hb=>by
 have e:∀x,x<s+1→ff s 0 x=x:=fun x hx=>by unfold ff;split<;>omega
 rw[e a ha,e b hb]
section
variable {s:Nat} {A:Mx} (hd:bH s A≠0)
include hd
def xs (s:Nat) (A:Mx) (r:Nat→Rat) (p:Nat):Rat:=aH s fun q=>r q*(dU s A q p*(bH s A)⁻¹)
theorem Aw (r:Nat→Rat) {b:Nat} (hb:b<s):aH s (fun p=>xs s A r p*A p b)=r b:=by
 have e1:aH s (fun p=>xs s A r p*A p b)=aH s fun p=>aH s fun q=>r q*(dU s A q p*(bH s A)⁻¹)*A p b:=
  ao s fun p _=>by rw[xs,gZ]
 have e2:∀q,q<s→aH s (fun p=>r q*(dU s A q p*(bH s A)⁻¹)*A p b)=r q*delta q b:=fun q hq=>by
  have h1:=lv A hq hb
  unfold pr at h1
  rw[ao s (g:=fun p=>(r q*(bH s A)⁻¹)*(dU s A q p*A p b)) fun p _=>by grind,←bC,h1,delta]
  split
  ·have:=Rat.mul_inv_cancel _ hd;grind
  ·grind
 rw[e1,fA,ao s e2,gA,if_pos hb]
def Ic (s:Nat) (A:Mx) (i k:Nat):Rat:=A (s+i) (s+k) - aH s fun p=>xs s A (A (s+i)) p*A p (s+k)
theorem oa (i k:Nat):bm s A i k=bH s A*Ic s A i k:=by
 have h:=(eb (s+1)).q9 (fun a b=>A (ff s i a) (ff s k b)) (i:=s) (fun p=> - xs s A (A (s+i)) p) aa s (Nat.le_refl _)
 rw[bm,←h]
 have e:∀b,(A (ff s i s) (ff s k b)+aH s fun p=> - xs s A (A (s+i)) p*A (ff s i p) (ff s k b))=A (s+i) (ff s k b) - aH s fun p=>xs s A (A (s+i)) p*A p (ff s k b):=fun b=>by
  rw[ff,if_neg aa,ao s (g:=fun p=>(-1)*(xs s A (A (s+i)) p*A p (ff s k b))) fun p hp=>by rw[ff,if_pos hp];grind,←bC]
  grind
 rw[Cq fun b hb=>by rw[aU,e];rw[show ff s k b=b from if_pos hb,Aw hd _ hb];grind]
 rw[aU,e,show ff s k s=s+k from if_neg aa,aO (A:=setRow _ s _) (B:=A) fun a b ha hb=>by
  rw[aV _ _ aa,show ff s i a=a from if_pos ha,show ff s k b=b from if_pos hb]]
 unfold Ic;grind
theorem NN (i k:Nat):bm (s+1) A i k=bH s A*(Ic s A 0 0*Ic s A (i+1) (k+1) - Ic s A (i+1) 0*Ic s A 0 (k+1)):=by
 have h:=(eb (s+2)).q9 (fun a b=>A (ff (s+1) i a) (ff (s+1) k b)) (i:=s+1) (fun p=> - xs s A (A (s+(i+1))) p) aa s aa
 rw[bm,←h]
 have ea:∀p,p<s→ff (s+1) i p=p:=fun p hp=>if_pos aa
 have e:∀b,(A (ff (s+1) i (s+1)) (ff (s+1) k b)+aH s fun p=> - xs s A (A (s+(i+1))) p*A (ff (s+1) i p) (ff (s+1) k b))=A (s+(i+1)) (ff (s+1) k b) - aH s fun p=>xs s A (A (s+(i+1))) p*A p (ff (s+1) k b):=fun b=>by
  rw[show ff (s+1) i (s+1)=s+(i+1)from by unfold ff;rw[if_neg aa];omega,ao s (g:=fun p=>(-1)*(xs s A (A (s+(i+1))) p*A p (ff (s+1) k b))) fun p hp=>by rw[ea p hp];grind,←bC]
  grind
 rw[G4 fun b hb=>by rw[aU,e,show ff (s+1) k b=b from if_pos aa,Aw hd _ hb];grind]
 have e1:bH (s+1) (setRow (fun a b=>A (ff (s+1) i a) (ff (s+1) k b)) (s+1) fun b=>A (ff (s+1) i (s+1)) (ff (s+1) k b)+aH s fun p=> - xs s A (A (s+(i+1))) p*A (ff (s+1) i p) (ff (s+1) k b))=bm s A 0 0:=by
  rw[Cr]
  exact aO fun a b ha hb=>by rw[aV _ _ aa,show ff (s+1) i a=a from if_pos aa,show ff (s+1) k b=b from if_pos aa]
 have e2:bH (s+1) (fun a b=>setRow (fun a b=>A (ff (s+1) i a) (ff (s+1) k b)) (s+1) (fun b=>A (ff (s+1) i (s+1)) (ff (s+1) k b)+aH s fun p=> - xs s A (A (s+(i+1))) p*A (ff (s+1) i p) (ff (s+1) k b)) a (if b<s then b else s+1))=bm s A 0 (k+1):=by
  refine aO fun a b ha hb=> ?_
  show setRow _ (s+1) _ a (if b<s then b else s+1)=_
  rw[aV _ _ aa]
  show A (ff (s+1) i a) (ff (s+1) k (if b<s then b else s+1))=A (ff s 0 a) (ff s (k+1) b)
  rw[show ff (s+1) i a=a from if_pos aa,show ff s 0 a=a from by unfold ff;split<;>omega]
  congr 1
  unfold ff
  by_cases g:b<s
  ·rw[if_pos g,if_pos aa,if_pos g]
  ·rw[if_neg g,if_neg aa,if_neg g];omega
 rw[e1,e2,aU,e,e,show ff (s+1) k (s+1)=s+(k+1)from by unfold ff;rw[if_neg aa];omega,show ff (s+1) k s=s+0 from if_pos aa,oa hd,oa hd]
 have f1:(A (s+(i+1)) (s+(k+1)) - aH s fun p=>xs s A (A (s+(i+1))) p*A p (s+(k+1)))=Ic s A (i+1) (k+1):=rfl
 have f2:(A (s+(i+1)) (s+0) - aH s fun p=>xs s A (A (s+(i+1))) p*A p (s+0))=Ic s A (i+1) 0:=rfl
 rw[f1,f2];grind
end
theorem NO (s:Nat) (A:Mx) (i k:Nat):bm s A 0 0*bm s A (i+1) (k+1) - bm s A (i+1) 0*bm s A 0 (k+1)=bH s A*bm (s+1) A i k:=by
 have hb:∀s i k,eO fun t=>bm s (xW A t) i k:=fun s i k=>eO.bH (s+1) fun a b=>gh A _ _
 have:=generic s A (fun A=>bm s A 0 0*bm s A (i+1) (k+1) - bm s A (i+1) 0*bm s A 0 (k+1) - bH s A*bm (s+1) A i k)
  ((((hb _ _ _).mul (hb _ _ _)).sub ((hb _ _ _).mul (hb _ _ _))).sub ((eO.bH s (gh A)).mul (hb _ _ _))) fun B hB=>by
   rw[oa hB,oa hB,oa hB,oa hB,NN hB];grind
 grind
theorem NP {s n:Nat} {A:Mx} (hd:bH s A≠0) (hs:s<n) (h:∀i,s+i<n→bm s A i 0=0):bH n A=0:=by
 have Io:bH s (tr A)≠0:=by rwa [kE]
 rw[←kE,←(eb n).q9 (tr A) (i:=s) (fun p=> - xs s (tr A) (tr A s) p) hs s (Nat.le_refl _)]
 have e:∀b,b<n→(fun k=>tr A s k+aH s fun p=> - xs s (tr A) (tr A s) p*tr A p k) b=(fun _=>0) b:=fun b hb=>by
  show tr A s b+(aH s fun p=> - xs s (tr A) (tr A s) p*tr A p b)=0
  rw[ao s (g:=fun p=>(-1)*(xs s (tr A) (tr A s) p*tr A p b)) fun p _=>by grind,←bC]
  by_cases g:b<s
  ·rw[Aw Io _ g];grind
  ·have h1:=h (b - s) aa
   rw[←acf,oa Io]at h1
   have h2:Ic s (tr A) 0 (b - s)=0:=by
    rcases Rat.mul_eq_zero.1 h1 with g|g
    ·exact absurd g Io
    ·exact g
   unfold Ic at h2
   rw[Nat.add_zero,show s+(b - s)=b by omega]at h2
   grind
 rw[(eb n).congr (setRow (tr A) s fun k=>tr A s k+aH s fun p=> - xs s (tr A) (tr A s) p*tr A p k) (setRow (tr A) s fun _=>0) fun i k _ hk=>by
  by_cases g:i=s
  ·subst g;rw[aU,aU];exact e k hk
  ·rw[aV _ _ g,aV _ _ g],(eb n).zero _ hs]
theorem G5 {s:Nat}:∀(m:Nat) {A:Mx},(∀i k,s≤i→k<s→A i k=0)→bH (s+m) A=bH s A*bH m fun i k=>A (s+i) (s+k):=by
 intro m A h
 let G:Mx→Mx:=fun S a b=>if a<s then A a b else if b<s then 0 else S (a - s) (b - s)
 have hG:Alt m fun S=>bH (s+m) (G S):={
  congr:=fun S S' hS=>aO fun a b ha hb=>by
   show G S a b=G S' a b
   simp only[G]
   by_cases g:a<s
   ·rw[if_pos g,if_pos g]
   ·rw[if_neg g,if_neg g]
    by_cases g2:b<s
    ·rw[if_pos g2,if_pos g2]
    ·rw[if_neg g2,if_neg g2];exact hS _ _ aa aa
  Mw:=fun S i x c y hi=>by
   have e:∀z,G (setRow S i z)=setRow (G S) (s+i) fun b=>if b<s then 0 else z (b - s):=fun z=>by
    funext a b
    by_cases g:a=s+i
    ·subst g
     rw[aU];simp only[G]
     rw[if_neg aa,show s+i - s=i by omega,aU]
    ·rw[aV _ _ g];simp only[G]
     by_cases g1:a<s
     ·rw[if_pos g1,if_pos g1]
     ·rw[if_neg g1,if_neg g1,aV _ _ aa]
   show bH _ _=bH _ _+c*bH _ _
   rw[e,e,e,←uZ _ _ _ _ _ _ aa]
   congr 2
   funext b
   split<;>grind
  alt:=fun S i hi hS=>qZ _ _ (s+i) aa fun b hb=>by
   simp only[G]
   rw[if_neg (show ¬s+i<s by omega),if_neg (show ¬s+i+1<s by omega)]
   by_cases g:b<s
   ·rw[if_pos g,if_pos g]
   ·rw[if_neg g,if_neg g,show s+i - s=i by omega,show s+i+1 - s=i+1 by omega];exact hS _ aa}
 have h1:=kB m _ hG fun i k=>A (s+i) (s+k)
 have h2:∀m,bH (s+m) (fun a b=>if a<s then A a b else if b<s then 0 else delta (a - s) (b - s))=bH s A:=by
  intro m
  induction m with
  |zero=>exact aO fun a b ha _=>by rw[if_pos aa]
  |succ m ih=>
   rw[show s+(m+1)=s+m+1 from rfl,Cq fun k hk=>by
    rw[if_neg aa]
    by_cases g:k<s
    ·rw[if_pos g]
    ·rw[if_neg g,delta,if_neg aa],ih,if_neg aa,if_neg aa,delta,if_pos rfl];grind
 have h3:bH (s+m) A=bH (s+m) (G fun i k=>A (s+i) (s+k)):=aO fun a b ha hb=>by
  simp only[G]
  by_cases g:a<s
  ·rw[if_pos g]
  ·rw[if_neg g]
   by_cases g2:b<s
   ·rw[if_pos g2,h a b aa g2]
   ·rw[if_neg g2,show s+(a - s)=a by omega,show s+(b - s)=b by omega]
 rw[h3]
 refine h1.trans ?_
 show bH (s+m) (fun a b=>if a<s then A a b else if b<s then 0 else delta (a - s) (b - s))*_=_
 rw[h2 m]
theorem G6 {s:Nat} {A:Mx} (hd:bH s A≠0) (m:Nat):bH (s+m) A=bH s A*bH m (Ic s A):=by
 have h:∀j,j≤m→bH (s+m) A=bH (s+m) fun a b=>if s≤a∧a<s+j then A a b - aH s (fun p=>xs s A (A a) p*A p b)else A a b:=by
  intro j
  induction j with
  |zero=>intro _;exact aO fun a b _ _=>by rw[if_neg aa]
  |succ j ih=>
   intro hj
   rw[ih aa,←(eb (s+m)).q9 (i:=s+j) (fun a b=>if s≤a∧a<s+j then A a b - aH s (fun p=>xs s A (A a) p*A p b)else A a b) (fun p=> - xs s A (A (s+j)) p) aa s aa]
   refine aO fun a b _ _=> ?_
   by_cases g:a=s+j
   ·subst g
    rw[aU,if_neg aa,if_pos aa,ao s (g:=fun p=>(-1)*(xs s A (A (s+j)) p*A p b)) fun p hp=>by rw[if_neg aa];grind,←bC]
    grind
   ·rw[aV _ _ g]
    by_cases g2:s≤a∧a<s+j
    ·rw[if_pos g2,if_pos aa]
    ·rw[if_neg g2,if_neg aa]
 rw[h m (Nat.le_refl _),aO (B:=fun a b=>if s≤a then A a b - aH s (fun p=>xs s A (A a) p*A p b)else A a b) fun a b ha _=>by
  by_cases g:s≤a
  ·rw[if_pos ⟨g,ha⟩,if_pos g]
  ·rw[if_neg aa,if_neg g]]
 rw[G5 m fun i k hi hk=>by rw[if_pos hi,Aw hd _ hk];grind]
 rw[aO (n:=s) (B:=A) fun a b ha _=>by rw[if_neg aa]]
 congr 1
 exact aO fun i k _ _=>by rw[if_pos aa];rfl
theorem JZ (c:Rat) (A:Mx):∀n,bH n (fun i k=>c*A i k)=c^n*bH n A:=by
 intro n
 have h:∀j,j≤n→bH n (fun i k=>if i<j then c*A i k else A i k)=c^j*bH n A:=by
  intro j
  induction j with
  |zero=>intro _;rw[aO (B:=A) fun i k _ _=>if_neg aa];grind
  |succ j ih=>
   intro hj
   have e:(fun i k=>if i<j+1 then c*A i k else A i k)=setRow (fun i k=>if i<j then c*A i k else A i k) j fun k=>c*A j k:=by
    funext i k
    by_cases g:i=j
    ·subst g;rw[aU,if_pos aa]
    ·rw[aV _ _ g]
     by_cases g2:i<j
     ·rw[if_pos g2,if_pos aa]
     ·rw[if_neg g2,if_neg aa]
   have e2:setRow (fun i k=>if i<j then c*A i k else A i k) j (A j)=fun i k=>if i<j then c*A i k else A i k:=by
    funext i k
    by_cases g:i=j
    ·subst g;rw[aU,if_neg aa]
    ·rw[aV _ _ g]
   rw[e,(eb n).smul _ _ _ aa,e2,ih aa,Rat.pow_succ];grind
 rw[←h n (Nat.le_refl _)]
 exact aO fun i k hi _=>(if_pos hi).symm
theorem G7 (s m:Nat) (A:Mx):bH (m+1) (bm s A)=bH (s+(m+1)) A*bH s A^m:=by
 have hb:∀i k,eO fun t=>bm s (xW A t) i k:=fun i k=>eO.bH (s+1) fun a b=>gh A _ _
 have:=generic s A (fun A=>bH (m+1) (bm s A) - bH (s+(m+1)) A*bH s A^m)
  ((eO.bH (m+1) hb).sub ((eO.bH _ (gh A)).mul ((eO.bH s (gh A)).pow m))) fun B hB=>by
   rw[G6 hB,aO (A:=bm s B) (B:=fun i k=>bH s B*Ic s B i k) fun i k _ _=>oa hB i k,JZ,Rat.pow_succ];grind
 grind
theorem oc (n:Nat) (A B C:Mx) (i k:Nat):pr n (pr n A B) C i k=pr n A (pr n B C) i k:=by
 unfold pr
 rw[ao n (f:=fun p=>(aH n fun q=>A i q*B q p)*C p k) (g:=fun p=>aH n fun q=>A i q*B q p*C p k) fun p _=>gZ _ n,fA]
 exact ao n fun q _=>by rw[bC];exact ao n fun p _=>by grind
theorem Ej {n:Nat} {A B:Mx} (hA:bH n A≠0) (hB:bH n B≠0) {i k:Nat} (hi:i<n) (hk:k<n):dU n (pr n A B) i k=pr n (dU n B) (dU n A) i k:=by
 have hP:bH n (pr n A B)≠0:=by rw[q8];intro h;rcases Rat.mul_eq_zero.1 h with g|g;exact hA g;exact hB g
 have aeC:∀{X Y Z:Mx} {i k},(∀p,p<n→X i p=Y i p)→pr n X Z i k=pr n Y Z i k:=fun h=>ao n fun p hp=>by rw[h p hp]
 have YC:∀{X Y Z:Mx} {i k},(∀p,p<n→X p k=Y p k)→pr n Z X i k=pr n Z Y i k:=fun h=>ao n fun p hp=>by rw[h p hp]
 have h1:∀{i p},i<n→p<n→pr n (pr n (dU n B) (dU n A)) (pr n A B) i p=if i=p then bH n A*bH n B else 0:=by
  intro i p hi hp
  rw[oc,YC (Y:=fun q k=>bH n A*B q k) fun q hq=>by
   rw[←oc]
   show aH n (fun r=>pr n (dU n A) A q r*B r p)=_
   rw[ao n (g:=fun r=>bH n A*(delta q r*B r p)) fun r hr=>by rw[lv A hq hr,delta];split<;>grind,←bC,dh,if_pos hq]]
  show aH n (fun q=>dU n B i q*(bH n A*B q p))=_
  rw[ao n (g:=fun q=>bH n A*(dU n B i q*B q p)) fun q _=>by grind,←bC]
  have:=lv B hi hp
  unfold pr at this
  rw[this];split<;>grind
 have h2:pr n (pr n (pr n (dU n B) (dU n A)) (pr n A B)) (dU n (pr n A B)) i k=bH n A*bH n B*dU n (pr n A B) i k:=by
  show aH n (fun p=>pr n (pr n (dU n B) (dU n A)) (pr n A B) i p*dU n (pr n A B) p k)=_
  rw[ao n (g:=fun p=>bH n A*bH n B*(delta i p*dU n (pr n A B) p k)) fun p hp=>by rw[h1 hi hp,delta];split<;>grind,←bC,dh,if_pos hi]
 rw[oc]at h2
 have h3:pr n (pr n (dU n B) (dU n A)) (pr n (pr n A B) (dU n (pr n A B))) i k=bH n (pr n A B)*pr n (dU n B) (dU n A) i k:=by
  show aH n (fun p=>pr n (dU n B) (dU n A) i p*pr n (pr n A B) (dU n (pr n A B)) p k)=_
  rw[ao n (g:=fun p=>bH n (pr n A B)*(pr n (dU n B) (dU n A) i p*delta p k)) fun p hp=>by rw[Au _ hp hk,delta];split<;>grind,←bC,gA,if_pos hk]
 rw[h3,q8]at h2
 have b6:bH n A*bH n B≠0:=by rwa [q8]at hP
 have h4:bH n A*bH n B*(dU n (pr n A B) i k - pr n (dU n B) (dU n A) i k)=0:=by grind
 rcases Rat.mul_eq_zero.1 h4 with g|g
 ·exact absurd g b6
 ·grind
theorem eO.dU {A:Rat→Mx} (n:Nat) (h:∀i k,eO fun t=>A t i k) (i k:Nat):eO fun t=>dU n (A t) i k:=(eO.bH (A:=fun t=>rK (A t) k i) (n - 1) fun _ _=>h _ _).smul (sg (i+k))
theorem YD {n:Nat} (A B:Mx) {i k:Nat} (hi:i<n) (hk:k<n):dU n (pr n A B) i k=pr n (dU n B) (dU n A) i k:=by
 have YE:∀{X Y:Rat→Mx},(∀i k,eO fun t=>X t i k)→(∀i k,eO fun t=>Y t i k)→∀i k,eO fun t=>pr n (X t) (Y t) i k:=fun hX hY i k=>eO.sum n fun p _=>(hX _ _).mul (hY _ _)
 have h1:∀A B,bH n A≠0→dU n (pr n A B) i k - pr n (dU n B) (dU n A) i k=0:=fun A B hA=>
  generic n B (fun B=>dU n (pr n A B) i k - pr n (dU n B) (dU n A) i k)
   ((eO.dU n (fun i k=>YE (X:=fun _=>A) (fun i k=>eO.const (A i k)) (gh B) i k) i k).sub (YE (Y:=fun _=>dU n A) (fun i k=>eO.dU n (gh B) i k) (fun i k=>eO.const (dU n A i k)) i k))
   fun B' hB=>by rw[Ej hA hB hi hk];grind
 have:=generic n A (fun A=>dU n (pr n A B) i k - pr n (dU n B) (dU n A) i k)
   ((eO.dU n (fun i k=>YE (Y:=fun _=>B) (gh A) (fun i k=>eO.const (B i k)) i k) i k).sub (YE (X:=fun _=>dU n B) (fun i k=>eO.const (dU n B i k)) (fun i k=>eO.dU n (gh A) i k) i k))
   fun A' hA=>h1 A' B hA
 grind
def turns (l:List Nat) (k:Nat):Nat:=l.countP fun u=>decide (k<u)
theorem eF (l:List Nat) (u k:Nat):turns (l++[u]) k=turns l k+if k<u then 1 else 0:=by
 simp[turns,List.countP_append,List.countP_cons]
def cL (n:Nat) (A:Mx):Nat→Nat→List Nat→Rat
 |0,_,_=>1
 |m+1,i,l=>aH n fun k=>if k∈l then 0 else sg (turns l k)*A i k*cL n A m (i+1) (l++[k])
theorem wT (n:Nat) (A:Mx):∀(m i:Nat) (l l':List Nat),(∀k,k∈l↔k∈l')→(∀k,turns l k=turns l' k)→cL n A m i l=cL n A m i l'
 |0,_,_,_,_,_=>rfl
 |m+1,i,l,l',h1,h2=>ao n fun k _=>by
  by_cases h:k∈l
  ·rw[if_pos h,if_pos ((h1 k).1 h)]
  ·rw[if_neg h,if_neg fun g=>h ((h1 k).2 g),h2,wT n A m (i+1) (l++[k]) (l'++[k]) (fun q=>by simp[h1 q]) (fun q=>by rw[eF,eF,h2])]
theorem od (n:Nat) {A B:Mx}:∀(m i:Nat) (l:List Nat),(∀a k,i≤a→a<i+m→k<n→A a k=B a k)→cL n A m i l=cL n B m i l
 |0,_,_,_=>rfl
 |m+1,i,l,h=>ao n fun k hk=>by
  rw[od n m (i+1) (l++[k]) fun a k ha hb hk=>h a k aa aa hk,h i k aa aa hk]
theorem yG (n:Nat) (A:Mx) (r:Nat) (x:Nat→Rat) (c:Rat) (y:Nat→Rat):∀(m i:Nat) (l:List Nat),i≤r→r<i+m→
  cL n (setRow A r fun k=>x k+c*y k) m i l=cL n (setRow A r x) m i l+c*cL n (setRow A r y) m i l
 |0,_,_,h1,h2=>aa
 |m+1,i,l,h1,h2=>by
  rw[cL,cL,cL,bC,←sum_add]
  refine ao n fun k _=> ?_
  by_cases hk:k∈l
  ·rw[if_pos hk,if_pos hk,if_pos hk];grind
  ·rw[if_neg hk,if_neg hk,if_neg hk]
   by_cases e:i=r
   ·subst e
    have e1:∀z,cL n (setRow A i z) m (i+1) (l++[k])=cL n A m (i+1) (l++[k]):=fun z=>od n m (i+1) _ fun a q ha _ _=>by rw[aV _ _ aa]
    rw[e1,e1,e1,aU,aU,aU];grind
   ·rw[aV _ _ e,aV _ _ e,aV _ _ e,yG n A r x c y m (i+1) _ aa aa];grind
theorem J0 (n:Nat) (T:Nat→Nat→Rat) (h:∀k l,k<n→l<n→T k l= - T l k):aH n (fun k=>aH n (T k))=0:=by
 have h1:aH n (fun k=>aH n (T k))=aH n fun k=>aH n fun l=>(-1)*T l k:=
  ao n fun k hk=>ao n fun l hl=>by rw[h k l hk hl];grind
 have h2:(aH n fun k=>aH n fun l=>(-1)*T l k)=aH n fun k=>(-1)*aH n fun l=>T l k:=
  ao n fun k _=>(bC _ _).symm
 have h3:(aH n fun k=>(-1)*aH n fun l=>T l k)=(-1)*aH n (fun k=>aH n (T k)):=by
  rw[←bC,←fA]
 rw[h2,h3]at h1
 grind
theorem yH (n:Nat) (A:Mx) (r:Nat) (h:∀k,k<n→A r k=A (r+1) k):∀(m i:Nat) (l:List Nat),i≤r→r+1<i+m→cL n A m i l=0
 |0,_,_,h1,h2=>aa
 |1,_,_,h1,h2=>aa
 |m+2,i,l,h1,h2=>by
  by_cases e:i=r
  ·subst e
   rw[cL]
   refine Eq.trans ?_ (J0 n (fun k q=>if k∈l then 0 else if q∈l++[k]then 0 else sg (turns l k)*A i k*(sg (turns (l++[k]) q)*A (i+1) q*cL n A m (i+1+1) (l++[k]++[q]))) ?_)
   ·refine ao n fun k _=> ?_
    by_cases hk:k∈l
    ·rw[if_pos hk,c6 fun q _=>if_pos hk]
    ·rw[if_neg hk,cL,bC]
     refine ao n fun q _=> ?_
     rw[if_neg hk]
     by_cases hq:q∈l++[k]
     ·rw[if_pos hq,if_pos hq];grind
     ·rw[if_neg hq,if_neg hq]
   ·intro k q hk hq
    by_cases h1:k∈l
    ·rw[if_pos h1]
     by_cases h2:q∈l
     ·rw[if_pos h2];grind
     ·rw[if_neg h2,if_pos (by simp[h1])];grind
    ·rw[if_neg h1]
     by_cases h2:q∈l
     ·rw[if_pos (by simp[h2]),if_pos h2];grind
     ·rw[if_neg h2]
      by_cases h3:q=k
      ·subst h3;rw[if_pos (by simp)];grind
      ·rw[if_neg (by simp[h2,h3]),if_neg (by simp[h1];exact fun g=>h3 g.symm)]
       rw[wT n A m (i+1+1) (l++[k]++[q]) (l++[q]++[k]) (fun p=>by simp;grind) (fun p=>by rw[eF,eF,eF,eF];omega)]
       rw[eF,eF,h k hk,←h q hq]
       rcases Nat.lt_or_gt_of_ne h3 with g|g
       ·rw[if_pos g,if_neg aa,sg];grind
       ·rw[if_neg aa,if_pos g];simp only[sg,Nat.add_zero];grind
  ·rw[cL]
   refine c6 fun k _=> ?_
   by_cases hk:k∈l
   ·rw[if_pos hk]
   ·rw[if_neg hk,yH n A r h (m+1) (i+1) _ aa aa];grind
theorem yI (n:Nat):∀(m i:Nat),i+m=n→cL n delta m i (List.range i)=1
 |0,_,_=>rfl
 |m+1,i,h=>by
  rw[cL,hO (j:=i) n aa fun k _ b6=>by
   split
   ·rfl
   ·rw[delta,if_neg (fun g=>b6 g.symm)];grind]
  rw[if_neg (by simp),←List.range_succ,yI n m (i+1) aa,delta,if_pos rfl]
  have:turns (List.range i) i=0:=by
   rw[turns,List.countP_eq_zero];intro u hu;have:=List.mem_range.1 hu;simp;omega
  rw[this,sg];grind
theorem oL (n:Nat) (A:Mx):cL n A n 0 []=bH n A:=by
 have h:Alt n fun A=>cL n A n 0 []:={
  congr:=fun A B h=>od n n 0 [] fun a k _ ha hk=>h a k aa hk
  Mw:=fun A i x c y hi=>yG n A i x c y n 0 [] aa aa
  alt:=fun A i hi h=>yH n A i h n 0 [] aa aa}
 rw[kB n _ h A]
 show cL n delta n 0 (List.range 0)*_=_
 rw[yI n n 0 aa];grind
def dG:Nat→(Nat→Rat)→Rat
 |0,_=>1
 |n+1,f=>dG n f*f n
theorem wU (f:Nat→Rat):∀n,dG (n+1) f=f 0*dG n (fun i=>f (i+1))
 |0=>by simp only[dG];grind
 |n+1=>by rw[dG,wU f n,dG];grind
theorem uo {f:Nat→Rat} (h:∀i,0≤f i):∀n,0≤dG n f
 |0=>by rw[dG];decide
 |n+1=>Rat.mul_nonneg (uo h n) (h n)
theorem yJ {f g:Nat→Rat} (h0:∀i,0≤f i):∀n,(∀i,i<n→f i≤g i)→dG n f≤dG n g
 |0,_=>Rat.le_refl
 |n+1,h=>by
  have h1:=yJ h0 n fun i hi=>h i aa
  have h2:=h n aa
  have h3:=uo h0 n
  have h4:=h0 n
  have a1:=Rat.mul_le_mul_of_nonneg_right h1 h4
  have a2:=Rat.mul_le_mul_of_nonneg_left h2 (Rat.le_trans h3 h1)
  exact Rat.le_trans a1 a2
theorem uq {f:Nat→Rat}:∀n,(∀i,i<n→0≤f i)→0≤aH n f
 |0,_=>Rat.le_refl
 |n+1,h=>by rw[aH];have:=uq n fun i hi=>h i aa;have:=h n aa;grind
def Bd (x b:Rat):Prop:= -b≤x∧x≤b
theorem Bd.Ek {x b:Rat} (h:Bd x b):0≤b:=by obtain⟨h1,h2⟩:=h;grind
theorem Bd.add {x y a b:Rat} (h:Bd x a) (k:Bd y b):Bd (x+y) (a+b):=by
 obtain⟨h1,h2⟩:=h;obtain⟨k1,k2⟩:=k;constructor<;>grind
theorem Bd.neg {x a:Rat} (h:Bd x a):Bd (-x) a:=by obtain⟨h1,h2⟩:=h;constructor<;>grind
theorem Bd.mono {x a b:Rat} (h:Bd x a) (hb:a≤b):Bd x b:=by obtain⟨h1,h2⟩:=h;constructor<;>grind
theorem Bd.mul {x y a b:Rat} (h:Bd x a) (k:Bd y b):Bd (x*y) (a*b):=by
 have ha:=h.Ek;have hb:=k.Ek
 obtain⟨h1,h2⟩:=h;obtain⟨k1,k2⟩:=k
 have p1:=Rat.mul_nonneg (show 0≤a - x by grind) (show 0≤b+y by grind)
 have p2:=Rat.mul_nonneg (show 0≤a+x by grind) (show 0≤b - y by grind)
 have p3:=Rat.mul_nonneg (show 0≤a - x by grind) (show 0≤b - y by grind)
 have p4:=Rat.mul_nonneg (show 0≤a+x by grind) (show 0≤b+y by grind)
 constructor<;>grind
theorem Bd.sg {x a:Rat} (h:Bd x a):∀n,Bd (sg n*x) a
 |0=>by rw[Go.Proofs.YtfpagioknjjacaaGreatDoor.sg,show(1:Rat)*x=x by grind];exact h
 |n+1=>by rw[Go.Proofs.YtfpagioknjjacaaGreatDoor.sg,show - Go.Proofs.YtfpagioknjjacaaGreatDoor.sg n*x= - (Go.Proofs.YtfpagioknjjacaaGreatDoor.sg n*x) by grind];exact(Bd.sg h n).neg
theorem Bd.sum {f r:Nat→Rat}:∀n,(∀i,i<n→Bd (f i) (r i))→Bd (aH n f) (aH n r)
 |0,_=>(show Bd 0 0 from⟨aF,aF⟩)
 |n+1,h=>(Bd.sum n fun i hi=>h i aa).add (h n aa)
theorem Cs {f:Nat→Rat} (h:∀i,0≤f i) (k:Nat):∀n,k<n+1→aH n (fun j=>f (sk k j))≤aH (n+1) f
 |0,_=>by simp only[aH];have:=h 0;grind
 |n+1,hk=>by
  rw[aH,aH]
  by_cases e:k=n+1
  ·subst e
   rw[kr aa,ao n (g:=f) fun j hj=>by rw[kr aa]]
   have:=h (n+1);rw[aH];grind
  ·have:=Cs h k n aa
   rw[pD aa];grind
theorem yK:∀(n:Nat) {A r:Mx},(∀i k,Bd (A i k) (r i k))→Bd (bH n A) (dG n fun i=>aH n (r i))
 |0,_,_,_=>(show Bd 1 1 from⟨aF,aF⟩)
 |n+1,A,r,h=>by
  have h0:∀i k,0≤r i k:=fun i k=>(h i k).Ek
  rw[cK,wU,gZ]
  refine Bd.sum (n+1) fun k hk=> ?_
  refine((h 0 k).sg k).mul ((yK n (A:=mn A k) (r:=fun i j=>r (i+1) (sk k j)) fun i j=>h _ _).mono ?_)
  exact yJ (fun i=>uq n fun _ _=>h0 _ _) n fun i _=>Cs (h0 (i+1)) k n hk
abbrev Mz:=Nat→Nat→Int
def ra (A:Mz):Mx:=fun i k=>(A i k:Rat)
def oe:Nat→(Nat→Int)→Int
 |0,_=>0
 |n+1,f=>oe n f+f n
theorem oM (f:Nat→Int):∀n,((oe n f:Int):Rat)=aH n fun i=>(f i:Rat)
 |0=>by simp[oe,aH]
 |n+1=>by rw[oe,aH,Rat.intCast_add,oM f n]
def G8:Nat→Int
 |0=>1
 |n+1=> - G8 n
theorem kF:∀n,((G8 n:Int):Rat)=sg n
 |0=>by simp[G8,sg]
 |n+1=>by rw[G8,sg,Rat.intCast_neg,kF n]
theorem jK:∀n,G8 n=if n % 2=1 then -1 else 1
 |0=>rfl
 |n+1=>by
  rw[G8,jK n]
  by_cases h:n % 2=1
  ·rw[if_pos h,if_neg aa];rfl
  ·rw[if_neg h,if_pos aa]
def bo:Nat→Mz→Int
 |0,_=>1
 |n+1,A=>oe (n+1) fun k=>G8 k*A 0 k*bo n fun i j=>A (i+1) (sk k j)
theorem bT:∀(n:Nat) (A:Mz),((bo n A:Int):Rat)=bH n (ra A)
 |0,_=>by simp[bo,bH]
 |n+1,A=>by
  rw[bo,cK,oM]
  refine ao _ fun k _=> ?_
  rw[Rat.intCast_mul,Rat.intCast_mul,kF,bT n];rfl
theorem cast_inj {a b:Int} (h:(a:Rat)=(b:Rat)):a=b:=Rat.intCast_inj.1 h
theorem kG {n:Nat} {A B:Mz} (h:∀i k,i<n→k<n→A i k=B i k):bo n A=bo n B:=by
 apply cast_inj
 rw[bT,bT]
 exact aO fun i k hi hk=>by unfold ra;rw[h i k hi hk]
def jL (s:Nat) (A:Mz) (i k:Nat):Int:=bo (s+1) fun a b=>A (ff s i a) (ff s k b)
theorem mc (s:Nat) (A:Mz) (i k:Nat):((jL s A i k:Int):Rat)=bm s (ra A) i k:=bT _ _
theorem wV (A:Mz) (i k:Nat):jL 0 A i k=A i k:=by
 apply cast_inj;rw[mc,NM];rfl
theorem iI (s:Nat) (A:Mz):jL s A 0 0=bo (s+1) A:=by
 apply cast_inj;rw[mc,Cr,bT]
theorem Ct (s:Nat) (A:Mz) (i k:Nat):jL s A 0 0*jL s A (i+1) (k+1) - jL s A (i+1) 0*jL s A 0 (k+1)=bo s A*jL (s+1) A i k:=by
 apply cast_inj
 have:=NO s (ra A) i k
 simp only[Rat.intCast_sub,Rat.intCast_mul,mc,bT];exact this
theorem FA {s:Nat} {A:Mz} (h:bo s A≠0) (i k:Nat):(jL s A 0 0*jL s A (i+1) (k+1) - jL s A (i+1) 0*jL s A 0 (k+1))/bo s A=jL (s+1) A i k:=by
 rw[Ct,Int.mul_ediv_cancel_left _ h]
theorem J1 {s n:Nat} {A:Mz} (hd:bo s A≠0) (hs:s<n) (h:∀i,s+i<n→jL s A i 0=0):bo n A=0:=by
 apply cast_inj
 rw[bT]
 refine NP (s:=s) ?_ hs fun i hi=> ?_
 ·rw[←bT];intro g;exact hd (cast_inj g)
 ·rw[←mc,h i hi];rfl
def eY (A:Mz) (i j:Nat):Mz:=fun p=>if p=i then A j else if p=j then A i else A p
theorem El (A:Mz) (i j:Nat):ra (eY A i j)=aR (ra A) i j:=by
 funext p q
 unfold ra eY aR
 by_cases h:p=i
 ·rw[if_pos h,if_pos h]
 ·rw[if_neg h,if_neg h]
  by_cases h2:p=j
  ·rw[if_pos h2,if_pos h2]
  ·rw[if_neg h2,if_neg h2]
theorem wW (A:Mz) (i:Nat):eY A i i=A:=by
 funext p;unfold eY
 by_cases h:p=i
 ·rw[if_pos h,h]
 ·rw[if_neg h,if_neg h]
theorem G9 {n:Nat} (A:Mz) {i j:Nat} (hi:i<n) (hj:j<n) (b6:i≠j):bo n (eY A i j)= - bo n A:=by
 apply cast_inj
 rw[bT,El,(eb n).swap _ hi hj b6,Rat.intCast_neg,bT]
theorem J2 (s:Nat) (A:Mz) (j p q:Nat):jL s (eY A s (s+j)) p q=eY (jL s A) 0 j p q:=by
 have e:∀p r,(∀a,a<s+1→eY A s (s+j) (ff s p a)=A (ff s r a))→jL s (eY A s (s+j)) p q=jL s A r q:=fun p r h=>kG fun a b ha _=>by rw[h a ha]
 unfold eY at e ⊢
 by_cases h:p=0
 ·subst h
  rw[if_pos rfl]
  refine e 0 j fun a ha=> ?_
  unfold ff
  by_cases g:a<s
  ·rw[if_pos g,if_pos g,if_neg aa,if_neg aa]
  ·rw[if_neg g,if_neg g,if_pos (Nat.add_zero s)]
 ·rw[if_neg h]
  by_cases h2:p=j
  ·subst h2
   rw[if_pos rfl]
   refine e p 0 fun a ha=> ?_
   unfold ff
   by_cases g:a<s
   ·rw[if_pos g,if_pos g,if_neg aa,if_neg aa]
   ·rw[if_neg g,if_neg g,if_neg aa,if_pos rfl,Nat.add_zero]
  ·rw[if_neg h2]
   refine e p p fun a ha=> ?_
   unfold ff
   by_cases g:a<s
   ·rw[if_pos g,if_neg aa,if_neg aa]
   ·rw[if_neg g,if_neg aa,if_neg aa]
theorem wX (s:Nat) (A:Mz) (j:Nat):bo s (eY A s (s+j))=bo s A:=kG fun i k hi _=>by
 unfold eY;rw[if_neg aa,if_neg aa]
section
open Go.Shelf Go.RowKit Go.Sort Go.Lib
set_option maxHeartbeats 6400000 in
set_option maxRecDepth 100000 in
theorem NQ (u:Nat) (hu:100≤u) (hu64:u<18446744073709551616) (w:World) (htab:Lib.TabIs Tryz.prog w "internal/strconv.uint64pow10" .u64 Lib.pow10Tab):
  Calls Tryz.prog 350 #[.int .u64 u,.int .i64 10] w fun e w'=>e= .returned (.string ⟨(Lib.decDigits u).toArray⟩)∧∃k os,w'=grow (w.drewN k) os:=by
 have mixed:Tryz.prog.follows .mixedOrders=true:=aB
 have t3:=Tryz.underlying3;have a3:=Tryz.isAgg3;have z3:=Tryz.sizeOf3;have v3:=Tryz.zeroValue3
 have t9:=Tryz.underlying9;have a9:=Tryz.isAgg9;have z9:=Tryz.sizeOf9;have v9:=Tryz.zeroValue9
 have t4:=Tryz.underlying4;have a4:=Tryz.isAgg4;have z4:=Tryz.sizeOf4;have v4:=Tryz.zeroValue4
 have t53:=Tryz.underlying44;have a53:=Tryz.isAgg44;have z53:=Tryz.sizeOf44;have v53:=Tryz.zeroValue44
 have t5:=Tryz.underlying5;have a5:=Tryz.isAgg5;have z5:=Tryz.sizeOf5;have v5:=Tryz.zeroValue5
 have t37:=Tryz.underlying61;have a37:=Tryz.isAgg61;have z37:=Tryz.sizeOf61;have v37:=Tryz.zeroValue61
 have t171:=Tryz.underlying403;have a171:=Tryz.isAgg403;have z171:=Tryz.sizeOf403;have v171:=Tryz.zeroValue403
 have t0:=Tryz.underlying0;have a0:=Tryz.isAgg0;have z0:=Tryz.sizeOf0;have v0:=Tryz.zeroValue0
 have ahb:∀args w,(callFunc 366 args).run Tryz.prog w= .ok (.enter 366 args) w:=enters_of Tryz.func366 aB rfl
 have ahc:∀args w,(callFunc 367 args).run Tryz.prog w= .ok (.enter 367 args) w:=enters_of Tryz.func367 aB rfl
 have hu1:1≤u:=aa
 have afU:Lib.nDigits u≤20:=by have:=Lib.numDigits_eq u hu1 hu64;split at this<;>omega
 have H8:Tryz.prog.arrayLen 403=24:=by simp[Program.arrayLen,t171]
 have hsl:∀W,(Instr.sliceAt 403 (.pointer (some ⟨w.heap.size,0,none⟩)) none (some (.int .i64 (Lib.nDigits u:Int))) none).run Tryz.prog W= .ok (.slice (some ⟨w.heap.size,0,none⟩) (Lib.nDigits u) 24) W:=fun W=>by
  rw[run_sliceAt_array_h W 403 ⟨w.heap.size,0,none⟩ (by simp[Program.arrayLen,Program.elem,t171]) .i64 (Lib.nDigits u:Int) aa (by rw[H8];omega)]
  go_simp
 have hH0:=Lib.holds_zero0 w 403 (Lib.nDigits u) aa
 have acg:=Tryz.internal_strconv_formatBase10 w.heap.size 0 24 u (Array.replicate (Lib.nDigits u) 0) (w.alloc (.cells Lib.zeros24 403)) hH0 (by rw[Array.size_replicate];exact Lib.lt_pow_nDigits u) hu64 (by rw[Array.size_replicate];omega)
 rw[Array.size_replicate]at acg
 have HH0:=Lib.hid hH0
 have iu:¬(u:Int)<100:=aa
 clear hH0 H8
 go_enter Tryz.func350,Tryz.ntmps350
 go_wp2_with (first
  |(go_at_fn 366;refine(Tryz.internal_strconv_numDigits u hu1 hu64 _ (Lib.tabIs_alloc htab _)).mono ?_;rintro e w' ⟨rfl,rfl⟩))
 go_at_fn 367
 refine acg.mono ?_
 rintro e w' ⟨rfl,k,v',dk,rfl,hF⟩
 have hcv:(convert 61 9 (.slice (some ⟨w.heap.size,0,none⟩) (Lib.nDigits u) 24)).run Tryz.prog ((putRow (fun(b:UInt8)=>Value.int .u8 (b.toNat:Int)) (w.alloc (.cells Lib.zeros24 403)) w.heap.size 0 dk).drewN k)= .ok (.string ⟨(Lib.decDigits u).toArray⟩) ((putRow (fun(b:UInt8)=>Value.int .u8 (b.toNat:Int)) (w.alloc (.cells Lib.zeros24 403)) w.heap.size 0 dk).drewN k):=by
  have h:=run_convert_bytes_back (P:=Tryz.prog) ((putRow (fun(b:UInt8)=>Value.int .u8 (b.toNat:Int)) (w.alloc (.cells Lib.zeros24 403)) w.heap.size 0 dk).drewN k) 61 9 5 ⟨w.heap.size,0,none⟩ 24 (Lib.decDigits u) t37 t5 t9 (fun j hj=>by
   rw[Lib.row_is_numeral hF j hj,Lib.add_plain,World.cell?_drewN]
   exact cell?_putRow (fun(b:UInt8)=>Value.int .u8 (b.toNat:Int)) _ w.heap.size 0 _ dk HH0.out (by rw[hF.size,Array.size_replicate]) j (by rw[hF.size];rw[Lib.decDigits_length]at hj;exact hj))
  rw[Lib.decDigits_length]at h
  exact h
 go_wp2
 go_ret
 obtain⟨os,eo⟩:=Lib.fin_at w (.cells Lib.zeros24 403) dk k 0
 exact⟨rfl,k,os,eo⟩
end
def ij:Nat→Nat→List UInt8
 |0,_=>[]
 |k+1,r=>ij k (r/10)++[UInt8.ofNat (48+r % 10)]
theorem u9 {n:Nat} (h:10≤n):Lib.decDigits n=Lib.decDigits (n/10)++[UInt8.ofNat (48+n % 10)]:=by rw[Lib.decDigits,dif_neg aa]
theorem dec_lt {n:Nat} (h:n<10):Lib.decDigits n=[UInt8.ofNat (48+n)]:=by rw[Lib.decDigits,dif_pos h]
theorem yL:∀k q r,0<q→r<10^k→Lib.decDigits (q*10^k+r)=Lib.decDigits q++ij k r
 |0,q,r,hq,hr=>by
  obtain rfl:r=0:=by simp at hr;exact hr
  simp[ij]
 |k+1,q,r,hq,hr=>by
  have hp:0<10^k:=Nat.pow_pos aF
  have e:q*10^(k+1)=10*(q*10^k):=by rw[Nat.pow_succ,←Nat.mul_assoc,Nat.mul_comm]
  have hqp:0<q*10^k:=Nat.mul_pos hq hp
  rw[Nat.pow_succ]at hr
  rw[u9 aa,show(q*10^(k+1)+r)/10=q*10^k+r/10 by omega,show(q*10^(k+1)+r) % 10=r % 10 by omega,yL k q (r/10) hq aa,ij,List.append_assoc]
theorem Cu:∀k,ij k 0=List.replicate k 48
 |0=>rfl
 |k+1=>by rw[ij,Nat.zero_div,Cu k,List.replicate_succ'];rfl
theorem Ax:∀k r,r<10^k→0<k→ij k r=List.replicate (k - (Lib.decDigits r).length) 48++Lib.decDigits r∧(Lib.decDigits r).length≤k
 |0,r,h,h0=>aa
 |k+1,r,h,_=>by
  by_cases h1:r<10
  ·rw[ij,show r/10=0 by omega,Cu,dec_lt h1,show r % 10=r by omega]
   exact⟨rfl,by simp⟩
  ·have hk:0<k:=by rcases Nat.eq_zero_or_pos k with g|g
                   ·subst g;simp at h;omega
                   ·exact g
   rw[Nat.pow_succ]at h
   obtain⟨h2,h3⟩:=Ax k (r/10) aa hk
   have e:=u9 (n:=r) aa
   rw[ij,h2,e,List.length_append,List.append_assoc,List.length_singleton]
   exact⟨by rw[show k+1 - ((Lib.decDigits (r/10)).length+1)=k - (Lib.decDigits (r/10)).length by omega],aa⟩
theorem NR {ρ:bY} {w:World} (h:∀b o,ρ.aY b=some o→w.heap[b]? =some o):Lib.TabIs Tryz.prog w "internal/strconv.uint64pow10" .u64 Lib.pow10Tab:=by
 obtain⟨o,h1,_,ty,fz,rfl⟩:=ρ.cq 2 .u64 Lib.pow10Tab (by decide+kernel)
 exact R8 (g:=2) aB (h _ _ h1)
theorem wY {f:FuncId} {vs:List Value} {v:Value} (hf:BB Tryz.prog f) (hv:v.oneCell'=true) (h:∀w:World,Lib.TabIs Tryz.prog w "internal/strconv.uint64pow10" .u64 Lib.pow10Tab→Calls Tryz.prog f vs.toArray w fun e w'=>e= .returned v∧RowKit.Below w.heap.size w w'):ab Tryz.prog f (vs.map .val) [] (.val v) [] []:=by
 refine .inl ⟨hf,fun ρ w z hz hp=> ?_⟩
 rw[wm hz]
 refine(h w (NR hp.aY)).mono ?_
 rintro e w' ⟨rfl,hb⟩
 exact⟨v,ρ,rfl,.fY hb (ca hv)⟩
theorem NS (n:Nat) (h1:100≤n) (h2:n<18446744073709551616):ab Tryz.prog 350 [.val (.int .u64 (n:Nat)),.val (.int .i64 10)] [] (.val (.string (tN n))) [] []:=
 wY (vs:=[.int .u64 (n:Nat),.int .i64 10]) ⟨Tryz.f350,Tryz.func350,rfl,aB⟩ rfl fun w ht=>by
  rw[pC]
  refine(NQ n h1 h2 w ht).mono ?_
  rintro e w' ⟨rfl,k,os,rfl⟩
  exact⟨rfl,Lib.below_grow w.heap.size w (Nat.le_refl _) k os⟩
theorem Ha (n:Nat) (h:n<18446744073709551616):ab Tryz.prog 313 [.val (.int .u64 (n:Nat)),.val (.int .i64 10)] [] (.val (.string (tN n))) [] []:=by
 by_cases hs:n<100
 ·exact JL n hs
 ·have k1:=NS n aa h
  refine bP [] Tryz.func313 ?_
  intro W0 w0 ρ0 hE
  conv=>whnf
  (repeat(first|(refine aS (by assumption) ?_;conv=>whnf)));exact Q5
theorem YF (n:Nat) (h:n<9223372036854775808):ab Tryz.prog 316 [.val (.int .i64 (n:Nat))] [] (.val (.string (tN n))) [] []:=
 wY (vs:=[.int .i64 (n:Nat)]) ⟨Tryz.f316,Tryz.func316,rfl,aB⟩ rfl fun w ht=>by
  rw[pC]
  refine(Tryz.strconv_Itoa n aa aa w ht).mono ?_
  rintro e w' ⟨rfl,k,os,rfl⟩
  refine⟨?_,Lib.below_grow w.heap.size w (Nat.le_refl _) k os⟩
  rw[Lib.itoa_nonneg]
theorem J3 (c:Nat) (hc:c≤100):ab Tryz.prog 317 [.val (.string ⟨#[48]⟩),.val (.int .i64 (c:Nat))] [] (.val (.string ⟨(List.replicate c 48).toArray⟩)) [] []:=
 yA (vs:=[.string ⟨#[48]⟩,.int .i64 (c:Nat)]) ⟨Tryz.f317,Tryz.func317,rfl,aB⟩ rfl fun w=>by
  have e:∀c,Lib.repeatL [48] c=List.replicate c 48:=fun c=>by
   induction c with
   |zero=>rfl
   |succ c ih=>show[48]++Lib.repeatL [48] c=_;rw[ih,List.replicate_succ,List.singleton_append]
  refine(Tryz.strings_Repeat ⟨#[48]⟩ c w aa (by show 1*c≤_;omega)).mono ?_
  rintro e' w' ⟨rfl,hb⟩
  exact⟨by rw[show(⟨#[48]⟩:ByteArray).data.toList=[48]from rfl,e],hb⟩
abbrev rZ (ss:List ByteArray):aC:=⟨9,true,.seq 1 (ss.map qf)⟩
theorem NT {a b:List ByteArray} {n:Nat} (ha:a.length=n) (hb:b.length=n) (h:∀i,i<n→a.getD i .empty=b.getD i .empty):a=b:=by
 refine List.ext_getElem (ha.trans hb.symm) fun i h1 h2=> ?_
 have:=h i aa
 rwa [List.getD_eq_getElem?_getD,List.getD_eq_getElem?_getD,List.getElem?_eq_getElem h1,List.getElem?_eq_getElem h2]at this
theorem FB {l:List ByteArray} {i j:Nat} {v:ByteArray} (hi:i<l.length):(l.set i v).getD j .empty=if i=j then v else l.getD j .empty:=by
 simp only[List.getD_eq_getElem?_getD,List.getElem?_set]
 by_cases h:i=j
 ·subst h;simp[hi]
 ·simp[h]
theorem NU {l:List ByteArray} {n k:Nat} (hl:l.length=n) (hk:k<n):l.reverse.getD k .empty=l.getD (n - 1 - k) .empty:=by
 simp only[List.getD_eq_getElem?_getD]
 rw[List.getElem?_reverse aa,hl]
theorem Hb (ss:List ByteArray) (n:Nat) (hn:ss.length=n) (hl:n<1099511627776) (K:Nat):ab Tryz.prog 318 [.aN K 1 0 n] [(K,rZ ss)] (.ct []) [] [(K,rZ ss.reverse)]:=by
 have e0:IntKind.i64.wrap ((n:Int) - 1)=(n:Int) - 1:=wrap_i64 aa aa
 refine fq (Z:=[]) aL bJ Tryz.func318 rfl aB (args:=[.aN 1001 1 0 n]) (fk:=[(1001,rZ ss)]) (c:=.ct []) (new:=[]) (upd:=[(1001,rZ ss.reverse)]) (cu.of rfl rfl rfl rfl rfl rfl rfl rfl rfl rfl rfl) rfl (fun _=>K) bh.upd ?_
 intro W0 w0 ρ0 hE
 conv=>whnf
 (repeat(first|(rw[e0];conv=>whnf)))
 refine ai hE (fun k=>k) [0,2,3] [1001] (fun q fr hp=>∃(i:Nat) (ys:List ByteArray),q=n - i∧(2*i≤n)∧ys.length=n∧(∀k,k<n→ys.getD k .empty=if k<i∨n - i≤k then ss.getD (n - 1 - k) .empty else ss.getD k .empty)∧
  fr=[(0,.aN 1001 1 0 n),(2,.val (.int .i64 (i:Nat))),(3,.val (.int .i64 ((n:Int) - 1 - i)))]∧hp=[(1001,rZ ys)]) n ?_ ?_ ?_
 ·kernel_rfl
 ·exact⟨0,ss,rfl,aa,hn,(fun k hk=>by rw[if_neg aa]),by rw[show(n:Int) - 1 - ((0:Nat):Int)=(n:Int) - 1 by omega];rfl,rfl⟩
 rintro q _ _ ⟨i,ys,rfl,hi,hy,hv,rfl,rfl⟩
 conv=>whnf
 by_cases hgo:i+i+1<n
 ·obtain⟨j,hj⟩:∃j,j=n - 1 - i:=⟨_,rfl⟩
  have ej:(n:Int) - 1 - i=(j:Int):=aa
  rw[ej]
  have t1:decide ((i:Int)<(j:Int))=true:=decide_eq_true aa
  have e1:=bA (i:=i) aa
  have e2:IntKind.i64.wrap ((j:Int) - 1)=(n:Int) - 1 - ((i+1:Nat):Int):=by rw[wrap_i64 aa aa];omega
  have g1:(ys.map qf).getD i .any= .val (.string (ys.getD i .empty)):=by rw[oI (d:=ByteArray.empty) aa];rfl
  have g2:(ys.map qf).getD j .any= .val (.string (ys.getD j .empty)):=by rw[oI (d:=ByteArray.empty) aa];rfl
  have g3:((ys.map qf).set i (.val (.string (ys.getD j .empty)))).getD j .any= .val (.string (ys.getD j .empty)):=by rw[←g2,List.getD_eq_getElem?_getD,List.getElem?_set_ne aa,←List.getD_eq_getElem?_getD]
  have hlm:(ys.map qf).length=n:=by rw[List.length_map];exact hy
  have vu:(((ys.set i (ys.getD j .empty)).set j (ys.getD i .empty)).map qf)=((ys.map qf).set i (.val (.string (ys.getD j .empty)))).set j (.val (.string (ys.getD i .empty))):=by rw[List.map_set,List.map_set];rfl
  have fg:∀k,k<n→((ys.set i (ys.getD j .empty)).set j (ys.getD i .empty)).getD k .empty=if k<i+1∨n - (i+1)≤k then ss.getD (n - 1 - k) .empty else ss.getD k .empty:=by
   intro k hk
   rw[FB (by rw[List.length_set];omega),FB aa]
   by_cases h1:j=k
   ·rw[if_pos h1,if_pos aa,hv i aa,if_neg aa,show n - 1 - k=i by omega]
   ·rw[if_neg h1]
    by_cases h2:i=k
    ·rw[if_pos h2,if_pos aa,hv j aa,if_neg aa,show n - 1 - k=j by omega]
    ·rw[if_neg h2,hv k hk]
     by_cases h3:k<i∨n - i≤k
     ·rw[if_pos h3,if_pos aa]
     ·rw[if_neg h3,if_neg aa]
  (repeat((first|refine ag rfl rfl ?_|refine aw aB ?_|refine And.intro Q7 ?_|rw[t1]|rw[show 0+(i:Int).toNat=i from by omega]|rw[show 0+(j:Int).toNat=j from by omega]|rw[g1]|rw[g2]|rw[g3]|rw[e1]|rw[e2]);conv=>whnf))
  refine⟨n - (i+1),fun k=>k,[0,2,3],[1001],aa,aB,i+1,_,rfl,aa, ?_,fg,rfl, ?_⟩
  ·rw[List.length_set,List.length_set];exact hy
  ·rw[rZ,vu];rfl
 ·have t1:decide ((i:Int)<(n:Int) - 1 - i)=false:=decide_eq_false aa
  have e:ys=ss.reverse:=NT hy (by rw[List.length_reverse];exact hn) fun k hk=>by
   rw[hv k hk,NU hn hk]
   split
   ·rfl
   ·rw[show n - 1 - k=k by omega]
  rw[e]
  (repeat(first|(refine af rfl rfl ?_;conv=>whnf)|(rw[t1];conv=>whnf)))
  exact⟨aq.refl _,(fun _ _ h=>by cases h),fun k b hm=>by simp only[List.mem_singleton,Prod.mk.injEq]at hm;obtain⟨rfl,rfl⟩:=hm;rfl⟩
theorem Em {P:Program} {f:FuncId} {ss:List ByteArray} {n:Nat} {sep:ByteArray} {v:Value} {ty:TypeId} (hn:ss.length=n) (hf:BB P f) (hv:v.oneCell'=true)
  (h0:ss=[]→∀(a:Option Addr) (w:World),Calls P f #[.slice a 0 0,.string sep] w fun e w'=>e= .returned v∧w'=w)
  (h:∀(bk o c:Nat) (w:World),(∀(j:Nat) x,ss[j]? =some x→w.cell? ⟨bk,o+j,none⟩=some (.string x))→bk<w.heap.size→ss.length≤c→Calls P f #[.slice (some ⟨bk,o,none⟩) ss.length c,.string sep] w fun e w'=>e= .returned v∧RowKit.Below w.heap.size w w') (K:Nat):
  ab P f [.aN K 1 0 n,.val (.string sep)] [(K,⟨ty,true,.seq 1 (ss.map qf)⟩)] (.val v) [] []:=by
 subst hn
 refine .inl ⟨hf,fun ρ w z hz hp=> ?_⟩
 simp only[au]at hz
 obtain⟨x,_,rfl,hx,y,_,rfl,hy,rfl⟩:=hz
 simp only[aK]at hy
 obtain⟨rfl,_⟩:=hy
 have fin:∀(a:Value),(Calls P f #[a,.string sep] w fun e w'=>e= .returned v∧RowKit.Below w.heap.size w w')→Calls P f (List.zipWith cM [.aN K 1 0 ss.length,SV.val (.string sep)] [[a],[.string sep]]).toArray w fun e w'=>∃v' ρ',e= .returned v'∧jA ρ w (.val v) [] [] v' ρ' w':=fun a hc=>by
  have e:(List.zipWith cM [.aN K 1 0 ss.length,SV.val (.string sep)] [[a],[.string sep]]).toArray= #[a,.string sep]:=by simp[cM,SV.bf]
  rw[e]
  refine hc.mono ?_
  rintro e w' ⟨rfl,hb⟩
  exact⟨v,ρ,rfl,.fY hb (ca hv)⟩
 obtain⟨z,hz,hcase⟩:=iU (hp.mu K _ (List.mem_cons_self ..)) rfl rfl
 simp only[aK]at hx
 rcases hx with⟨b,t,cap,e1,e2,e3,rfl⟩|⟨hn,a,rfl⟩
 ·rcases hcase with⟨b',t',ex,h1,h2,h3,h4⟩|⟨h1,_⟩
  ·rw[e1]at h1
   cases h1
   have hzf:∀(l:List ByteArray) (z:List (List Value)),au (cN ρ.aY ρ.cq) (l.map qf) z→z.flatten=l.map .string:=by
    intro l
    induction l with
    |nil=>intro z hz;simp only[List.map_nil,au]at hz;subst hz;rfl
    |cons s l ih=>
     intro z hz
     simp only[List.map_cons,au,qf,aK]at hz
     obtain⟨x,r,rfl,⟨rfl,_⟩,h⟩:=hz
     simp[ih r h]
   refine fin _ ((h b 0 cap w (fun j x hj=> ?_) ?_ e2))
   ·rw[cell_of_row w b _ _ _ _ h2,List.getElem?_toArray,hzf ss z hz.2.1,Nat.zero_add]
    rw[List.getElem?_append_left (by rw[List.length_map];exact(List.getElem?_eq_some_iff.1 hj).1),List.getElem?_map,hj];rfl
   ·rcases Nat.lt_or_ge b w.heap.size with h'|h'
    ·exact h'
    ·simp[Array.getElem?_eq_none h']at h2
  ·rw[e1]at h1;cases h1
 ·refine fin _ ?_
  have hn:ss=[]:=List.length_eq_zero_iff.1 hn
  subst hn
  exact(h0 rfl a w).mono fun _ _ ⟨he,hw⟩=>⟨he,hw▸RowKit.Below.refl _ _⟩
theorem NV (ss:List ByteArray) (n:Nat) (hn:ss.length=n) (sep:ByteArray) (hN:ss.length≤1099511627776) (hlen:(Lib.join (ss.map (·.data.toList)) sep.data.toList).length≤140737488355328) (K:Nat):
  ab Tryz.prog 220 [.aN K 1 0 n,.val (.string sep)] [(K,rZ ss)] (.val (.string ⟨(Lib.join (ss.map (·.data.toList)) sep.data.toList).toArray⟩)) [] []:=by
 refine Em hn ⟨Tryz.f220,Tryz.func220,rfl,aB⟩ rfl ?_ ?_ K
 ·rintro rfl a w
  exact Tryz.strings_Join_none a 0 sep w
 ·intro bk o c w hc hb hcap
  exact Tryz.strings_Join bk o c ss sep w hc hb aa hcap hlen
theorem Ay:∀k n,n<2^k→(Lib.decDigits n).length≤k+1
 |0,n,h=>by
  obtain rfl:n=0:=by simp at h;exact h
  rw[dec_lt aF];simp
 |k+1,n,h=>by
  by_cases h1:n<10
  ·rw[dec_lt h1];simp
  ·rw[u9 aa,List.length_append,List.length_singleton]
   have:=Ay k (n/10) (by rw[Nat.pow_succ]at h;omega)
   omega
def cat (ss:List ByteArray):List UInt8:=(ss.map (·.data.toList)).flatten
theorem wZ (l:List (List UInt8)):Lib.join l []=l.flatten:=by
 cases l with
 |nil=>rfl
 |cons x r=>rw[Lib.join_cons,Lib.joinTail];simp
theorem J4 {v m:Nat} (h:v<4294967296^m):gN (bL v m) m=(ae v).length∧(ae v).length≤m:=by
 have hlen:=cY v m
 have hv:=gG v m
 rw[Nat.mod_eq_of_lt h]at hv
 have hc:=qJ (bL v m) m
 have hle:=Ah (bL v m) m
 have wB:=wh (bL v m) m
 have:=wi (gN (bL v m) m) (bL v m) (gg v m) aa wB
 rw[hc,hv,Int.toNat_natCast]at this
 have e:(ae v).length=gN (bL v m) m:=by rw[this,List.length_take];omega
 exact⟨e.symm,aa⟩
theorem NW {v:Nat} (h:1000000000≤v):sz (v/1000000000)+29≤sz v:=by
 have h1:v<2^sz v:=eW.1 (Nat.le_refl _)
 have h2:29≤sz v:=by
  rcases Nat.lt_or_ge (sz v) 29 with g|g
  ·have:2^sz v≤2^29:=Nat.pow_le_pow_right aF aa
   omega
  ·exact g
 have h3:sz (v/1000000000)≤sz v - 29:=eW.2 (by
  rw[Nat.div_lt_iff_lt_mul aF]
  have e:2^sz v=2^(sz v - 29)*2^29:=by rw[←Nat.pow_add];congr 1;omega
  have:2^(sz v - 29)*2^29≤2^(sz v - 29)*1000000000:=Nat.mul_le_mul_left _ aF
  omega)
 omega
theorem J5 {r:Nat} (h:r<1000000000):(tN r).size≤9:=by
 rw[pC]
 show(Lib.decDigits r).toArray.size≤9
 have:=(Ax 9 r h aF).2
 simpa using this
theorem YG {r:Nat} (h:r<1000000000):((⟨(List.replicate (9 - (tN r).size) 48).toArray⟩:ByteArray)++tN r).data.toList=ij 9 r:=by
 have hs:(tN r).size=(Lib.decDigits r).length:=by rw[pC];show(Lib.decDigits r).toArray.size=_;simp
 rw[(Ax 9 r h aF).1,hs,pC,ByteArray.data_append]
 simp
theorem Cv (ps:List ByteArray) (s:ByteArray):cat (ps++[s]).reverse=s.data.toList++cat ps.reverse:=by simp[cat]
theorem ach {n M:Nat} (h:sz n≤M):(ae n).length≤M:=gF (Nat.lt_of_lt_of_le (eW.1 h) (Nat.pow_le_pow_left aF M))
theorem YH (n:Nat) (h:¬n<18446744073709551616) (hs:sz n≤1073741824):ab Tryz.prog 240 [.nat n] [] (.val (.string (tN n))) [] []:=by
 have hwl:(ae n).length<1099511627776:=Nat.lt_of_le_of_lt (ach hs) aF
 have k1:=gY n 3001 hwl
 have e2:((nu n).toList==(ByteArray.mk #[]).toList)=false:=by rw[dw];exact decide_eq_false h
 have hwa:=cD n
 refine gX [] Tryz.func240 ?_
 intro w0 ρ0 hE
 conv=>whnf
 (repeat((first|refine af rfl rfl ?_|refine mK (by assumption) rfl ?_|rw[e2]|rw[Nat.zero_add]);conv=>whnf))
 refine bR (t:=3) (k:=2002) (s:=1) (blk:=rZ []) rfl rfl rfl ?_
 have hwn:=eN n
 refine ai hE (fun k=>k) [3,4] [2002,3001] (fun q fr hp=>∃(v:Nat) (L:List Int) (ps:List ByteArray),q=v∧(ae v).length≤L.length∧L.length<1099511627776∧fK L∧az L (ae v).length=(v:Int)∧((v≠0∧Lib.decDigits n=Lib.decDigits v++cat ps.reverse∧ps.length*29+sz v≤sz n)∨(v=0∧Lib.decDigits n=cat ps.reverse∧ps.length*29≤sz n+29))∧
  fr=[(3,.aN 2002 1 0 ps.length),(4,.aN 3001 1 0 (ae v).length)]∧hp=[(2002,rZ ps),(3001,⟨23,true,.ints .u32 L⟩)]) n ?_ ?_ ?_
 ·kernel_rfl
 ·have hwA:(cw n)=ae n:=by rw[cw,if_neg h]
  refine⟨n,cw n,[],rfl,hwa,by rw[hwA];exact hwl,by rw[hwA];exact aZ n,by rw[hwA];exact hwn,.inl ⟨aa, ?_,by simp⟩,rfl,rfl⟩
  simp[cat]
 rintro q _ _ ⟨v,L,ps,rfl,hL,Mq,hLw,hLv,hrel,rfl,rfl⟩
 conv=>whnf
 have nt:ps.length<1099511627776:=by rcases hrel with⟨_,_,g⟩|⟨_,_,g⟩<;>omega
 by_cases h0:0<q
 ·obtain⟨_,xV,hlen⟩:=hrel.resolve_right aa
  clear hrel
  have hm:=lX (n:=q) aa
  have t1:decide (((ae q).length:Int)>0)=true:=decide_eq_true aa
  have hqm:q<4294967296^(ae q).length:=cf q
  have k2:=Fs L (ae q).length hL aa hLw 1000000000 aF aF 3001 3002 aF true q hLv
  obtain⟨hcut,hcle⟩:=J4 (v:=q/1000000000) (m:=(ae q).length) (Nat.lt_of_le_of_lt (Nat.div_le_self _ _) hqm)
  have ZL:=cY (q/1000000000) (ae q).length
  have k3:=Jq (bL (q/1000000000) (ae q).length) (ae q).length aa aa 3002 true
  rw[hcut]at k3
  have hr:q % 1000000000<1000000000:=Nat.mod_lt _ aF
  have k4:=YF (q % 1000000000) aa
  have e1:IntKind.i64.wrap ((q % 1000000000:Nat):Int)=((q % 1000000000:Nat):Int):=wrap_i64 aa aa
  have ir:=J5 hr
  have hdw:fK (bL (q/1000000000) (ae q).length):=gg _ _
  have QA:az (bL (q/1000000000) (ae q).length) (ae (q/1000000000)).length=((q/1000000000:Nat):Int):=by
   have h1:=qJ (bL (q/1000000000) (ae q).length) (ae q).length
   rw[hcut,gG,Nat.mod_eq_of_lt (Nat.lt_of_le_of_lt (Nat.div_le_self _ _) hqm)]at h1
   exact h1
  have Ys:q/1000000000*1000000000+q % 1000000000=q:=by have:=Nat.div_add_mod q 1000000000;omega
  by_cases hq:1000000000≤q
  ·have Ja:0<q/1000000000:=Nat.div_pos hq aF
   have hs9:=NW hq
   have nK:=yL 9 (q/1000000000) (q % 1000000000) Ja hr
   rw[show 10^9=1000000000 from rfl,Ys,←YG hr]at nK
   have hm2:=lX (n:=q/1000000000) aa
   have t2:decide (((ae (q/1000000000)).length:Int)>0)=true:=decide_eq_true aa
   have e2:IntKind.i64.wrap (9 - ((tN (q % 1000000000)).size:Int))=((9 - (tN (q % 1000000000)).size:Nat):Int):=by rw[wrap_i64 aa aa];omega
   have k5:=J3 (9 - (tN (q % 1000000000)).size) aa
   have hrs:(⟨(List.replicate (9 - (tN (q % 1000000000)).size) 48).toArray⟩:ByteArray).size=9 - (tN (q % 1000000000)).size:=by show(List.replicate _ _).toArray.size=_;simp
   have jr:(⟨(List.replicate (9 - (tN (q % 1000000000)).size) 48).toArray⟩:ByteArray).size+(tN (q % 1000000000)).size≤9223372036854775807:=aa
   have hd2:Lib.decDigits n=Lib.decDigits (q/1000000000)++cat (ps++[(⟨(List.replicate (9 - (tN (q % 1000000000)).size) 48).toArray⟩:ByteArray)++tN (q % 1000000000)]).reverse:=by
    rw[xV,nK,Cv,List.append_assoc]
   clear xV nK
   generalize (⟨(List.replicate (9 - (tN (q % 1000000000)).size) 48).toArray⟩:ByteArray)=z9 at*
   have hpm:(ps.map qf).length=ps.length:=List.length_map ..
   (repeat((first|refine ag rfl rfl ?_|refine And.intro Q7 ?_|refine aS (by assumption) ?_|refine kU (by assumption) rfl ?_|refine E9 (by assumption) rfl rfl ?_|rw[t1]|rw[e1]|rw[t2]|rw[e2]);conv=>whnf))
   refine⟨q/1000000000,cx [(41,2002),(3002,3001)],[3,4],[41,3002],aa,aB,q/1000000000,_,ps++[z9++tN (q % 1000000000)],rfl,by rw[ZL];exact hcle,aa,hdw,QA,.inl ⟨aa,hd2,by rw[List.length_append,List.length_singleton];omega⟩,by rw[List.length_append];rfl, ?_⟩
   have e9:rZ (ps++[z9++tN (q % 1000000000)])=⟨9,true,.seq 1 (List.take ps.length (ps.map qf)++List.take 1 (List.drop 0 [SV.val (.string (z9++tN (q % 1000000000)))]))⟩:=by
    rw[rZ,List.take_of_length_le aa,List.map_append];rfl
   rw[e9];rfl
  ·have Ja:q/1000000000=0:=Nat.div_eq_of_lt aa
   have t2:decide (((ae (q/1000000000)).length:Int)>0)=false:=by rw[Ja];rfl
   have Yj:q % 1000000000=q:=Nat.mod_eq_of_lt aa
   have hd2:Lib.decDigits n=cat (ps++[tN (q % 1000000000)]).reverse:=by
    rw[xV,Cv,Yj,pC]
   clear xV
   have hpm:(ps.map qf).length=ps.length:=List.length_map ..
   (repeat((first|refine ag rfl rfl ?_|refine af rfl rfl ?_|refine And.intro Q7 ?_|refine aS (by assumption) ?_|refine kU (by assumption) rfl ?_|refine E9 (by assumption) rfl rfl ?_|rw[t1]|rw[e1]|rw[t2]);conv=>whnf))
   refine⟨q/1000000000,cx [(41,2002),(3002,3001)],[3,4],[41,3002],aa,aB,q/1000000000,_,ps++[tN (q % 1000000000)],rfl,by rw[ZL];exact hcle,aa,hdw,QA,.inr ⟨Ja,hd2,by rw[List.length_append,List.length_singleton];omega⟩,by rw[List.length_append];rfl, ?_⟩
   have e9:rZ (ps++[tN (q % 1000000000)])=⟨9,true,.seq 1 (List.take ps.length (ps.map qf)++List.take 1 (List.drop 0 [SV.val (.string (tN (q % 1000000000)))]))⟩:=by
    rw[rZ,List.take_of_length_le aa,List.map_append];rfl
   rw[e9];rfl
 ·obtain rfl:q=0:=aa
  obtain⟨_,xV,_⟩:=hrel.resolve_left (fun h=>h.1 rfl)
  have t1:decide (((ae 0).length:Int)>0)=false:=rfl
  have k2:=Hb ps ps.length rfl aa 2002
  have ZL:(Lib.decDigits n).length≤140737488355328:=by
   exact Nat.le_trans (Ay (sz n) n (eW.1 (Nat.le_refl _))) aa
  have k3:=NV ps.reverse ps.length (by rw[List.length_reverse]) ⟨#[]⟩ (by rw[List.length_reverse];omega) (by
   rw[show(⟨#[]⟩:ByteArray).data.toList=[]from rfl,wZ]
   show(cat ps.reverse).length≤_
   rw[←xV];exact ZL) 2002
  have e:(⟨(Lib.join (ps.reverse.map (·.data.toList)) (⟨#[]⟩:ByteArray).data.toList).toArray⟩:ByteArray)=tN n:=by
   rw[show(⟨#[]⟩:ByteArray).data.toList=[]from rfl,wZ,pC,xV];rfl
  rw[e]at k3
  (repeat(first|(refine af rfl rfl ?_;conv=>whnf)|(refine kU (by assumption) rfl ?_;conv=>whnf)|(refine I8 (by assumption) rfl rfl ?_;conv=>whnf)));exact Q5
theorem me (n:Nat):(tN n).size≤sz n+1:=by
 rw[pC]
 show(Lib.decDigits n).toArray.size≤_
 simpa using Ay (sz n) n (eW.1 (Nat.le_refl _))
theorem J6 (n:Nat) (hs:sz n≤1073741824):ab Tryz.prog 240 [.nat n] [] (.val (.string (tN n))) [] []:=by
 by_cases h:n<18446744073709551616
 ·have k1:=Ha n h
  have e1:low n=(n:Int):=cp h
  have e2:((nu n).toList==(ByteArray.mk #[]).toList)=true:=by rw[dw];exact decide_eq_true h
  refine bP [] Tryz.func240 ?_
  intro W0 w0 ρ0 hE
  conv=>whnf
  (repeat((first|refine ag rfl rfl ?_|refine aS (by assumption) ?_|rw[e2]|rw[e1]);conv=>whnf));exact Q5
 ·exact YH n h hs
theorem YI (z:Int) (h:sz z.natAbs≤1073741824):ab Tryz.prog 239 [.int z] [] (.val (.string (tZ z))) [] []:=by
 have k1:=J6 z.natAbs h
 have hs:=me z.natAbs
 have h1:(ByteArray.mk #[45]).size=1:=rfl
 have h2:(ByteArray.mk #[45]).size+(tN z.natAbs).size≤9223372036854775807:=aa
 unfold tZ
 refine bP [] Tryz.func239 ?_
 intro W0 w0 ρ0 hE
 conv=>whnf
 by_cases hz:z<0
 ·have t1:decide (z<0)=true:=decide_eq_true hz
  rw[if_pos hz]
  (repeat((first|refine ag rfl rfl ?_|refine And.intro Q7 ?_|refine aS (by assumption) ?_|rw[t1]);conv=>whnf));exact Q5
 ·have t1:decide (z<0)=false:=decide_eq_false hz
  rw[if_neg hz]
  (repeat(first|(refine af rfl rfl ?_;conv=>whnf)|(refine aS (by assumption) ?_;conv=>whnf)|(rw[t1];conv=>whnf)));exact Q5
theorem w7 (z:Int):(tZ z).size≤sz z.natAbs+2:=by
 have hs:=me z.natAbs
 unfold tZ
 split
 ·rw[ByteArray.size_append];have:("-".toUTF8).size=1:=rfl;omega
 ·omega
theorem FC (q:Rat) (h:fs q≤1073741824):ab Tryz.prog 138 [.frac q] [] (.val (.string (tQ q))) [] []:=by
 have n1:=dq q
 have n2:=dE q
 unfold fs at h
 have kw:=mR q
 have k1:=YI q.num aa
 have k2:=J6 q.den aa
 have k3:=ui er q aa
 have hs:=w7 q.num
 have hs2:=me q.den
 have h1:(ByteArray.mk #[47]).size=1:=rfl
 have h2:(tZ q.num).size+(ByteArray.mk #[47]).size≤9223372036854775807:=aa
 have h3:(tZ q.num++(ByteArray.mk #[47])).size+(tN q.den).size≤9223372036854775807:=by rw[ByteArray.size_append];omega
 unfold tQ
 refine bP [] Tryz.func138 ?_
 intro W0 w0 ρ0 hE
 conv=>whnf
 by_cases hd:q.den=1
 ·rw[decide_eq_true hd]at kw
  rw[if_pos hd]
  (repeat(first|(refine ag rfl rfl ?_;conv=>whnf)|(refine aS (by assumption) ?_;conv=>whnf)));exact Q5
 ·rw[decide_eq_false hd]at kw
  rw[if_neg hd]
  (repeat((first|refine af rfl rfl ?_|refine aw aB ?_|refine And.intro Q7 ?_|refine aS (by assumption) ?_);conv=>whnf));exact Q5
theorem Az (q:Rat):(tQ q).size≤fs q+fs q+4:=by
 have n1:=dq q
 have n2:=dE q
 have hs:=w7 q.num
 have hs2:=me q.den
 unfold fs
 unfold tQ
 split
 ·omega
 ·rw[ByteArray.size_append,ByteArray.size_append];have:("/".toUTF8).size=1:=rfl;omega
theorem mf:∀(l:List (List UInt8)) (B:Nat),(∀x∈l,x.length≤B)→(Lib.join l [32]).length≤l.length*(B+1)
 |[],B,_=>by simp[Lib.join_nil]
 |[x],B,h=>by rw[Lib.join_one];have:=h x (List.mem_cons_self ..);simp;omega
 |x::y::l,B,h=>by
  have ih:=mf (y::l) B (fun z hz=>h z (List.mem_cons_of_mem _ hz))
  have hx:=h x (List.mem_cons_self ..)
  have e:Lib.join (x::y::l) [32]=x++[32]++Lib.join (y::l) [32]:=by rw[Lib.join_cons,Lib.join_cons];simp[Lib.joinTail]
  rw[e]
  simp only[List.length_append,List.length_cons,List.length_nil]at*
  rw[Nat.succ_mul (l.length+1)]
  omega
theorem FD {a:List Rat} {B:Nat} (hl:a.length≤2048) (h:∀i,i<a.length→fs (a.getD i 0)≤B) (hB:B≤1000000000):(Lib.join ((a.map tQ).map (·.data.toList)) [32]).length≤140737488355328:=by
 refine Nat.le_trans (mf _ (2*B+4) ?_) ?_
 ·intro x hx
  obtain⟨s,hs,rfl⟩:=List.mem_map.1 hx
  obtain⟨q,hq,rfl⟩:=List.mem_map.1 hs
  obtain⟨i,hi,rfl⟩:=qP hq 0
  have h1:=Az (a.getD i 0)
  have h2:=h i hi
  show(tQ (a.getD i 0)).data.toList.length≤_
  have:(tQ (a.getD i 0)).data.toList.length=(tQ (a.getD i 0)).size:=Array.length_toList
  omega
 ·rw[List.length_map,List.length_map]
  have:a.length*(2*B+4+1)≤2048*(2*B+4+1):=Nat.mul_le_mul_right _ hl
  omega
theorem YJ (a:List Rat) (B:Nat) (hl:a.length≤2048) (h:∀i,i<a.length→fs (a.getD i 0)≤B) (hB:B≤1000000000):ab Tryz.prog 111 [cX a] [] (.val (.string (tV a))) [] []:=by
 have hJ:=FD hl h hB
 have hz:((a.map tQ).map qf).length=a.length:=by simp
 have lT:∀i,i<a.length→((a.map tQ).map qf).getD i .any= .val (.string (tQ (a.getD i 0))):=fun i hi=>by rw[oI (d:=ByteArray.empty) (by simpa using hi),oI (d:=0) hi];rfl
 have kj:=JM (a.map tQ) (by simp;omega) hJ
 refine gX [] Tryz.func111 ?_
 intro w0 ρ0 hE
 conv=>whnf
 (repeat(first|(refine And.intro Q7 ?_;conv=>whnf)|(refine ak cO ?_;conv=>whnf)|(rw[Int.toNat_natCast];conv=>whnf)))
 refine dd hE (fun k=>k) [0,2,3,9,10,11] [8] (fun m fr hp=>∃i,m=a.length - i∧i≤a.length∧fr=[(0,cX a),(2,.val (.string ⟨#[]⟩)),(3,.aN 8 1 0 a.length),(9,cX a),(10,.val (.int .i64 (a.length:Nat))),(11,.val (.int .i64 (i:Nat)))]∧
  hp=[(8,⟨9,true,.seq 1 (((a.map tQ).map qf).take i++List.replicate (a.length - i) (.val (.string .empty)))⟩)]) a.length ?_ ?_ ?_
 ·kernel_rfl
 ·exact⟨0,rfl,Nat.zero_le _,rfl,rfl⟩
 rintro m _ _ ⟨i,rfl,hi,rfl,rfl⟩
 have hlen:=ek (d:=SV.val (.string .empty)) hi hz
 by_cases aA:i<a.length
 ·have t1:=dX aA
  have t2:=bA (i:=i) aa
  have k1:=FC (a.getD i 0) (Nat.le_trans (h i aA) aa)
  refine ey.of hE ?_
  conv=>whnf
  have e3:=wo (d:=SV.val (.string .empty)) (e:=SV.any) aA hz
  (repeat((first|refine ag rfl rfl ?_|refine And.intro Q7 ?_|refine aS (by assumption) ?_|refine ak Ai ?_|refine ak Q6 ?_|rw[t1]|rw[e3]|rw[t2]|rw[Int.toNat_natCast]|rw[Nat.zero_add]);conv=>whnf))
  refine⟨a.length - (i+1),fun k=>k,[0,2,3,9,10,11],[8],aa,aB,i+1,rfl,aA,rfl, ?_⟩
  rw[←jd (e:=.any) aA hz,lT i aA]
  rfl
 ·have t1:=ez aA
  have hI:i=a.length:=aa
  subst hI
  rw[je hz]
  refine eB 3 8 (fun _ h=>h) (fun _=>rfl) rfl rfl (by simp) ?_
  refine ey.of hE ?_
  conv=>whnf
  have h91:(ByteArray.mk #[91]).size=1:=rfl
  have h93:(ByteArray.mk #[93]).size=1:=rfl
  have hjs:(ByteArray.mk (Lib.join ((a.map tQ).map (·.data.toList)) [32]).toArray).size=(Lib.join ((a.map tQ).map (·.data.toList)) [32]).length:=by show(Lib.join ((a.map tQ).map (·.data.toList)) [32]).toArray.size=_;simp
  have o1:(ByteArray.mk #[91]).size+(ByteArray.mk (Lib.join ((a.map tQ).map (·.data.toList)) [32]).toArray).size≤9223372036854775807:=aa
  have o2:(ByteArray.mk #[91]++ByteArray.mk (Lib.join ((a.map tQ).map (·.data.toList)) [32]).toArray).size+(ByteArray.mk #[93]).size≤9223372036854775807:=by rw[ByteArray.size_append];omega
  (repeat((first|refine af rfl rfl ?_|refine And.intro Q7 ?_|refine aS (by assumption) ?_|rw[t1]);conv=>whnf));exact Q5
abbrev iv (n:Int):SV:=.val (.int .i64 n)
abbrev mA (r c:Int) (a:List Rat):SV:=.agg [iv r,iv c,cX a]
abbrev mC (r c:Int) (a:List Rat):List SV:=[iv r,iv c,cX a]
abbrev MV:=Int×Int×List Rat
abbrev mB (m:MV):SV:=mA m.1 m.2.1 m.2.2
def kH (r c:Int):Int:=if r<0∨c<0 then 1 else if r>2048∨c>2048 then 3 else 0
theorem oN (r c:Int):ab Tryz.prog 197 [iv r,iv c] [] (iv (kH r c)) [] []:=by
 refine bP [] Tryz.func197 ?_
 intro W0 w0 ρ0 hE
 conv=>whnf
 unfold kH
 by_cases h1:r<0
 ·have t1:decide (r<0)=true:=decide_eq_true h1
  rw[if_pos (.inl h1)]
  (repeat((first|refine ag rfl rfl ?_|refine af rfl rfl ?_|refine ak jJ ?_|rw[t1]);conv=>whnf));exact Q5
 have t1:decide (r<0)=false:=decide_eq_false h1
 by_cases h2:c<0
 ·have t2:decide (c<0)=true:=decide_eq_true h2
  rw[if_pos (.inr h2)]
  (repeat((first|refine ag rfl rfl ?_|refine ak jo ?_|rw[t1]|rw[t2]);conv=>whnf));exact Q5
 have t2:decide (c<0)=false:=decide_eq_false h2
 rw[if_neg aa]
 by_cases h3:r>2048
 ·have t3:decide (r>2048)=true:=decide_eq_true h3
  rw[if_pos (.inl h3)]
  (repeat((first|refine ag rfl rfl ?_|refine af rfl rfl ?_|refine ak jJ ?_|refine ak jo ?_|rw[t1]|rw[t2]|rw[t3]);conv=>whnf));exact Q5
 have t3:decide (r>2048)=false:=decide_eq_false h3
 by_cases h4:c>2048
 ·have t4:decide (c>2048)=true:=decide_eq_true h4
  rw[if_pos (.inr h4)]
  (repeat((first|refine ag rfl rfl ?_|refine af rfl rfl ?_|refine ak jo ?_|rw[t1]|rw[t2]|rw[t3]|rw[t4]);conv=>whnf));exact Q5
 have t4:decide (c>2048)=false:=decide_eq_false h4
 rw[if_neg aa]
 (repeat((first|refine ag rfl rfl ?_|refine af rfl rfl ?_|refine ak jo ?_|rw[t1]|rw[t2]|rw[t3]|rw[t4]);conv=>whnf));exact Q5
theorem Cw {r c:Int} (h:kH r c=0):(0≤r∧r≤2048)∧(0≤c∧c≤2048):=by
 unfold kH at h
 by_cases h1:r<0∨c<0
 ·rw[if_pos h1]at h;omega
 ·rw[if_neg h1]at h
  by_cases h2:r>2048∨c>2048
  ·rw[if_pos h2]at h;omega
  ·omega
theorem mg {r c:Int} (h:(0≤r∧r≤2048)∧(0≤c∧c≤2048)):kH r c=0:=by
 unfold kH;rw[if_neg aa,if_neg aa]
theorem NX {r c:Int} (h:(0≤r∧r≤2048)∧(0≤c∧c≤2048)):0≤r*c∧r*c≤4194304:=by
 obtain⟨⟨a,b⟩,d,e⟩:=h
 refine⟨Int.mul_nonneg a d, ?_⟩
 exact Int.le_trans (Int.mul_le_mul b e d aF) aF
def cc (r c:Int) (n:Nat):Int:=if kH r c≠0 then kH r c else if (n:Int)≠r*c then 1 else 0
theorem oO (r c:Int) (a:List Rat) (hn:a.length<1099511627776):ab Tryz.prog 69 [mA r c a] [] (iv (cc r c a.length)) [] []:=by
 have k1:=oN r c
 refine bP [] Tryz.func69 ?_
 intro W0 w0 ρ0 hE
 conv=>whnf
 unfold cc
 by_cases h1:kH r c=0
 ·rw[if_neg aa]
  rw[h1]at k1
  have hp:=NX (Cw h1)
  have t2:IntKind.i64.wrap (r*c)=r*c:=wrap_i64 aa aa
  by_cases h2:(a.length:Int)=r*c
  ·have t3:((a.length:Int) != r*c)=false:=by rw[h2];exact bne_self_eq_false _
   rw[if_neg aa]
   clear hp
   (repeat((first|refine af rfl rfl ?_|refine aS (by assumption) ?_|rw[bne_self_eq_false]|refine ak cO ?_|rw[t2]|rw[t3]);conv=>whnf));exact Q5
  ·have t3:((a.length:Int) != r*c)=true:=bne_iff_ne.2 h2
   rw[if_pos h2]
   clear hp
   (repeat((first|refine ag rfl rfl ?_|refine af rfl rfl ?_|refine aS (by assumption) ?_|rw[bne_self_eq_false]|refine ak cO ?_|rw[t2]|rw[t3]);conv=>whnf));exact Q5
 ·have t1:(kH r c != 0)=true:=bne_iff_ne.2 h1
  rw[if_pos h1]
  (repeat(first|(refine ag rfl rfl ?_;conv=>whnf)|(refine aS (by assumption) ?_;conv=>whnf)|(rw[t1];conv=>whnf)));exact Q5
theorem dB {r c:Nat} {n:Nat} (hr:r≤2048) (hc:c≤2048) (hn:n=r*c):cc r c n=0:=by
 unfold cc
 rw[mg aa,if_neg aa,if_neg (by rw[hn];push_cast;omega)]
structure jq (R C:Nat) (a:List Rat):Prop where
 r:R≤2048
 c:C≤2048
 n:a.length=R*C
theorem jq.small {r c:Nat} {a:List Rat} (h:jq r c a):a.length≤4194304:=by rw[h.n];exact Nat.mul_le_mul h.r h.c
theorem kI {r c:Nat} {a:List Rat} (h:jq r c a):ab Tryz.prog 69 [mA r c a] [] (iv 0) [] []:=by
 have:=oO r c a (by have:=h.small;omega)
 rwa [dB h.r h.c h.n]at this
def Cx:List MV→Int
 |[]=>0
 |m::l=>if cc m.1 m.2.1 m.2.2.length≠0 then cc m.1 m.2.1 m.2.2.length else Cx l
theorem drop_one {α:Type} {l:List α} {i:Nat} (d:α) (h:i<l.length):l.drop i=l.getD i d::l.drop (i+1):=by
 rw[List.drop_eq_getElem_cons h,List.getD_eq_getElem?_getD,List.getElem?_eq_getElem h];rfl
abbrev uF:MV:=(0,0,[])
theorem aci (l:List MV) (hl:l.length<1099511627776) (h:∀m∈l,m.2.2.length<1099511627776):ab Tryz.prog 195 [cT 3 mB l] [] (iv (Cx l)) [] []:=by
 refine bP [] Tryz.func195 ?_
 intro W0 w0 ρ0 hE
 conv=>whnf
 (repeat(first|(refine ak cO ?_;conv=>whnf)))
 refine ai hE (fun k=>k) [0,6,7,8] [] (fun m fr hp=>∃i:Nat,m=l.length - i∧i≤l.length∧Cx (l.drop i)=Cx l∧fr=[(0,cT 3 mB l),(6,cT 3 mB l),(7,iv (l.length:Nat)),(8,iv (i:Nat))]∧hp=[]) l.length ?_ ?_ ?_
 ·kernel_rfl
 ·exact⟨0,rfl,Nat.zero_le _,rfl,rfl,rfl⟩
 rintro m _ _ ⟨i,rfl,hi,hs,rfl,rfl⟩
 conv=>whnf
 by_cases aA:i<l.length
 ·have t1:=dX aA
  have t2:=bA (i:=i) aa
  have k1:=oO (l.getD i uF).1 (l.getD i uF).2.1 (l.getD i uF).2.2 (h _ (fv aA))
  rw[drop_one uF aA,Cx]at hs
  by_cases hc:cc (l.getD i uF).1 (l.getD i uF).2.1 (l.getD i uF).2.2.length=0
  ·rw[if_neg aa]at hs
   rw[hc]at k1
   (repeat((first|refine ag rfl rfl ?_|refine af rfl rfl ?_|refine aS (by assumption) ?_|rw[bne_self_eq_false]|refine ak Q6 ?_|refine ak (fJ (α:=MV) (d:=uF) rfl (aj rfl) (aj rfl) (jf rfl) rfl (jf rfl) rfl aa) ?_|rw[t1]|rw[t2]);conv=>whnf))
   exact⟨l.length - (i+1),fun k=>k,[0,6,7,8],[],aa,aB,i+1,rfl,aA,hs,rfl,rfl⟩
  ·have t3:(cc (l.getD i uF).1 (l.getD i uF).2.1 (l.getD i uF).2.2.length != 0)=true:=bne_iff_ne.2 hc
   rw[if_pos hc]at hs
   rw[←hs]
   (repeat((first|refine ag rfl rfl ?_|refine aS (by assumption) ?_|refine ak Q6 ?_|refine ak (fJ (α:=MV) (d:=uF) rfl (aj rfl) (aj rfl) (jf rfl) rfl (jf rfl) rfl aa) ?_|rw[t1]|rw[t3]);conv=>whnf));exact Q5
 ·have t1:=ez aA
  have hI:i=l.length:=aa
  rw[hI,List.drop_length]at hs
  rw[←hs]
  (repeat(first|(refine af rfl rfl ?_;conv=>whnf)|(rw[t1];conv=>whnf)));exact Q5
theorem J7 {r c s t:Nat} {a b:List Rat} (ha:jq r c a) (hb:jq s t b):ab Tryz.prog 195 [cT 3 mB [((r:Int),(c:Int),a),((s:Int),(t:Int),b)]] [] (iv 0) [] []:=by
 have:=aci [((r:Int),(c:Int),a),((s:Int),(t:Int),b)] (by simp) (by
  intro m hm
  have h1:=ha.small;have h2:=hb.small
  simp only[List.mem_cons,List.not_mem_nil,or_false]at hm
  rcases hm with rfl|rfl
  ·show a.length<_;omega
  ·show b.length<_;omega)
 rwa [Cx,if_neg (by rw[dB ha.r ha.c ha.n];decide),Cx,if_neg (by rw[dB hb.r hb.c hb.n];decide),Cx]at this
theorem QP (i:Int) (n:Int):ab Tryz.prog 204 [iv i,iv n] [] (.val (.bool (decide (0≤i∧i<n)))) [] []:=by
 refine bP [] Tryz.func204 ?_
 intro W0 w0 ρ0 hE
 conv=>whnf
 by_cases h1:i<0
 ·have t1:decide (i≥0)=false:=decide_eq_false aa
  rw[decide_eq_false (show ¬(0≤i∧i<n) by omega)]
  (repeat(first|(refine af rfl rfl ?_;conv=>whnf)|(refine ak jo ?_;conv=>whnf)|(rw[t1];conv=>whnf)));exact Q5
 ·have t1:decide (i≥0)=true:=decide_eq_true aa
  by_cases h2:i<n
  ·have t2:decide (i<n)=true:=decide_eq_true h2
   rw[decide_eq_true (show 0≤i∧i<n by omega)]
   (repeat((first|refine ag rfl rfl ?_|refine ak jJ ?_|rw[t1]|rw[t2]);conv=>whnf));exact Q5
  ·have t2:decide (i<n)=false:=decide_eq_false h2
   rw[decide_eq_false (show ¬(0≤i∧i<n) by omega)]
   (repeat((first|refine ag rfl rfl ?_|refine ak jJ ?_|rw[t1]|rw[t2]);conv=>whnf));exact Q5
theorem kJ {i k c:Nat} (hi:i≤2048) (hc:c≤2048) (hk:k≤2048):IntKind.i64.wrap ((i:Int)*(c:Int))=((i*c:Nat):Int)∧IntKind.i64.wrap (((i*c:Nat):Int)+(k:Int))=((i*c+k:Nat):Int):=by
 have h1:i*c≤2048*2048:=Nat.mul_le_mul hi hc
 constructor
 ·rw[←Int.natCast_mul,wrap_i64 aa aa]
 ·rw[wrap_i64 aa aa];omega
theorem Hc {r c:Nat} {a:List Rat} (h:jq r c a) {i k:Nat} (hi:i<r) (hk:k<c):ab Tryz.prog 102 [mA r c a,iv i,iv k] [] (.frac (el a c i k)) [] []:=by
 obtain⟨t1,t2⟩:=kJ (i:=i) (k:=k) (c:=c) (by have:=h.r;omega) h.c (by have:=h.c;omega)
 have aA:=dN hi hk
 rw[←h.n]at aA
 refine bP [] Tryz.func102 ?_
 intro W0 w0 ρ0 hE
 conv=>whnf
 (repeat((first|refine ak Q6 ?_|refine ak Q29 ?_|rw[t1]|rw[t2]|rw[Int.toNat_natCast]);conv=>whnf));exact Q5
abbrev cj (a:List Rat) (c i:Nat):List Rat:=(a.drop (i*c)).take c
theorem cE {r c i:Nat} {a:List Rat} (hi:i<r) (h:a.length=r*c):(cj a c i).length=c:=by
 have:=Nat.mul_le_mul_right c (show i+1≤r from hi)
 rw[Nat.succ_mul]at this
 rw[List.length_take,List.length_drop];omega
theorem eK {a:List Rat} {c i k:Nat} (hk:k<c):(cj a c i).getD k 0=el a c i k:=by
 simp[List.getD_eq_getElem?_getD,hk]
theorem yM {i c:Nat} (hi:i≤2047) (hc:c≤2048):IntKind.i64.wrap ((i:Int)*(c:Int))=((i*c:Nat):Int)∧IntKind.i64.wrap (((i+1:Nat):Int)*(c:Int))=(((i+1)*c:Nat):Int)∧IntKind.i64.wrap ((i:Int)+1)=((i+1:Nat):Int):=
 ⟨(kJ (i:=i) (k:=0) aa hc aa).1,(kJ (i:=i+1) (k:=0) aa hc aa).1,bA aa⟩
theorem YK {r c:Nat} {a:List Rat} (h:jq r c a) {i:Nat} (hi:i<r):ab Tryz.prog 203 [mA r c a,iv i] [] (cX (cj a c i)) [] []:=by
 obtain⟨t1,t2,t3⟩:=yM (i:=i) (c:=c) (by have:=h.r;omega) h.c
 have aA:=Nat.mul_le_mul_right c (show i+1≤r from hi)
 have hle:i*c≤(i+1)*c:=Nat.mul_le_mul_right c aa
 rw[←h.n]at aA
 have e1:(i+1)*c - i*c=c:=by rw[Nat.succ_mul];omega
 refine bP [] Tryz.func203 ?_
 intro W0 w0 ρ0 hE
 conv=>whnf
 (repeat((first|refine aw aB ?_|refine ak (yv rfl (aj rfl) (fo rfl) (fo rfl) (.inr ⟨Option.some_ne_none _,_,_,rfl,aj rfl⟩) (jf rfl) rfl (jf rfl) rfl aa) ?_|rw[t1]|rw[t3]|rw[t2]|rw[e1]|rw[Int.toNat_natCast]);conv=>whnf))
 exact Q5
end Go.Proofs.YtfpagioknjjacaaGreatDoor
namespace Go.Sx
set_option linter.unusedSimpArgs false
set_option linter.unusedVariables false
section
variable {P:Program} {o:Oper} {ft:List (Nat×SV)} {fk:List (Nat×aC)}
theorem Hd {t e:TypeId} {x lo hi mx:Operand} {ti te:TI} {k s i n:Nat} {l h:Int} {kl kh km:IntKind} (ho:o.op= .slice t x (some lo) (some hi) (some mx)) (hx:bp ft x (.aN k s i n))
  (Bo:bp ft lo (.val (.int kl l))) (Bp:bp ft hi (.val (.int kh h))) (hmx:bp ft mx (.val (.int km h)))
  (ht:aD P t ti) (hk:ti.kind= .aN e) (he:aD P e te) (hs:te.size=s) (hh:0≤l∧l≤h∧h≤n):bV P o ft fk (.aN k s (i+l.toNat) (h - l).toNat) [] []:=
 br fun ρ a w hp=>by
  obtain⟨h0,hlh,hh⟩:=hh
  have hu:=ht.kind;rw[hk]at hu
  have key:∀(ad:Option Addr) (m cap:Nat),n=m→m≤cap→a.eval x= .slice ad m cap→
    (execOp a.eval o).run P w= .ok (.value (.slice (if h.toNat=l.toNat then ad else ad.map (·.add (l.toNat*s))) (h.toNat - l.toNat) (h.toNat - l.toNat))) w:=by
   intro ad m cap Iv hmc hv
   have hr:∀(z:Operand) (kd:IntKind) (bd:Nat),bp ft z (.val (.int kd h))→h.toNat≤bd→∀q,(Instr.sliceBound (a.eval z) bd q).run P w= .ok h.toNat w:=by
    intro z kd bd hz Mr q
    have:=aI (hz ρ a hp.dr)
    have hb:0≤h∧h≤(bd:Int):=aa
    simp[Instr.sliceBound,this,asIntOf,hb]
   have hl:∀q,(Instr.sliceBound (a.eval lo) h.toNat q).run P w= .ok l.toNat w:=by
    intro q
    have:=aI (Bo ρ a hp.dr)
    have hb:0≤l∧l≤(h.toNat:Int):=aa
    simp only[Instr.sliceBound,this,asIntOf,Sem.run_bind,Sem.run_pure,Result.andThen_ok,hb,and_self,if_true]
   have ql:(Instr.sliceBounds true m cap (some (a.eval lo)) (some (a.eval hi)) (some (a.eval mx))).run P w= .ok (l.toNat,h.toNat,h.toNat) w:=by
    unfold Instr.sliceBounds
    simp[hr mx km cap hmx aa,hr hi kh h.toNat Bp (Nat.le_refl _),hl]
   simp only[execOp,ho,Option.map_some,Instr.sliceAt,Sem.run_bind,run_underlying hu,Result.andThen_ok,Instr.slice,hv,ql,he.sizeOf,hs,Sem.run_pure]
  rcases eV (hx ρ a hp.dr)with⟨b,t',cap,h1,h2,h3,h4⟩|⟨rfl,ad,h4⟩
  ·refine⟨_,key _ n cap rfl h2 h4,gk ?_⟩
   by_cases hc:h.toNat=l.toNat
   ·right
    have:h.toNat - l.toNat=0:=aa
    refine⟨aa,some ⟨b,i*s,none⟩, ?_⟩
    rw[if_pos hc,this]
   ·left
    refine⟨b,t',h.toNat - l.toNat,h1,aa, ?_, ?_⟩
    ·exact Nat.le_trans (Nat.mul_le_mul_right s (show i+l.toNat+(h.toNat - l.toNat)≤i+cap by omega)) h3
    ·rw[if_neg hc]
     have fT:(⟨b,i*s,none⟩:Addr).add (l.toNat*s)=⟨b,(i+l.toNat)*s,none⟩:=by
      unfold Addr.add
      rw[Nat.add_mul]
      split
      ·rename_i h0;simp[h0]
      ·rfl
     rw[Option.map_some,fT,show(h - l).toNat=h.toNat - l.toNat from by omega]
  ·refine⟨_,key ad 0 0 rfl (Nat.le_refl _) h4,gk (.inr ⟨aa,ad, ?_⟩)⟩
   have h1:l.toNat=0:=aa
   have h2:h.toNat=0:=aa
   simp[h1,h2]
theorem oP {f:FuncId} {a b:List SV} {t t2:TypeId} {x y:Operand} {p r:Array TypeId} {v:Bool} (ho:o.op= .binOp .eql t x y t2) (hx:bp ft x (.clo f a b)) (hy:bp ft y (.val .nilFunc)) (hu:P.underlying t=some (.func p r v)):bV P o ft fk (.val (.bool false)) [] []:=
 br fun ρ ac w hp=>by
  have h1:=hx ρ ac hp.dr
  simp only[Has,aK]at h1
  obtain⟨_,⟨fz,cz,_,_,rfl⟩,e1⟩:=h1
  have e2:=aI (hy ρ ac hp.dr)
  simp only[cM,SV.bf,if_true,List.headD_cons]at e1
  have hq:∀d vs ws,(Op.equalIn (d+1) t (.func (.func f) vs ws) .nilFunc).run P w= .ok false w:=fun d vs ws=>by simp[Op.equalIn,run_underlying hu]
  have xM:∀vs ws,(Op.equal t (.func (.func f) vs ws) .nilFunc).run P w= .ok false w:=fun vs ws=>hq 9999 vs ws
  refine⟨_, ?_,ca rfl⟩
  simp[execOp,ho,e1,e2,eqGuard,binOp,xM]
end
end Go.Sx
namespace Go.Proofs.YtfpagioknjjacaaGreatDoor
open Go.Sx
set_option linter.unusedSimpArgs false
set_option linter.unusedVariables false
set_option maxRecDepth 100000
set_option maxHeartbeats 4000000
abbrev zM:aC:=⟨38,true,.one [iv 0,iv 0,.val (.slice none 0 0)]⟩
abbrev bM (r c K:Nat):aC:=⟨38,true,.one [iv r,iv c,.aN K 5 0 (r*c)]⟩
abbrev hZ (l:List Rat):aC:=⟨52,true,.cm l⟩
theorem AB {r c:Nat} {a:List Rat} (h:jq r c a) {i:Nat} (hi:i<r) (K:Nat):ab Tryz.prog 203 [.agg [iv r,iv c,.aN K 5 0 (r*c)],iv i] [(K,hZ a)] (.aN K 5 (i*c) c) [] []:=by
 obtain⟨t1,t2,t3⟩:=yM (i:=i) (c:=c) (by have:=h.r;omega) h.c
 have aA:=Nat.mul_le_mul_right c (show i+1≤r from hi)
 have hle:i*c≤(i+1)*c:=Nat.mul_le_mul_right c aa
 have e1:(((i+1)*c:Nat) - (i*c:Nat):Int).toNat=c:=by rw[Nat.succ_mul];omega
 refine ab.px ?_
 refine fq (Z:=[]) aL bJ Tryz.func203 rfl aB (args:=[.agg [iv r,iv c,.aN 1001 5 0 (r*c)],iv i]) (fk:=[(1001,⟨52,false,.cm a⟩)]) (c:=.aN 1001 5 (i*c) c) (new:=[]) (upd:=[]) (cu.of rfl rfl rfl rfl rfl rfl rfl rfl rfl rfl rfl) rfl (fun _=>K) (bh.ro rfl) ?_
 intro W0 w0 ρ0 hE
 conv=>whnf
 (repeat((first|refine aw aB ?_|refine ak (Hd rfl (aj rfl) (aj rfl) (aj rfl) (aj rfl) (jf rfl) rfl (jf rfl) rfl aa) ?_|rw[t1]|rw[t3]|rw[t2]|rw[e1]|rw[Int.toNat_natCast]|rw[Nat.zero_add]);conv=>whnf))
 exact⟨aq.refl _,(fun _ _ h=>by cases h),(fun _ _ h=>by cases h)⟩
theorem NZ {r c:Nat} (hr:r≤2048) (hc:c≤2048) (F:Nat→Nat→Rat) (g:FuncId)
  (hf:∀i k,i<r→k<c→ab Tryz.prog g ([]++([iv (i:Nat),iv (k:Nat)]++[])) [] (.frac (F i k)) [] []):
  ab Tryz.prog 92 [iv r,iv c,.clo g [] []] [] (.ct [mA r c (mk r c F),iv 0]) [] []:=by
 have k1:=oN r c
 rw[mg aa]at k1
 have hz:(mk r c F).length=r*c:=dx ..
 have vO:r*c≤2048*2048:=Nat.mul_le_mul hr hc
 have t1:IntKind.i64.wrap ((r:Int)*(c:Int))=((r*c:Nat):Int):=by rw[←Int.natCast_mul,wrap_i64 aa aa]
 refine gX [] Tryz.func92 ?_
 intro w0 ρ0 hE
 conv=>whnf
 (repeat((first|refine af rfl rfl ?_|refine ay Q3 ?_|refine aS (by assumption) ?_|rw[bne_self_eq_false]|refine⟨_,oP rfl (aj rfl) (aj rfl) Tryz.underlying137, ?_⟩|rw[t1]|rw[Int.toNat_natCast]);conv=>whnf))
 refine ai hE (fun k=>k) [0,1,2,6,9,30,31] [6,9,25] (fun m fr hp=>∃i:Nat,m=r - i∧i≤r∧fr=[(0,iv r),(1,iv c),(2,.clo g [] []),(6,.ptr 6 0 0 0),(9,.ptr 9 0 0 0),(30,iv r),(31,iv (i:Nat))]∧
  hp=[(6,zM),(9,bM r c 25),(25,hZ ((mk r c F).take (i*c)++List.replicate (r*c - i*c) 0))]) r ?_ ?_ ?_
 ·kernel_rfl
 ·exact⟨0,rfl,Nat.zero_le _,rfl,by rw[Nat.zero_mul,List.take_zero];rfl⟩
 rintro m _ _ ⟨i,rfl,hi,rfl,rfl⟩
 conv=>whnf
 by_cases aA:i<r
 ·have t2:=dX aA
  have t3:=bA (i:=i) aa
  have yN:(i+1)*c≤r*c:=Nat.mul_le_mul_right c aA
  rw[Nat.succ_mul]at yN
  have hlen:=ek (d:=(0:Rat)) (show i*c≤r*c by omega) hz
  have o1:=AB (a:=(mk r c F).take (i*c)++List.replicate (r*c - i*c) 0) ⟨hr,hc,hlen⟩ aA 25
  (repeat(first|(refine ag rfl rfl ?_;conv=>whnf)|(refine kU (by assumption) rfl ?_;conv=>whnf)|(rw[t2];conv=>whnf)))
  refine ai hE (fun k=>k) [0,1,2,6,9,10,11,30,31,37,38] [6,9,25] (fun m fr hp=>∃k:Nat,m=c - k∧k≤c∧fr=[(0,iv r),(1,iv c),(2,.clo g [] []),(6,.ptr 6 0 0 0),(9,.ptr 9 0 0 0),(10,iv (i:Nat)),(11,.aN 25 5 (i*c) c),(30,iv r),(31,iv (i:Nat)),(37,iv c),(38,iv (k:Nat))]∧
   hp=[(6,zM),(9,bM r c 25),(25,hZ ((mk r c F).take (i*c+k)++List.replicate (r*c - (i*c+k)) 0))]) c ?_ ?_ ?_
  ·kernel_rfl
  ·exact⟨0,rfl,Nat.zero_le _,rfl,rfl⟩
  rintro m _ _ ⟨k,rfl,hk,rfl,rfl⟩
  conv=>whnf
  by_cases hlk:k<c
  ·have t4:=dX hlk
   have t5:=bA (i:=k) aa
   have hlen:=ek (d:=(0:Rat)) (show i*c+k≤r*c by omega) hz
   have o2:=hf i k aA hlk
   rw[←fy (f:=F) aA hlk]at o2
   (repeat((first|refine ag rfl rfl ?_|refine aX Q3 ?_|refine ay Q3 ?_|refine aS (by assumption) ?_|rw[t4]|rw[t5]|rw[Int.toNat_natCast]);conv=>whnf))
   refine⟨c - (k+1),fun k=>k,[0,1,2,6,9,10,11,30,31,37,38],[6,9,25],aa,aB,k+1,rfl,hlk,rfl, ?_⟩
   rw[show i*c+(k+1)=i*c+k+1 from rfl,hZ,←jd (e:=0) (show i*c+k<r*c by omega) hz]
   rfl
  ·have t4:=ez hlk
   obtain rfl:k=c:=aa
   (repeat(first|(refine af rfl rfl ?_;conv=>whnf)|(rw[t4];conv=>whnf)|(rw[t3];conv=>whnf)))
   refine⟨r - (i+1),fun k=>k,[0,1,2,6,9,30,31],[6,9,25],aa,aB,i+1,rfl,aA,rfl, ?_⟩
   rw[Nat.succ_mul]
   rfl
 ·have t2:=ez aA
  obtain rfl:i=r:=aa
  rw[je hz]
  (repeat(first|(refine af rfl rfl ?_;conv=>whnf)|(rw[t2];conv=>whnf)))
  exact Q20
theorem N0 {r c:Nat} (hr:r≤2048) (hc:c≤2048) (F:Nat→Nat→Rat) (g:FuncId) (p:Pred)
  (hf:∀i k,i<r→k<c→ab Tryz.prog g ([]++([iv (i:Nat),iv (k:Nat)]++[.atom p])) [] (.frac (F i k)) [] []):
  ab Tryz.prog 92 [iv r,iv c,.clo g [] [.atom p]] [] (.ct [mA r c (mk r c F),iv 0]) [] []:=by
 have k1:=oN r c
 rw[mg aa]at k1
 have hz:(mk r c F).length=r*c:=dx ..
 have vO:r*c≤2048*2048:=Nat.mul_le_mul hr hc
 have t1:IntKind.i64.wrap ((r:Int)*(c:Int))=((r*c:Nat):Int):=by rw[←Int.natCast_mul,wrap_i64 aa aa]
 refine gX [] Tryz.func92 ?_
 intro w0 ρ0 hE
 conv=>whnf
 (repeat((first|refine af rfl rfl ?_|refine ay Q3 ?_|refine aS (by assumption) ?_|rw[bne_self_eq_false]|refine⟨_,oP rfl (aj rfl) (aj rfl) Tryz.underlying137, ?_⟩|rw[t1]|rw[Int.toNat_natCast]);conv=>whnf))
 refine ai hE (fun k=>k) [0,1,2,6,9,30,31] [6,9,25] (fun m fr hp=>∃i:Nat,m=r - i∧i≤r∧fr=[(0,iv r),(1,iv c),(2,.clo g [] [.atom p]),(6,.ptr 6 0 0 0),(9,.ptr 9 0 0 0),(30,iv r),(31,iv (i:Nat))]∧
  hp=[(6,zM),(9,bM r c 25),(25,hZ ((mk r c F).take (i*c)++List.replicate (r*c - i*c) 0))]) r ?_ ?_ ?_
 ·kernel_rfl
 ·exact⟨0,rfl,Nat.zero_le _,rfl,by rw[Nat.zero_mul,List.take_zero];rfl⟩
 rintro m _ _ ⟨i,rfl,hi,rfl,rfl⟩
 conv=>whnf
 by_cases aA:i<r
 ·have t2:=dX aA
  have t3:=bA (i:=i) aa
  have yN:(i+1)*c≤r*c:=Nat.mul_le_mul_right c aA
  rw[Nat.succ_mul]at yN
  have hlen:=ek (d:=(0:Rat)) (show i*c≤r*c by omega) hz
  have o1:=AB (a:=(mk r c F).take (i*c)++List.replicate (r*c - i*c) 0) ⟨hr,hc,hlen⟩ aA 25
  (repeat(first|(refine ag rfl rfl ?_;conv=>whnf)|(refine kU (by assumption) rfl ?_;conv=>whnf)|(rw[t2];conv=>whnf)))
  refine ai hE (fun k=>k) [0,1,2,6,9,10,11,30,31,37,38] [6,9,25] (fun m fr hp=>∃k:Nat,m=c - k∧k≤c∧fr=[(0,iv r),(1,iv c),(2,.clo g [] [.atom p]),(6,.ptr 6 0 0 0),(9,.ptr 9 0 0 0),(10,iv (i:Nat)),(11,.aN 25 5 (i*c) c),(30,iv r),(31,iv (i:Nat)),(37,iv c),(38,iv (k:Nat))]∧
   hp=[(6,zM),(9,bM r c 25),(25,hZ ((mk r c F).take (i*c+k)++List.replicate (r*c - (i*c+k)) 0))]) c ?_ ?_ ?_
  ·kernel_rfl
  ·exact⟨0,rfl,Nat.zero_le _,rfl,rfl⟩
  rintro m _ _ ⟨k,rfl,hk,rfl,rfl⟩
  conv=>whnf
  by_cases hlk:k<c
  ·have t4:=dX hlk
   have t5:=bA (i:=k) aa
   have hlen:=ek (d:=(0:Rat)) (show i*c+k≤r*c by omega) hz
   have o2:=hf i k aA hlk
   rw[←fy (f:=F) aA hlk]at o2
   (repeat((first|refine ag rfl rfl ?_|refine aX Q3 ?_|refine ay Q3 ?_|refine aS (by assumption) ?_|rw[t4]|rw[t5]|rw[Int.toNat_natCast]);conv=>whnf))
   refine⟨c - (k+1),fun k=>k,[0,1,2,6,9,10,11,30,31,37,38],[6,9,25],aa,aB,k+1,rfl,hlk,rfl, ?_⟩
   rw[show i*c+(k+1)=i*c+k+1 from rfl,hZ,←jd (e:=0) (show i*c+k<r*c by omega) hz]
   rfl
  ·have t4:=ez hlk
   obtain rfl:k=c:=aa
   (repeat(first|(refine af rfl rfl ?_;conv=>whnf)|(rw[t4];conv=>whnf)|(rw[t3];conv=>whnf)))
   refine⟨r - (i+1),fun k=>k,[0,1,2,6,9,30,31],[6,9,25],aa,aB,i+1,rfl,aA,rfl, ?_⟩
   rw[Nat.succ_mul]
   rfl
 ·have t2:=ez aA
  obtain rfl:i=r:=aa
  rw[je hz]
  (repeat(first|(refine af rfl rfl ?_;conv=>whnf)|(rw[t2];conv=>whnf)))
  exact Q20
theorem FE {r c:Nat} (hr:r≤2048) (hc:c≤2048) (F:Nat→Nat→Rat) (g:FuncId) (p q:Pred)
  (hf:∀i k,i<r→k<c→ab Tryz.prog g ([]++([iv (i:Nat),iv (k:Nat)]++[.atom p,.atom q])) [] (.frac (F i k)) [] []):
  ab Tryz.prog 92 [iv r,iv c,.clo g [] [.atom p,.atom q]] [] (.ct [mA r c (mk r c F),iv 0]) [] []:=by
 have k1:=oN r c
 rw[mg aa]at k1
 have hz:(mk r c F).length=r*c:=dx ..
 have vO:r*c≤2048*2048:=Nat.mul_le_mul hr hc
 have t1:IntKind.i64.wrap ((r:Int)*(c:Int))=((r*c:Nat):Int):=by rw[←Int.natCast_mul,wrap_i64 aa aa]
 refine gX [] Tryz.func92 ?_
 intro w0 ρ0 hE
 conv=>whnf
 (repeat((first|refine af rfl rfl ?_|refine ay Q3 ?_|refine aS (by assumption) ?_|rw[bne_self_eq_false]|refine⟨_,oP rfl (aj rfl) (aj rfl) Tryz.underlying137, ?_⟩|rw[t1]|rw[Int.toNat_natCast]);conv=>whnf))
 refine ai hE (fun k=>k) [0,1,2,6,9,30,31] [6,9,25] (fun m fr hp=>∃i:Nat,m=r - i∧i≤r∧fr=[(0,iv r),(1,iv c),(2,.clo g [] [.atom p,.atom q]),(6,.ptr 6 0 0 0),(9,.ptr 9 0 0 0),(30,iv r),(31,iv (i:Nat))]∧
  hp=[(6,zM),(9,bM r c 25),(25,hZ ((mk r c F).take (i*c)++List.replicate (r*c - i*c) 0))]) r ?_ ?_ ?_
 ·kernel_rfl
 ·exact⟨0,rfl,Nat.zero_le _,rfl,by rw[Nat.zero_mul,List.take_zero];rfl⟩
 rintro m _ _ ⟨i,rfl,hi,rfl,rfl⟩
 conv=>whnf
 by_cases aA:i<r
 ·have t2:=dX aA
  have t3:=bA (i:=i) aa
  have yN:(i+1)*c≤r*c:=Nat.mul_le_mul_right c aA
  rw[Nat.succ_mul]at yN
  have hlen:=ek (d:=(0:Rat)) (show i*c≤r*c by omega) hz
  have o1:=AB (a:=(mk r c F).take (i*c)++List.replicate (r*c - i*c) 0) ⟨hr,hc,hlen⟩ aA 25
  (repeat(first|(refine ag rfl rfl ?_;conv=>whnf)|(refine kU (by assumption) rfl ?_;conv=>whnf)|(rw[t2];conv=>whnf)))
  refine ai hE (fun k=>k) [0,1,2,6,9,10,11,30,31,37,38] [6,9,25] (fun m fr hp=>∃k:Nat,m=c - k∧k≤c∧fr=[(0,iv r),(1,iv c),(2,.clo g [] [.atom p,.atom q]),(6,.ptr 6 0 0 0),(9,.ptr 9 0 0 0),(10,iv (i:Nat)),(11,.aN 25 5 (i*c) c),(30,iv r),(31,iv (i:Nat)),(37,iv c),(38,iv (k:Nat))]∧
   hp=[(6,zM),(9,bM r c 25),(25,hZ ((mk r c F).take (i*c+k)++List.replicate (r*c - (i*c+k)) 0))]) c ?_ ?_ ?_
  ·kernel_rfl
  ·exact⟨0,rfl,Nat.zero_le _,rfl,rfl⟩
  rintro m _ _ ⟨k,rfl,hk,rfl,rfl⟩
  conv=>whnf
  by_cases hlk:k<c
  ·have t4:=dX hlk
   have t5:=bA (i:=k) aa
   have hlen:=ek (d:=(0:Rat)) (show i*c+k≤r*c by omega) hz
   have o2:=hf i k aA hlk
   rw[←fy (f:=F) aA hlk]at o2
   (repeat((first|refine ag rfl rfl ?_|refine aX Q3 ?_|refine ay Q3 ?_|refine aS (by assumption) ?_|rw[t4]|rw[t5]|rw[Int.toNat_natCast]);conv=>whnf))
   refine⟨c - (k+1),fun k=>k,[0,1,2,6,9,10,11,30,31,37,38],[6,9,25],aa,aB,k+1,rfl,hlk,rfl, ?_⟩
   rw[show i*c+(k+1)=i*c+k+1 from rfl,hZ,←jd (e:=0) (show i*c+k<r*c by omega) hz]
   rfl
  ·have t4:=ez hlk
   obtain rfl:k=c:=aa
   (repeat(first|(refine af rfl rfl ?_;conv=>whnf)|(rw[t4];conv=>whnf)|(rw[t3];conv=>whnf)))
   refine⟨r - (i+1),fun k=>k,[0,1,2,6,9,30,31],[6,9,25],aa,aB,i+1,rfl,aA,rfl, ?_⟩
   rw[Nat.succ_mul]
   rfl
 ·have t2:=ez aA
  obtain rfl:i=r:=aa
  rw[je hz]
  (repeat(first|(refine af rfl rfl ?_;conv=>whnf)|(rw[t2];conv=>whnf)))
  exact Q20
theorem FF {r c:Nat} (hr:r≤2048) (hc:c≤2048) (F:Nat→Nat→Rat) (g:FuncId) (p q s:Pred)
  (hf:∀i k,i<r→k<c→ab Tryz.prog g ([]++([iv (i:Nat),iv (k:Nat)]++[.atom p,.atom q,.atom s])) [] (.frac (F i k)) [] []):
  ab Tryz.prog 92 [iv r,iv c,.clo g [] [.atom p,.atom q,.atom s]] [] (.ct [mA r c (mk r c F),iv 0]) [] []:=by
 have k1:=oN r c
 rw[mg aa]at k1
 have hz:(mk r c F).length=r*c:=dx ..
 have vO:r*c≤2048*2048:=Nat.mul_le_mul hr hc
 have t1:IntKind.i64.wrap ((r:Int)*(c:Int))=((r*c:Nat):Int):=by rw[←Int.natCast_mul,wrap_i64 aa aa]
 refine gX [] Tryz.func92 ?_
 intro w0 ρ0 hE
 conv=>whnf
 (repeat((first|refine af rfl rfl ?_|refine ay Q3 ?_|refine aS (by assumption) ?_|rw[bne_self_eq_false]|refine⟨_,oP rfl (aj rfl) (aj rfl) Tryz.underlying137, ?_⟩|rw[t1]|rw[Int.toNat_natCast]);conv=>whnf))
 refine ai hE (fun k=>k) [0,1,2,6,9,30,31] [6,9,25] (fun m fr hp=>∃i:Nat,m=r - i∧i≤r∧fr=[(0,iv r),(1,iv c),(2,.clo g [] [.atom p,.atom q,.atom s]),(6,.ptr 6 0 0 0),(9,.ptr 9 0 0 0),(30,iv r),(31,iv (i:Nat))]∧
  hp=[(6,zM),(9,bM r c 25),(25,hZ ((mk r c F).take (i*c)++List.replicate (r*c - i*c) 0))]) r ?_ ?_ ?_
 ·kernel_rfl
 ·exact⟨0,rfl,Nat.zero_le _,rfl,by rw[Nat.zero_mul,List.take_zero];rfl⟩
 rintro m _ _ ⟨i,rfl,hi,rfl,rfl⟩
 conv=>whnf
 by_cases aA:i<r
 ·have t2:=dX aA
  have t3:=bA (i:=i) aa
  have yN:(i+1)*c≤r*c:=Nat.mul_le_mul_right c aA
  rw[Nat.succ_mul]at yN
  have hlen:=ek (d:=(0:Rat)) (show i*c≤r*c by omega) hz
  have o1:=AB (a:=(mk r c F).take (i*c)++List.replicate (r*c - i*c) 0) ⟨hr,hc,hlen⟩ aA 25
  (repeat(first|(refine ag rfl rfl ?_;conv=>whnf)|(refine kU (by assumption) rfl ?_;conv=>whnf)|(rw[t2];conv=>whnf)))
  refine ai hE (fun k=>k) [0,1,2,6,9,10,11,30,31,37,38] [6,9,25] (fun m fr hp=>∃k:Nat,m=c - k∧k≤c∧fr=[(0,iv r),(1,iv c),(2,.clo g [] [.atom p,.atom q,.atom s]),(6,.ptr 6 0 0 0),(9,.ptr 9 0 0 0),(10,iv (i:Nat)),(11,.aN 25 5 (i*c) c),(30,iv r),(31,iv (i:Nat)),(37,iv c),(38,iv (k:Nat))]∧
   hp=[(6,zM),(9,bM r c 25),(25,hZ ((mk r c F).take (i*c+k)++List.replicate (r*c - (i*c+k)) 0))]) c ?_ ?_ ?_
  ·kernel_rfl
  ·exact⟨0,rfl,Nat.zero_le _,rfl,rfl⟩
  rintro m _ _ ⟨k,rfl,hk,rfl,rfl⟩
  conv=>whnf
  by_cases hlk:k<c
  ·have t4:=dX hlk
   have t5:=bA (i:=k) aa
   have hlen:=ek (d:=(0:Rat)) (show i*c+k≤r*c by omega) hz
   have o2:=hf i k aA hlk
   rw[←fy (f:=F) aA hlk]at o2
   (repeat((first|refine ag rfl rfl ?_|refine aX Q3 ?_|refine ay Q3 ?_|refine aS (by assumption) ?_|rw[t4]|rw[t5]|rw[Int.toNat_natCast]);conv=>whnf))
   refine⟨c - (k+1),fun k=>k,[0,1,2,6,9,10,11,30,31,37,38],[6,9,25],aa,aB,k+1,rfl,hlk,rfl, ?_⟩
   rw[show i*c+(k+1)=i*c+k+1 from rfl,hZ,←jd (e:=0) (show i*c+k<r*c by omega) hz]
   rfl
  ·have t4:=ez hlk
   obtain rfl:k=c:=aa
   (repeat(first|(refine af rfl rfl ?_;conv=>whnf)|(rw[t4];conv=>whnf)|(rw[t3];conv=>whnf)))
   refine⟨r - (i+1),fun k=>k,[0,1,2,6,9,30,31],[6,9,25],aa,aB,i+1,rfl,aA,rfl, ?_⟩
   rw[Nat.succ_mul]
   rfl
 ·have t2:=ez aA
  obtain rfl:i=r:=aa
  rw[je hz]
  (repeat(first|(refine af rfl rfl ?_;conv=>whnf)|(rw[t2];conv=>whnf)))
  exact Q20
theorem J8 (i k:Nat):delta i k=if i=k then((1:Int):Rat)else 0:=by unfold delta;split<;>simp
theorem YL (i k:Nat) (hi:i≤2048) (hk:k≤2048):ab Tryz.prog 192 ([]++([iv (i:Nat),iv (k:Nat)]++[])) [] (.frac (delta i k)) [] []:=by
 have k1:=ju 1 aF aF
 rw[J8]
 refine bP [] Tryz.func192 ?_
 intro W0 w0 ρ0 hE
 conv=>whnf
 by_cases h:i=k
 ·have t1:((i:Int) != (k:Int))=false:=by rw[h];exact bne_self_eq_false _
  rw[if_pos h]
  (repeat(first|(refine af rfl rfl ?_;conv=>whnf)|(refine aS (by assumption) ?_;conv=>whnf)|(rw[t1];conv=>whnf)));exact Q5
 ·have t1:((i:Int) != (k:Int))=true:=bne_iff_ne.2 aa
  rw[if_neg h]
  (repeat(first|(refine ag rfl rfl ?_;conv=>whnf)|(rw[t1];conv=>whnf)));exact Q5
theorem QQ (n:Nat) (hn:n≤2048):ab Tryz.prog 57 [iv n] [] (.ct [mA n n (ig n),iv 0]) [] []:=by
 have k1:=NZ hn hn delta 192 (fun i k hi hk=>YL i k aa aa)
 refine bP [] Tryz.func57 ?_
 intro W0 w0 ρ0 hE
 conv=>whnf
 (repeat(first|(refine aS (by assumption) ?_;conv=>whnf)));exact Q5
theorem YM {F:Rat→Rat→Rat} {r c:Nat} {a b:List Rat} (ha:a.length=r*c) (hb:b.length=r*c):mk r c (fun i k=>F (el a c i k) (el b c i k))=List.zipWith F a b:=
 JO (Fc ha hb) fun i k hi hk=>(Fe (by rw[ha];exact dN hi hk) (by rw[hb];exact dN hi hk)).symm
theorem N1 (F:Rat→Rat→Rat) (g:FuncId) (p:Pred) {r c:Nat} {a b:List Rat} (ha:jq r c a) (hb:jq r c b)
  (hf:∀i k,i<r→k<c→ab Tryz.prog g ([]++([.frac (el a c i k),.frac (el b c i k)]++[.atom p])) [] (.frac (F (el a c i k) (el b c i k))) [] []):
  ab Tryz.prog 103 [mA r c a,mA r c b,.clo g [] [.atom p]] [] (.ct [mA r c (List.zipWith F a b),iv 0]) [] []:=by
 have k1:=J7 ha hb
 have kc:∀i k,i<r→k<c→ab Tryz.prog 219 ([]++([iv (i:Nat),iv (k:Nat)]++[bG [.clo g [] [.atom p]],bG (mC r c a),bG (mC r c b)])) [] (.frac (F (el a c i k) (el b c i k))) [] []:=by
  intro i k hi hk
  have o1:=Hc ha hi hk
  have o2:=Hc hb hi hk
  have o3:=hf i k hi hk
  refine bP [] Tryz.func219 ?_
  intro W0 w0 ρ0 hE
  conv=>whnf
  (repeat(first|(refine aw aB ?_;conv=>whnf)|(refine aS (by assumption) ?_;conv=>whnf)|(refine ak Q6 ?_;conv=>whnf)));exact Q5
 have k2:=FF ha.r ha.c _ 219 (eS [.clo g [] [.atom p]]) (eS (mC r c a)) (eS (mC r c b)) kc
 rw[YM ha.n hb.n]at k2
 refine bP [3,4,5,11] Tryz.func103 ?_
 intro W0 w0 ρ0 hE
 conv=>whnf
 (repeat((first|refine ag rfl rfl ?_|refine af rfl rfl ?_|refine aS (by assumption) ?_|refine ak jo ?_|rw[bne_self_eq_false]|refine ak Q6 ?_|refine ak Q9 ?_|refine ak uf ?_);conv=>whnf));exact Q5
theorem J9 (c x y:Rat) (h:fs c+fs x≤1073741824):ab Tryz.prog 194 ([]++([.frac x,.frac y]++[bG [.frac c]])) [] (.frac (c*x)) [] []:=by
 have k1:=Cl c x h
 refine bP [] Tryz.func194 ?_
 intro W0 w0 ρ0 hE
 conv=>whnf
 (repeat(first|(refine aS (by assumption) ?_;conv=>whnf)|(refine ak Q6 ?_;conv=>whnf)));exact Q5
theorem N2 {r c A C:Nat} {q:Rat} {a:List Rat} (ha:jq r c a) (hq:fs q≤C) (sa:Sm A a) (h:C+A≤1073741824):ab Tryz.prog 66 [.frac q,mA r c a] [] (.ct [mA r c (n7 q a),iv 0]) [] []:=by
 have k1:=N1 (fun x _=>q*x) 194 (eS [.frac q]) ha ha (fun i k hi hk=>J9 _ _ _ (by have:=mb sa ha.n hi hk;omega))
 refine bP [2] Tryz.func66 ?_
 intro W0 w0 ρ0 hE
 conv=>whnf
 (repeat(first|(refine aS (by assumption) ?_;conv=>whnf)|(refine ak uf ?_;conv=>whnf)));exact Q5
theorem N3 {r c:Nat} {a:List Rat} (ha:jq r c a) (i k:Nat) (hi:i<c) (hk:k<r):ab Tryz.prog 101 ([]++([iv (i:Nat),iv (k:Nat)]++[bG (mC r c a)])) [] (.frac (el a c k i)) [] []:=by
 have k1:=Hc ha hk hi
 refine bP [] Tryz.func101 ?_
 intro W0 w0 ρ0 hE
 conv=>whnf
 (repeat(first|(refine aS (by assumption) ?_;conv=>whnf)|(refine ak Q6 ?_;conv=>whnf)));exact Q5
theorem Ka {r c:Nat} {a:List Rat} (ha:jq r c a):ab Tryz.prog 16 [mA r c a] [] (.ct [mA c r (JP r c a),iv 0]) [] []:=by
 have k0:=kI ha
 have k1:=N0 ha.c ha.r _ 101 (eS (mC r c a)) (fun i k hi hk=>N3 ha i k hi hk)
 refine bP [1] Tryz.func16 ?_
 intro W0 w0 ρ0 hE
 conv=>whnf
 (repeat((first|refine af rfl rfl ?_|refine aS (by assumption) ?_|rw[bne_self_eq_false]|refine ak Q6 ?_|refine ak Q9 ?_|refine ak uf ?_);conv=>whnf));exact Q5
theorem YN {r s t A B S:Nat} {a b:List Rat} (ha:jq r s a) (hb:jq s t b) (sa:Sm A a) (sb:Sm B b) (hS:s≤S) (h:A+B+(2+S*(A+B))≤1073741824) (i k:Nat) (hi:i<r) (hk:k<t):
  ab Tryz.prog 196 ([]++([iv (i:Nat),iv (k:Nat)]++[bG (mC r s a),bG (mC s t b)])) [] (.frac (aH s fun p=>el a s i p*el b t p k)) [] []:=by
 have hs:=ha.c
 refine bP [] Tryz.func196 ?_
 intro W0 w0 ρ0 hE
 conv=>whnf
 (repeat(first|(refine ak Q6 ?_;conv=>whnf)|(refine ak Q9 ?_;conv=>whnf)))
 refine ai hE (fun k=>k) [0,1,2,3,6,7,11,12] [6,7] (fun m fr hp=>∃(p:Nat) (q:Rat),m=s - p∧p≤s∧q=aH p (fun p=>el a s i p*el b t p k)∧fs q≤2+p*(A+B)∧fr=[(0,iv (i:Nat)),(1,iv (k:Nat)),(2,bG (mC r s a)),(3,bG (mC s t b)),(6,.ptr 6 0 0 0),(7,.ptr 7 0 0 0),(11,iv s),(12,iv (p:Nat))]∧hp=[(6,⟨52,true,.one [.frac 0]⟩),(7,⟨52,true,.one [.frac q]⟩)]) s ?_ ?_ ?_
 ·kernel_rfl
 ·exact⟨0,0,rfl,Nat.zero_le _,rfl,by rw[mU];omega,rfl,rfl⟩
 rintro m _ _ ⟨p,q,rfl,hp,hq,GM,rfl,rfl⟩
 conv=>whnf
 by_cases aA:p<s
 ·have t1:=dX aA
  have t2:=bA (i:=p) aa
  have o1:=Hc ha hi aA
  have o2:=Hc hb aA hk
  have b1:=mb sa ha.n hi aA
  have b2:=mb sb hb.n aA hk
  have b3:=lK (el a s i p) (el b t p k)
  have b4:=Nat.mul_le_mul_right (A+B) (show p≤S by omega)
  have o3:=Cl (el a s i p) (el b t p k) aa
  have o4:=ab8 q (el a s i p*el b t p k) aa
  have b5:=JH q (el a s i p*el b t p k)
  have e1:aH (p+1) (fun p=>el a s i p*el b t p k)=q+el a s i p*el b t p k:=by rw[hq];rfl
  have e2:fs (q+el a s i p*el b t p k)≤2+(p+1)*(A+B):=by rw[Nat.succ_mul];omega
  clear hq GM b1 b2 b3 b4 b5
  generalize q+el a s i p*el b t p k=q1 at*
  (repeat((first|refine ag rfl rfl ?_|refine aw aB ?_|refine aS (by assumption) ?_|refine ak Q6 ?_|rw[t1]|rw[t2]);conv=>whnf))
  exact⟨s - (p+1),fun k=>k,[0,1,2,3,6,7,11,12],[6,7],aa,aB,p+1,q1,rfl,aA,e1.symm,e2,rfl,rfl⟩
 ·have t1:=ez aA
  have hP:p=s:=aa
  subst hP
  rw[←hq]
  (repeat(first|(refine af rfl rfl ?_;conv=>whnf)|(rw[t1];conv=>whnf)));exact Q5
theorem FG {r s t A B:Nat} (S:Nat) {a b:List Rat} (ha:jq r s a) (hb:jq s t b) (sa:Sm A a) (sb:Sm B b) (hS:s≤S) (h:A+B+(2+S*(A+B))≤1073741824):
  ab Tryz.prog 67 [mA r s a,mA s t b] [] (.ct [mA r t (qY r s t a b),iv 0]) [] []:=by
 have k0:=J7 ha hb
 have k1:=FE ha.r hb.c _ 196 (eS (mC r s a)) (eS (mC s t b)) (YN ha hb sa sb hS h)
 refine bP [2,3,9] Tryz.func67 ?_
 intro W0 w0 ρ0 hE
 conv=>whnf
 (repeat((first|refine af rfl rfl ?_|refine aS (by assumption) ?_|rw[bne_self_eq_false]|refine ak Q6 ?_|refine ak Q9 ?_|refine ak uf ?_);conv=>whnf));exact Q5
theorem pR {a:List Rat} {r c i A:Nat} (sa:Sm A a) (ha:a.length=r*c) (hi:i<r):Sm A (cj a c i):=by
 intro k hk
 rw[cE hi ha]at hk
 rw[eK hk];exact mb sa ha hi hk
theorem N4 (a b:List Rat) (ha:a.length<1099511627776) (hb:b.length<1099511627776):ab Tryz.prog 108 [cX a,cX b] [] (.val (.bool (decide (a=b)))) [] []:=by
 refine bP [] Tryz.func108 ?_
 intro W0 w0 ρ0 hE
 conv=>whnf
 by_cases B8:a.length=b.length
 ·have t0:((a.length:Int) != (b.length:Int))=false:=by rw[B8];exact bne_self_eq_false _
  (repeat(first|(refine af rfl rfl ?_;conv=>whnf)|(refine ak cO ?_;conv=>whnf)|(rw[t0];conv=>whnf)))
  refine ai hE (fun k=>k) [0,1,4,11,12,13] [] (fun m fr hp=>∃i,m=a.length - i∧i≤a.length∧a.take i=b.take i∧fr=[(0,cX a),(1,cX b),(4,.val (.bool false)),(11,cX a),(12,.val (.int .i64 (a.length:Nat))),(13,.val (.int .i64 (i:Nat)))]∧hp=[]) a.length ?_ ?_ ?_
  ·kernel_rfl
  ·exact⟨0,rfl,Nat.zero_le _,rfl,rfl,rfl⟩
  rintro m _ _ ⟨i,rfl,hi,ht,rfl,rfl⟩
  conv=>whnf
  by_cases aA:i<a.length
  ·have t1:=dX aA
   have t2:=bA (i:=i) aa
   by_cases hv:a.getD i 0=b.getD i 0
   ·have t3:(!decide (a.getD i 0=b.getD i 0))=false:=by rw[decide_eq_true hv];rfl
    (repeat((first|refine ag rfl rfl ?_|refine af rfl rfl ?_|refine aw aB ?_|refine ak Ai ?_|refine ak Q6 ?_|refine⟨_,dK aL df rfl (aj rfl) (aj rfl) rfl rfl rfl rfl (Ec _ _) uV, ?_⟩|rw[t1]|rw[t3]|rw[t2]);conv=>whnf))
    exact⟨a.length - (i+1),fun k=>k,[0,1,4,11,12,13],[],aa,aB,i+1,rfl,aA,by rw[oH a i aA,oH b i aa,ht,hv],rfl,rfl⟩
   ·have t3:(!decide (a.getD i 0=b.getD i 0))=true:=by rw[decide_eq_false hv];rfl
    have e:decide (a=b)=false:=decide_eq_false (fun h=>hv (by rw[h]))
    rw[e]
    (repeat((first|refine ag rfl rfl ?_|refine aw aB ?_|refine ak Ai ?_|refine ak Q6 ?_|refine⟨_,dK aL df rfl (aj rfl) (aj rfl) rfl rfl rfl rfl (Ec _ _) uV, ?_⟩|rw[t1]|rw[t3]);conv=>whnf));exact Q5
  ·have t1:=ez aA
   have hI:i=a.length:=aa
   have e:decide (a=b)=true:=decide_eq_true (by rw[hI,List.take_length]at ht;rw[ht,B8,List.take_length])
   rw[e]
   (repeat(first|(refine af rfl rfl ?_;conv=>whnf)|(rw[t1];conv=>whnf)));exact Q5
 ·have t0:((a.length:Int) != (b.length:Int))=true:=bne_iff_ne.2 aa
  have e:decide (a=b)=false:=decide_eq_false (fun h=>B8 (by rw[h]))
  rw[e]
  (repeat(first|(refine ag rfl rfl ?_;conv=>whnf)|(refine ak cO ?_;conv=>whnf)|(rw[t0];conv=>whnf)));exact Q5
def FH (r c s t:Int) (a b:List Rat):Bool:=r==s&&c==t&&decide (a=b)
theorem YO (r c s t:Int) (a b:List Rat) (ha:a.length<1099511627776) (hb:b.length<1099511627776):ab Tryz.prog 20 [mA r c a,mA s t b] [] (.val (.bool (FH r c s t a b))) [] []:=by
 have k1:=N4 a b ha hb
 unfold FH
 refine bP [] Tryz.func20 ?_
 intro W0 w0 ρ0 hE
 conv=>whnf
 cases h1:(r==s)
 ·(repeat(first|(refine af rfl rfl ?_;conv=>whnf)|(refine ak jo ?_;conv=>whnf)));exact Q5
 ·cases h2:(c==t)
  ·(repeat((first|refine ag rfl rfl ?_|refine af rfl rfl ?_|refine ak jJ ?_|refine ak jo ?_|rw[h2]);conv=>whnf));exact Q5
  ·(repeat((first|refine ag rfl rfl ?_|refine aS (by assumption) ?_|refine ak jJ ?_|rw[h2]);conv=>whnf));exact Q5
theorem Cy (l:List Int) (g:FuncId) (p:Pred) (P:Int→Bool) (hl:l.length<1099511627776) (hf:∀x∈l,ab Tryz.prog g ([]++([iv x]++[.atom p])) [] (.val (.bool (P x))) [] []):
  ab Tryz.prog 303 [cF .i64 l,.clo g [] [.atom p]] [] (iv (if l.any P then(l.findIdx P:Nat)else -1)) [] []:=by
 refine bP [] Tryz.func303 ?_
 intro W0 w0 ρ0 hE
 conv=>whnf
 (repeat(first|(refine ak cO ?_;conv=>whnf)))
 refine ai hE (fun k=>k) [0,1,7,8] [] (fun m fr hp=>∃i:Nat,m=l.length - i∧i≤l.length∧(∀j,j<i→P (l.getD j 0)=false)∧fr=[(0,cF .i64 l),(1,.clo g [] [.atom p]),(7,iv (l.length:Nat)),(8,iv (i:Nat))]∧hp=[]) l.length ?_ ?_ ?_
 ·kernel_rfl
 ·exact⟨0,rfl,Nat.zero_le _,(fun j hj=>aa),rfl,rfl⟩
 rintro m _ _ ⟨i,rfl,hi,hs,rfl,rfl⟩
 conv=>whnf
 by_cases aA:i<l.length
 ·have t1:=dX aA
  have t2:=bA (i:=i) aa
  have o1:=hf _ (fv (d:=0) aA)
  cases hP:P (l.getD i 0)
  ·rw[hP]at o1
   (repeat((first|refine ag rfl rfl ?_|refine af rfl rfl ?_|refine aS (by assumption) ?_|refine ak Q6 ?_|refine ak nA ?_|rw[t1]|rw[t2]);conv=>whnf))
   refine⟨l.length - (i+1),fun k=>k,[0,1,7,8],[],aa,aB,i+1,rfl,aA, ?_,rfl,rfl⟩
   intro j hj
   by_cases hji:j=i
   ·rw[hji];exact hP
   ·exact hs j aa
  ·rw[hP]at o1
   have e1:l.any P=true:=Sb (d:=0) aA hP
   have e2:l.findIdx P=i:=by
    rw[List.findIdx_eq aA]
    refine⟨by rw[List.getD_eq_getElem?_getD,List.getElem?_eq_getElem aA]at hP;exact hP,fun j hj=> ?_⟩
    have:=hs j hj
    rw[List.getD_eq_getElem?_getD,List.getElem?_eq_getElem aa]at this
    exact this
   rw[if_pos e1,e2]
   (repeat((first|refine ag rfl rfl ?_|refine aS (by assumption) ?_|refine ak Q6 ?_|refine ak nA ?_|rw[t1]);conv=>whnf));exact Q5
 ·have t1:=ez aA
  have hI:i=l.length:=aa
  subst hI
  have e1:l.any P=false:=DL 0 hs
  rw[if_neg (by rw[e1];exact Bool.false_ne_true)]
  (repeat(first|(refine af rfl rfl ?_;conv=>whnf)|(rw[t1];conv=>whnf)));exact Q5
theorem og (l:List Int) (g:FuncId) (p:Pred) (P:Int→Bool) (hl:l.length<1099511627776) (hf:∀x∈l,ab Tryz.prog g ([]++([iv x]++[.atom p])) [] (.val (.bool (P x))) [] []):
  ab Tryz.prog 214 [cF .i64 l,.clo g [] [.atom p]] [] (.val (.bool (l.any P))) [] []:=by
 have k1:=Cy l g p P hl hf
 refine bP [] Tryz.func214 ?_
 intro W0 w0 ρ0 hE
 conv=>whnf
 cases h:l.any P
 ·rw[if_neg (by rw[h];exact Bool.false_ne_true)]at k1
  (repeat(first|(refine aS (by assumption) ?_;conv=>whnf)));exact Q5
 ·rw[if_pos h]at k1
  have t1:decide (((l.findIdx P:Nat):Int)≥0)=true:=decide_eq_true aa
  (repeat(first|(refine aS (by assumption) ?_;conv=>whnf)|(rw[t1];conv=>whnf)));exact Q5
abbrev He (n:Nat) (i:Int):Bool:= !decide (0≤i∧i<(n:Int))
abbrev FI (c:Nat) (a:List Rat) (rows cols:List Int):List Rat:=mk rows.length cols.length fun i k=>el a c (rows.getD i 0).toNat (cols.getD k 0).toNat
theorem YP {r c:Nat} {a:List Rat} (ha:jq r c a) (rows cols:List Int) (hr:rows.length≤2048) (hc:cols.length≤2048) (h1:∀x∈rows,0≤x∧x<r) (h2:∀x∈cols,0≤x∧x<c):
  ab Tryz.prog 95 [mA r c a,cF .i64 rows,cF .i64 cols] [] (.ct [mA rows.length cols.length (FI c a rows cols),iv 0]) [] []:=by
 have k0:=kI ha
 have k1:=oN rows.length cols.length
 rw[mg aa]at k1
 have ka:=og rows 215 (eS (mC r c a)) (He r) aa (fun x _=>by
  have k1:=QP x r
  refine bP [] Tryz.func215 ?_
  intro W0 w0 ρ0 hE
  conv=>whnf
  (repeat(first|(refine aS (by assumption) ?_;conv=>whnf)|(refine ak Q6 ?_;conv=>whnf)|(refine ak Q9 ?_;conv=>whnf)));exact Q5)
 have kb:=og cols 216 (eS (mC r c a)) (He c) aa (fun x _=>by
  have k1:=QP x c
  refine bP [] Tryz.func216 ?_
  intro W0 w0 ρ0 hE
  conv=>whnf
  (repeat(first|(refine aS (by assumption) ?_;conv=>whnf)|(refine ak Q6 ?_;conv=>whnf)|(refine ak Q9 ?_;conv=>whnf)));exact Q5)
 have e1:rows.any (He r)=false:=DL 0 fun i hi=>by rw[He,decide_eq_true (h1 _ (fv hi))];rfl
 have e2:cols.any (He c)=false:=DL 0 fun i hi=>by rw[He,decide_eq_true (h2 _ (fv hi))];rfl
 rw[e1]at ka
 rw[e2]at kb
 have k2:=FF hr hc (fun i k=>el a c (rows.getD i 0).toNat (cols.getD k 0).toNat) 217 (eS (mC r c a)) (eS [cF .i64 rows]) (eS [cF .i64 cols]) (fun i k hi hk=>by
  have g1:=h1 _ (fv (d:=0) hi)
  have g2:=h2 _ (fv (d:=0) hk)
  have o1:=Hc ha (i:=(rows.getD i 0).toNat) (k:=(cols.getD k 0).toNat) aa aa
  rw[Int.toNat_of_nonneg g1.1,Int.toNat_of_nonneg g2.1]at o1
  refine bP [] Tryz.func217 ?_
  intro W0 w0 ρ0 hE
  conv=>whnf
  (repeat((first|refine aw aB ?_|refine aS (by assumption) ?_|refine ak Q6 ?_|refine ak nA ?_);conv=>whnf));exact Q5)
 refine bP [3,4,5] Tryz.func95 ?_
 intro W0 w0 ρ0 hE
 conv=>whnf
 (repeat((first|refine ag rfl rfl ?_|refine af rfl rfl ?_|refine aS (by assumption) ?_|refine ak jo ?_|rw[bne_self_eq_false]|refine ak cO ?_|refine ak Q6 ?_|refine ak uf ?_);conv=>whnf));exact Q5
def aP (r c:Nat) (a:List Rat):List (List Rat):=(List.range r).map (cj a c)
def tM (r c:Nat) (a:List Rat):ByteArray:=⟨(Lib.join (((aP r c a).map tV).map (·.data.toList)) [32]).toArray⟩
theorem gJ {r c i:Nat} {a:List Rat} (hi:i<r):(aP r c a).getD i []=cj a c i:=by simp[aP,List.getD_eq_getElem?_getD,hi]
theorem di (r c:Nat) (a:List Rat):(aP r c a).length=r:=by simp[aP]
theorem AD {a:List Rat} {B:Nat} (h:∀i,i<a.length→fs (a.getD i 0)≤B):(tV a).data.toList.length≤2+a.length*(2*B+5):=by
 have h1:=mf ((a.map tQ).map (·.data.toList)) (2*B+4) (by
  intro x hx
  obtain⟨s,hs,rfl⟩:=List.mem_map.1 hx
  obtain⟨q,hq,rfl⟩:=List.mem_map.1 hs
  obtain⟨i,hi,rfl⟩:=qP hq 0
  have h1:=Az (a.getD i 0)
  have h2:=h i hi
  have:(tQ (a.getD i 0)).data.toList.length=(tQ (a.getD i 0)).size:=Array.length_toList
  show(tQ (a.getD i 0)).data.toList.length≤_
  omega)
 rw[List.length_map,List.length_map]at h1
 have e1: "[".toByteArray.data.toList.length=1:=by decide+kernel
 have e2: "]".toByteArray.data.toList.length=1:=by decide+kernel
 unfold tV
 rw[ByteArray.data_append,ByteArray.data_append,Array.toList_append,Array.toList_append,List.length_append,List.length_append]
 show "[".toByteArray.data.toList.length+(Lib.join ((a.map tQ).map (·.data.toList)) [32]).length+ "]".toByteArray.data.toList.length≤_
 rw[e1,e2]
 rw[show 2*B+4+1=2*B+5 from rfl]at h1
 omega
theorem FJ {r c B:Nat} {a:List Rat} (ha:a.length=r*c) (sa:Sm B a) {l:List Rat} (h:l∈aP r c a):l.length=c∧Sm B l:=by
 obtain⟨i,hi,rfl⟩:=List.mem_map.1 h
 have jU:=List.mem_range.1 hi
 exact⟨cE jU ha,pR sa ha jU⟩
theorem N5 {r c B:Nat} {a:List Rat} (ha:jq r c a) (sa:Sm B a) (hB:B≤1000000):(Lib.join (((aP r c a).map tV).map (·.data.toList)) [32]).length≤140737488355328:=by
 refine Nat.le_trans (mf _ (2+2048*(2*B+5)) ?_) ?_
 ·intro x hx
  obtain⟨s,hs,rfl⟩:=List.mem_map.1 hx
  obtain⟨l,hl,rfl⟩:=List.mem_map.1 hs
  obtain⟨h1,h2⟩:=FJ ha.n sa hl
  refine Nat.le_trans (AD h2) ?_
  have:=Nat.mul_le_mul_right (2*B+5) (show l.length≤2048 by rw[h1];exact ha.c)
  omega
 ·rw[List.length_map,List.length_map,di]
  have:=Nat.mul_le_mul_right (2+2048*(2*B+5)+1) ha.r
  omega
theorem Hf {l:List ByteArray} {i:Nat} {d:ByteArray} (h:i<l.length):(⟨9,true,.seq 1 ((l.take (i+1)).map qf)⟩:aC)=⟨9,true,.seq 1 (List.take i ((l.take i).map qf)++List.take 1 (List.drop 0 [qf (l.getD i d)]))⟩:=by
 have hl:((l.take i).map qf).length=i:=by rw[List.length_map,List.length_take];omega
 have e:l.take (i+1)=l.take i++[l.getD i d]:=by rw[List.take_add_one,List.getD_eq_getElem?_getD,List.getElem?_eq_getElem h];rfl
 rw[e,List.map_append,List.take_of_length_le (l:=(l.take i).map qf) aa];rfl
abbrev Kb (l:List ByteArray):aC:=⟨9,true,.seq 1 (l.map qf)⟩
theorem w8 {r c B:Nat} {a:List Rat} (ha:jq r c a) (sa:Sm B a) (hB:B≤1000000):ab Tryz.prog 110 [mA r c a] [] (.val (.string (tM r c a))) [] []:=by
 have k0:=kI ha
 have hr:=ha.r
 have la:=di r c a
 have hz:((aP r c a).map tV).length=r:=by rw[List.length_map,di]
 have kj:=JM ((aP r c a).map tV) aa (N5 ha sa hB)
 refine gX [1] Tryz.func110 ?_
 intro w0 ρ0 hE
 conv=>whnf
 (repeat((first|refine af rfl rfl ?_|refine aS (by assumption) ?_|rw[bne_self_eq_false]|refine ak Q6 ?_|refine ak Q9 ?_);conv=>whnf))
 refine bR (t:=3) (k:=2001) (s:=1) (blk:=Kb []) rfl rfl rfl ?_
 refine dd hE (fun k=>k) [1,3,9,10] [2001] (fun m fr hp=>∃i:Nat,m=r - i∧i≤r∧fr=[(1,bG (mC r c a)),(3,.aN 2001 1 0 i),(9,iv r),(10,iv (i:Nat))]∧hp=[(2001,Kb (((aP r c a).map tV).take i))]) r ?_ ?_ ?_
 ·kernel_rfl
 ·exact⟨0,rfl,Nat.zero_le _,rfl,rfl⟩
 rintro m _ _ ⟨i,rfl,hi,rfl,rfl⟩
 have Hg:((((aP r c a).map tV).take i).map qf).length=i:=by rw[List.length_map,List.length_take];omega
 by_cases aA:i<r
 ·have t1:=dX aA
  have t2:=bA (i:=i) aa
  have o1:=YK ha aA
  have l1:=cE aA ha.n
  have o2:=YJ (cj a c i) B (by have:=ha.c;omega) (pR sa ha.n aA) aa
  have lT:((aP r c a).map tV).getD i ByteArray.empty=tV (cj a c i):=by rw[oI (d:=[]) (by rw[di];exact aA),gJ aA]
  have e1:=Hf (l:=(aP r c a).map tV) (d:=ByteArray.empty) (i:=i) aa
  rw[lT]at e1
  refine ey.of hE ?_
  conv=>whnf
  (repeat((first|refine ag rfl rfl ?_|refine ay Q3 ?_|refine aS (by assumption) ?_|refine ak Q6 ?_|rw[t1]|rw[t2]);conv=>whnf))
  refine⟨r - (i+1),cx [(19,2001)],[1,3,9,10],[19],aa,aB,i+1,rfl,aA,rfl, ?_⟩
  rw[Kb,e1];rfl
 ·have t1:=ez aA
  obtain rfl:i=r:=aa
  rw[List.take_of_length_le aa]
  refine eB 3 2001 (fun _ h=>h) (fun _=>rfl) rfl rfl hz.symm ?_
  refine ey.of hE ?_
  conv=>whnf
  (repeat(first|(refine af rfl rfl ?_;conv=>whnf)|(refine aS (by assumption) ?_;conv=>whnf)|(rw[t1];conv=>whnf)));exact Q5
end Go.Proofs.YtfpagioknjjacaaGreatDoor
namespace Go.Sx
set_option linter.unusedSimpArgs false
set_option linter.unusedVariables false
theorem yO {E:Env} {k:Nat} {blk:aC} {fr:List (Nat×SV)} {hp:List (Nat×aC)} (hk:find hp k=none) (he:blk.data.empty) {a:Act} {w:World} (hR:RR E (fn fr hp) a w):
  RR E (fn fr ((k,blk)::hp)) a w:=by
 obtain⟨ρ,hext,hfx,hR⟩:=hR
 have Dh:ρ.key k=none:=by
  cases hx:ρ.key k with
  |none=>rfl
  |some x=>
   obtain⟨b,hb⟩:=hR.hp.rL k x hx
   simp only[fn,LV.blk,hk]at hb
   cases hb
 have gw:∀j b,(fn fr ((k,blk)::hp) (.k j)).blk=some b→(j=k∧b=blk)∨(j≠k∧(fn fr hp (.k j)).blk=some b):=by
  intro j b hb
  simp only[fn,LV.blk,find]at hb ⊢
  cases hj:Nat.beq k j with
  |true=>rw[hj]at hb;simp only[Option.some.injEq]at hb;exact .inl ⟨(Nat.eq_of_beq_eq_true hj).symm,hb.symm⟩
  |false=>rw[hj]at hb;exact .inr ⟨by rintro rfl;simp[Nat.beq_refl]at hj,hb⟩
 have b6:∀j x,ρ.key j=some x→j≠k:=fun j x hx h=>by rw[h,Dh]at hx;cases hx
 refine⟨ρ,hext,fun j hj=> ?_,{defers:=hR.defers,size:=hR.size,fr:=fun u sv hu=>hR.fr u sv hu,bO:=hR.bO,hp:= ?_}⟩
 ·have:=hfx j hj
  simp only[fn,LV.blk,find]at this ⊢
  cases hb:Nat.beq k j with
  |true=>simp
  |false=>exact this
 ·constructor
  ·intro j b hb
   rcases gw j b hb with⟨rfl,rfl⟩|⟨_,h1⟩
   ·exact .inr (.inr ⟨Dh,he⟩)
   ·exact hR.hp.blk j b h1
  ·intro j j' x x' b b' hx pG hn hxe hb gj
   rcases gw j b hb with⟨h1,_⟩|⟨_,h1⟩
   ·exact absurd h1 (b6 j x hx)
   ·rcases gw j' b' gj with⟨h2,_⟩|⟨_,h2⟩
    ·exact absurd h2 (b6 j' x' pG)
    ·exact hR.hp.sep j j' x x' b b' hx pG hn hxe h1 h2
  ·intro j b x hb hw hl hx
   rcases gw j b hb with⟨h1,_⟩|⟨_,h1⟩
   ·exact absurd h1 (b6 j x hx)
   ·exact hR.hp.own j b x h1 hw hl hx
  ·intro j x hx
   obtain⟨b,hb⟩:=hR.hp.rL j x hx
   have:=b6 j x hx
   refine⟨b, ?_⟩
   simp only[fn,LV.blk,find]at hb ⊢
   cases hj:Nat.beq k j with
   |true=>exact absurd (Nat.eq_of_beq_eq_true hj).symm this
   |false=>exact hb
  ·exact hR.hp.aY
  ·intro j b x hb hw hl hx
   rcases gw j b hb with⟨h1,_⟩|⟨_,h1⟩
   ·exact absurd h1 (b6 j x hx)
   ·exact hR.hp.fb j b x h1 hw hl hx
theorem r8 {E:Env} {j:Nat} {ty:TypeId} {wr:Bool} {cs cs':List SV} {fr:List (Nat×SV)} {hp:List (Nat×aC)} (hj:find hp j=some ⟨ty,wr,.one cs⟩) (hd:∀ρ z,au ρ cs z→au ρ cs' z) {a:Act} {w:World} (hR:RR E (fn fr hp) a w):
  RR E (fn fr ((j,⟨ty,wr,.one cs'⟩)::hp)) a w:=by
 obtain⟨ρ,hext,hfx,hR⟩:=hR
 have gw:∀i b,(fn fr ((j,⟨ty,wr,.one cs'⟩)::hp) (.k i)).blk=some b→∃b0,(fn fr hp (.k i)).blk=some b0∧b0.wr=b.wr∧b0.data.live=b.data.live∧(b0=b∨(i=j∧b0=⟨ty,wr,.one cs⟩∧b=⟨ty,wr,.one cs'⟩)):=by
  intro i b hb
  simp only[fn,LV.blk,find]at hb ⊢
  cases hi:Nat.beq j i with
  |true=>
   rw[hi]at hb
   simp only[Option.some.injEq]at hb
   obtain rfl:=Nat.eq_of_beq_eq_true hi
   subst hb
   exact⟨_,hj,rfl,rfl,.inr ⟨rfl,rfl,rfl⟩⟩
  |false=>rw[hi]at hb;exact⟨b,hb,rfl,rfl,.inl rfl⟩
 refine⟨ρ,hext,fun i hi=> ?_,{defers:=hR.defers,size:=hR.size,fr:=fun u sv hu=>hR.fr u sv hu,bO:=hR.bO,hp:= ?_}⟩
 ·have:=hfx i hi
  simp only[fn,LV.blk,find]at this ⊢
  cases hb:Nat.beq j i with
  |true=>simp
  |false=>exact this
 ·constructor
  ·intro i b hb
   obtain⟨b0,h1,h2,h3,rfl|⟨rfl,rfl,rfl⟩⟩:=gw i b hb
   ·exact hR.hp.blk i b0 h1
   ·rcases hR.hp.blk i _ h1 with h4|⟨b',t,vs,ex,g1,g2,g3,g4,g5⟩|⟨_,h4⟩
    ·cases h4
    ·refine .inr (.inl ⟨b',t,vs,ex,g1,g2, ?_,g4,g5⟩)
     simp only[c9]at g3 ⊢
     obtain⟨z,g6,g7⟩:=g3
     exact⟨z,hd ρ z g6,g7⟩
    ·exact h4.elim
  ·intro i i' x x' b b' hx pG hn hxe hb gj hl qh
   obtain⟨b0,h1,h2,h3,_⟩:=gw i b hb
   obtain⟨b0',h1',h2',h3',_⟩:=gw i' b' gj
   rw[←h2]
   exact hR.hp.sep i i' x x' b0 b0' hx pG hn hxe h1 h1' (h3.trans hl) (h3'.trans qh)
  ·intro i b x hb hw hl hx
   obtain⟨b0,h1,h2,h3,_⟩:=gw i b hb
   exact hR.hp.own i b0 x h1 (h2.trans hw) (h3.trans hl) hx
  ·intro i x hx
   obtain⟨b,hb⟩:=hR.hp.rL i x hx
   simp only[fn,LV.blk,find]at hb ⊢
   cases hi:Nat.beq j i with
   |true=>exact⟨_,rfl⟩
   |false=>exact⟨b,hb⟩
  ·exact hR.hp.aY
  ·intro i b x hb hw hl hx
   obtain⟨b0,h1,h2,h3,_⟩:=gw i b hb
   exact hR.hp.fb i b0 x h1 (h2.trans hw) (h3.trans hl) hx
theorem w9 {ρ:bY} {k s:Nat}:∀{cs:List SV} {p:Nat} {z:List (List Value)},cs[p]? =some (.val (.slice none 0 0))→au ρ cs z→au ρ (cs.set p (.aN k s 0 0)) z
 |[],p,z,h,_=>by simp at h
 |c::cs,0,z,h,hz=>by
  simp only[List.getElem?_cons_zero,Option.some.injEq]at h
  subst h
  simp only[au,List.set_cons_zero]at hz ⊢
  obtain⟨x,r,rfl,h1,h2⟩:=hz
  refine⟨x,r,rfl, ?_,h2⟩
  simp only[aK]at h1 ⊢
  exact .inr ⟨trivial,none,h1.1⟩
 |c::cs,p+1,z,h,hz=>by
  simp only[List.getElem?_cons_succ]at h
  simp only[au,List.set_cons_succ]at hz ⊢
  obtain⟨x,r,rfl,h1,h2⟩:=hz
  exact⟨x,r,rfl,h1,w9 h h2⟩
theorem pT {E:Env} {j k s p:Nat} {ty:TypeId} {wr:Bool} {cs cs':List SV} {c:Code} {K:bQ} {blk:aC} {fr:List (Nat×SV)} {hp:List (Nat×aC)} (hj:find hp j=some ⟨ty,wr,.one cs⟩) (cd:cs[p]? =some (.val (.slice none 0 0))) (hk:find hp k=none) (he:blk.data.empty)
  (Dm:cs.set p (.aN k s 0 0)=cs') (hs:ey E c K fr ((k,blk)::(j,⟨ty,wr,.one cs'⟩)::hp)):ey E c K fr hp:=⟨fun a w hR=>hs.run a w (by
  subst Dm
  refine yO ?_ he (r8 hj (fun ρ z hz=>w9 cd hz) hR)
  simp only[find]
  cases hb:Nat.beq j k with
  |false=>exact hk
  |true=>rw[Nat.eq_of_beq_eq_true hb,hk]at hj;cases hj)⟩
theorem aE {t:Bool} {A B:Prop} (h:t=true) (k:A):(t=true→A)∧(t=false→B):=⟨fun _=>k,fun h'=>(by rw[h]at h';cases h')⟩
theorem aM {t:Bool} {A B:Prop} (h:t=false) (k:B):(t=true→A)∧(t=false→B):=⟨fun h'=>(by rw[h]at h';cases h'),fun _=>k⟩
def Wk (c d:SV):Prop:=c.bf=d.bf∧∀ρ x,aK ρ c x→aK ρ d x
def Nl (l m:List SV):Prop:=(∀z,List.zipWith cM l z=List.zipWith cM m z)∧∀ρ z,au ρ l z→au ρ m z
theorem Wk.refl {c:SV}:Wk c c:=⟨rfl,fun _ _ h=>h⟩
theorem Wk.nil {w:Nat} {a:Option Addr}:Wk (.val (.slice a 0 0)) (eH w []):=⟨rfl,fun _ _ h=>uO h⟩
theorem Nl.nil:Nl [] []:=⟨fun _=>rfl,fun _ _ h=>h⟩
theorem Nl.cons {c d:SV} {l m:List SV} (h:Wk c d) (k:Nl l m):Nl (c::l) (d::m):=
 ⟨fun z=>by cases z with
  |nil=>rfl
  |cons x r=>rw[List.zipWith_cons_cons,List.zipWith_cons_cons,k.1 r,DI h.1],fun ρ z hz=>by
  simp only[au]at hz ⊢
  obtain⟨x,r,rfl,h1,h2⟩:=hz
  exact⟨x,r,rfl,h.2 ρ x h1,k.2 ρ r h2⟩⟩
theorem Wk.agg {l m:List SV} (h:Nl l m):Wk (.agg l) (.agg m):=⟨rfl,fun ρ x hx=>by
 simp only[aK]at hx ⊢
 obtain⟨z,h1,h2⟩:=hx
 exact⟨z,h.2 ρ z h1,h2⟩⟩
theorem ab.wk {P:Program} {f:FuncId} {args args':List SV} {fk:List (Nat×aC)} {c:SV} {new upd:List (Nat×aC)} (h:ab P f args' fk c new upd) (hw:Nl args args'):ab P f args fk c new upd:=ab.args h hw.2 hw.1
def ag3 {α β γ:Type} (f:α→SV) (g:β→SV) (h:γ→SV) (p:α×β×γ):SV:=.agg [f p.1,g p.2.1,h p.2.2]
end Go.Sx
namespace Go.Proofs.YtfpagioknjjacaaGreatDoor
open Go.Sx
set_option linter.unusedSimpArgs false
set_option linter.unusedVariables false
set_option maxRecDepth 100000
set_option maxHeartbeats 4000000
abbrev MM:=Int×Int×List (Int×Int)
abbrev mQ:MM→SV:=ag3 (fV .u8) (fV .u8) (cT 2 qA)
def mOK (m:MM):Prop:=(0≤m.1∧m.1<256)∧(0≤m.2.1∧m.2.1<256)∧m.2.2.length≤maxLen∧∀q∈m.2.2,Ed q
def eQ (l:List (Int×Int)) (p:Nat):Rat:=qV (l.getD p (0,0))
def lD (l:List (Int×Int)) (n:Nat):List Rat:=(List.range n).map (eQ l)
theorem r9 (l:List (Int×Int)) (n:Nat):(lD l n).length=n:=by simp[lD]
theorem yP {l:List (Int×Int)} {n p:Nat} (h:p<n):(lD l n).getD p 0=eQ l p:=by simp[lD,List.getD_eq_getElem?_getD,h]
theorem Kc {l:List (Int×Int)} (h:∀q∈l,Ed q) (p:Nat):Ed (l.getD p (0,0)):=by
 by_cases hp:p<l.length
 ·exact h _ (fv hp)
 ·rw[List.getD_eq_getElem?_getD,List.getElem?_eq_none aa];exact⟨⟨aF,aF⟩,aF,aF⟩
theorem FK {l:List (Int×Int)} (h:∀q∈l,Ed q) (n:Nat):Sm 130 (lD l n):=by
 intro p hp
 rw[r9]at hp
 rw[yP hp];exact aca (Kc h p)
theorem Cz (l:List (Int×Int)) {r c:Nat} (hr:r≤2048) (hc:c≤2048):jq r c (lD l (r*c)):=⟨hr,hc,r9 ..⟩
theorem wrap_u8 {n:Int} (h0:0≤n) (h:n<256):IntKind.u8.wrap n=n:=by
 simp[IntKind.wrap,IntKind.bits,IntKind.signed];omega
theorem N6 (m:MM) (h:mOK m):ab Tryz.prog 62 [mQ m] [] (.ct [iv ((m.1 % 7).toNat:Nat),iv ((m.2.1 % 7).toNat:Nat)]) [] []:=by
 obtain⟨h1,h2,_⟩:=h
 have e1:IntKind.i64.wrap (m.1.tmod 7)=((m.1 % 7).toNat:Nat):=by rw[Int.tmod_eq_emod_of_nonneg h1.1,wrap_i64 aa aa];omega
 have e2:IntKind.i64.wrap (m.2.1.tmod 7)=((m.2.1 % 7).toNat:Nat):=by rw[Int.tmod_eq_emod_of_nonneg h2.1,wrap_i64 aa aa];omega
 have e3:IntKind.u8.wrap (m.1.tmod 7)=m.1.tmod 7:=by rw[Int.tmod_eq_emod_of_nonneg h1.1,wrap_u8 aa aa]
 have e4:IntKind.u8.wrap (m.2.1.tmod 7)=m.2.1.tmod 7:=by rw[Int.tmod_eq_emod_of_nonneg h2.1,wrap_u8 aa aa]
 refine bP [] Tryz.func62 ?_
 intro W0 w0 ρ0 hE
 conv=>whnf
 (repeat((first|refine aw aB ?_|refine bN Q3 ?_|rw[e1]|rw[e2]);conv=>whnf));exact Q5
theorem FL {α:Type} {l:List α} {i:Nat} {d:α} (h:i<l.length):l.take (i+1)=(l.take i).take i++(([l.getD i d]:List α).drop 0).take 1:=(JN h).symm
theorem Kd (m:MM) (hm:mOK m) {r c:Nat} (hr:r≤12) (hc:c≤12):ab Tryz.prog 63 [mQ m,iv r,iv c] [] (mA r c (lD m.2.2 (r*c))) [] []:=by
 obtain⟨A,B,l⟩:=m
 obtain⟨_,_,hl,hq⟩:=hm
 replace hl:l.length≤maxLen:=hl
 have hz:=r9 l (r*c)
 have hN:r*c≤12*12:=Nat.mul_le_mul hr hc
 have t0:IntKind.i64.wrap ((r:Int)*(c:Int))=((r*c:Nat):Int):=by rw[←Int.natCast_mul,wrap_i64 aa aa]
 generalize r*c=N at*
 refine gX [3] Tryz.func63 ?_
 intro w0 ρ0 hE
 conv=>whnf
 skip
 refine pT (j:=7) (k:=2001) (s:=5) (p:=2) (blk:=hZ []) rfl rfl rfl rfl rfl ?_
 refine dd hE (fun k=>k) [1,2,3,6,7,8] [6,7,2001] (fun m fr hp=>∃i:Nat,m=N - i∧i≤N∧fr=[(1,iv r),(2,iv c),(3,bG [fV .u8 A,fV .u8 B,cT 2 qA l]),(6,.ptr 6 0 0 0),(7,.ptr 7 0 0 0),(8,iv (i:Nat))]∧
  hp=[(6,zM),(7,⟨38,true,.one [iv r,iv c,.aN 2001 5 0 i]⟩),(2001,hZ ((lD l N).take i))]) N ?_ ?_ ?_
 ·kernel_rfl
 ·exact⟨0,rfl,Nat.zero_le _,rfl,rfl⟩
 rintro m _ _ ⟨i,rfl,hi,rfl,rfl⟩
 have Hg:((lD l N).take i).length=i:=by rw[List.length_take];omega
 by_cases aA:i<N
 ·have t1:=dX aA
  have t2:=bA (i:=i) aa
  have o1:=acb (l.getD i (0,0)) (Kc hq i)
  rw[show qV (l.getD i (0,0))=(lD l N).getD i 0 from(yP aA).symm]at o1
  have e1:=FL (d:=(0:Rat)) (show i<(lD l N).length by omega)
  refine ey.of hE ?_
  conv=>whnf
  by_cases yQ:i<l.length
  ·have t3:=dX yQ
   (repeat((first|refine ag rfl rfl ?_|refine aw aB ?_|refine ay Q3 ?_|refine aS (by assumption) ?_|refine ak cO ?_|refine ak Q6 ?_|refine ak (fJ (α:=Int×Int) (d:=(0,0)) rfl (aj rfl) (aj rfl) (jf rfl) rfl (jf rfl) rfl aa) ?_|refine ak Q9 ?_|rw[t0]|rw[t1]|rw[t3]|rw[t2]|rw[Nat.zero_add]);conv=>whnf))
   refine⟨N - (i+1),cx [(36,2001)],[1,2,3,6,7,8],[6,7,36],aa,aB,i+1,rfl,aA,rfl, ?_⟩
   rw[e1];rfl
  ·have t3:=ez yQ
   rw[show l.getD i (0,0)=(0,0)from by rw[List.getD_eq_getElem?_getD,List.getElem?_eq_none aa];rfl]at o1
   (repeat((first|refine ag rfl rfl ?_|refine af rfl rfl ?_|refine aw aB ?_|refine ay Q3 ?_|refine aS (by assumption) ?_|refine ak cO ?_|refine ak Q6 ?_|refine ak Q9 ?_|rw[t0]|rw[t1]|rw[t3]|rw[t2]|rw[Nat.zero_add]);conv=>whnf))
   refine⟨N - (i+1),cx [(36,2001)],[1,2,3,6,7,8],[6,7,36],aa,aB,i+1,rfl,aA,rfl, ?_⟩
   rw[e1];rfl
 ·have t1:=ez aA
  obtain rfl:i=N:=aa
  rw[List.take_of_length_le aa]
  refine ey.of hE ?_
  conv=>whnf
  (repeat(first|(refine af rfl rfl ?_;conv=>whnf)|(rw[t0];conv=>whnf)|(rw[t1];conv=>whnf)))
  (first|exact aq.refl _|exact ll.lJ (aq.refl _) rfl|(refine ll.one rfl rfl ?_;(repeat(first|exact cW.bE rfl|exact gd.nil|refine gd.cons ?_ ?_|(refine cW.cm rfl ?_;(first|rfl|omega|(simp<;>fail)|(simp<;>omega)))|refine cW.agg ?_)))|(refine ll.ct ?_;skip))
def My:Nat→Nat→List Nat
 |0,_=>[]
 |f+1,n=>if n=0 then[]else n % 10000::My f (n/10000)
def tdW (n:Nat):List Nat:=My n n
theorem Ke:∀(f n w:Nat),w∈My f n→w<10000
 |0,_,w,h=>by cases h
 |f+1,n,w,h=>by
  rw[My]at h
  split at h
  ·cases h
  ·rcases List.mem_cons.1 h with rfl|h
   ·omega
   ·exact Ke f _ w h
theorem YQ {n w:Nat} (h:w∈tdW n):w<10000:=Ke n n w h
def bq (xs:List Int):Nat→Int
 |0=>0
 |k+1=>bq xs k+xs.getD k 0*10000^k
def W4 (xs:List Int):Prop:=∀i,0≤xs.getD i 0∧xs.getD i 0<10000
theorem W4.set {xs:List Int} (h:W4 xs) {i:Nat} {v:Int} (h0:0≤v) (h1:v<10000):W4 (xs.set i v):=by
 intro j
 rw[aW]
 split
 ·exact⟨h0,h1⟩
 ·exact h j
theorem FM {xs:List Int} (h:∀x∈xs,0≤x∧x<10000):W4 xs:=by
 intro i
 rw[List.getD_eq_getElem?_getD]
 cases hx:xs[i]? with
 |none=>simp
 |some v=>simpa using h v (List.mem_of_getElem? hx)
theorem W4.mem {xs:List Int} (h:W4 xs):∀x∈xs,0≤x∧x<10000:=by
 intro x hx
 obtain⟨i,hi⟩:=List.getElem?_of_mem hx
 have:=h i
 rw[List.getD_eq_getElem?_getD,hi]at this
 exact this
theorem mW {xs ys:List Int}:∀{k:Nat},(∀i,i<k→xs.getD i 0=ys.getD i 0)→bq xs k=bq ys k
 |0,_=>rfl
 |k+1,h=>by rw[bq,bq,mW (fun i hi=>h i aa),h k aa]
theorem CA {xs:List Int} {i k:Nat} {v:Int} (h:k≤i):bq (xs.set i v) k=bq xs k:=
 mW fun j hj=>by rw[aW,if_neg aa]
theorem eC {xs:List Int} (h:W4 xs):∀k,0≤bq xs k
 |0=>Int.le_refl _
 |k+1=>by
  have:=eC h k
  have h1:0≤xs.getD k 0*10000^k:=Int.mul_nonneg (h k).1 (Int.pow_nonneg aF)
  rw[bq];omega
theorem kK (k:Nat):(0:Int)<10000^k:=Int.pow_pos aF
theorem mX {xs:List Int} (h:W4 xs):∀k,bq xs k<10000^k
 |0=>by simp[bq]
 |k+1=>by
  have h1:=mX h k
  have h2:xs.getD k 0*10000^k≤9999*10000^k:=Int.mul_le_mul_of_nonneg_right (by have:=(h k).2;omega) (Int.le_of_lt (kK k))
  rw[bq,Int.pow_succ];omega
theorem kL {xs:List Int} {k:Nat}:∀{n:Nat},(∀i,k≤i→i<n→xs.getD i 0=0)→k≤n→bq xs n=bq xs k
 |0,_,hk=>by obtain rfl:k=0:=aa
             rfl
 |n+1,h,hk=>by
  by_cases he:k=n+1
  ·subst he;rfl
  ·rw[bq,h n aa aa,kL (n:=n) (fun i h1 h2=>h i h1 aa) aa,Int.zero_mul,Int.add_zero]
theorem AE {xs:List Int} (h:W4 xs) {k:Nat} (ht:xs.getD k 0≠0):10000^k≤bq xs (k+1):=by
 have h1:=eC h k
 have h2:1*10000^k≤xs.getD k 0*10000^k:=Int.mul_le_mul_of_nonneg_right (by have:=(h k).1;omega) (Int.le_of_lt (kK k))
 rw[bq];omega
theorem Kf:∀(f g n:Nat),n≤f→n≤g→My f n=My g n
 |0,0,_,_,_=>rfl
 |0,g+1,n,h,_=>by obtain rfl:n=0:=aa
                  simp[My]
 |f+1,0,n,_,h=>by obtain rfl:n=0:=aa
                  simp[My]
 |f+1,g+1,n,h,h'=>by
  unfold My
  split
  ·rfl
  ·rw[Kf f g (n/10000) aa aa]
theorem Kg {n:Nat} (h:n≠0):tdW n=n % 10000::tdW (n/10000):=by
 unfold tdW
 obtain⟨m,rfl⟩:∃m,n=m+1:=⟨n - 1,aa⟩
 rw[My,if_neg h,Kf m ((m+1)/10000) _ aa (Nat.le_refl _)]
def td (n:Nat):List Int:=(tdW n).map Int.ofNat
theorem rb:td 0=[]:=rfl
theorem oQ {n:Nat} (h:n≠0):td n=((n % 10000:Nat):Int)::td (n/10000):=by
 rw[td,Kg h];rfl
theorem sc (x:Int) (xs:List Int):∀k,bq (x::xs) (k+1)=x+10000*bq xs k
 |0=>by simp[bq]
 |k+1=>by
  rw[bq,sc x xs k,bq,List.getD_cons_succ,Int.pow_succ]
  grind
theorem xa (n:Nat):bq (td n) (td n).length=n:=by
 induction n using Nat.strongRecOn with
 |_ n ih=>
  by_cases h:n=0
  ·subst h;rfl
  ·rw[oQ h,List.length_cons,sc,ih _ aa];omega
theorem iJ (n:Nat):W4 (td n):=by
 refine FM fun x hx=> ?_
 obtain⟨w,hw,rfl⟩:=List.mem_map.1 hx
 have:=YQ hw
 exact⟨Int.natCast_nonneg _,by show(w:Int)<_;omega⟩
theorem AF {n:Nat} (h:n≠0):(td n).length≠0∧(td n).getD ((td n).length - 1) 0≠0:=by
 induction n using Nat.strongRecOn with
 |_ n ih=>
  rw[oQ h]
  refine⟨by simp, ?_⟩
  by_cases h1:n/10000=0
  ·rw[h1,rb]
   simp only[List.length_singleton,Nat.sub_self,List.getD_cons_zero]
   omega
  ·obtain⟨h2,h3⟩:=ih _ aa h1
   obtain⟨l,hl⟩:∃l,(td (n/10000)).length=l+1:=⟨(td (n/10000)).length - 1,aa⟩
   simp only[List.length_cons,hl,Nat.add_sub_cancel,List.getD_cons_succ]
   rw[hl]at h3
   simpa using h3
theorem QR:∀(k:Nat) (xs:List Int),W4 xs→k≤xs.length→(k=0∨xs.getD (k - 1) 0≠0)→td (bq xs k).toNat=xs.take k
 |0,xs,_,_,_=>by simp[bq,rb]
 |k+1,[],_,h,_=>by simp at h
 |k+1,x::xs,hw,h,ht=>by
  have hx:=hw 0
  simp only[List.getD_cons_zero]at hx
  have PJ:W4 xs:=fun i=>by have:=hw (i+1);simpa using this
  have hv:=eC PJ k
  have Sa:=QR k xs PJ (by simpa using h) (by
   cases k with
   |zero=>exact .inl rfl
   |succ k=>right;have:=ht.resolve_left aa;simpa using this)
  have hn:(bq (x::xs) (k+1)).toNat≠0:=by
   have M4:=ht.resolve_left aa
   have:=AE hw (k:=k) (by simpa using M4)
   have:=kK k
   omega
  rw[oQ hn,sc,List.take_succ_cons]
  have e1:(x+10000*bq xs k).toNat % 10000=x.toNat:=aa
  have e2:(x+10000*bq xs k).toNat/10000=(bq xs k).toNat:=aa
  rw[e1,e2,Sa]
  congr 1
  omega
theorem jM (k:Nat):(((10000^k:Nat)):Int)=(10000:Int)^k:=by rw[Int.natCast_pow];rfl
theorem fM {n k:Nat} (h:n<10000^k):(td n).length≤k:=by
 by_cases hn:n=0
 ·subst hn;simp[rb]
 ·obtain⟨h1,h2⟩:=AF hn
  obtain⟨l,hl⟩:∃l,(td n).length=l+1:=⟨(td n).length - 1,aa⟩
  rw[hl]at h2
  have h3:=AE (iJ n) (k:=l) (by simpa using h2)
  rw[←hl,xa]at h3
  refine Nat.le_of_not_lt fun aA=> ?_
  have h4:(10000:Int)^k≤10000^l:=by
   have:(10000:Nat)^k≤10000^l:=Nat.pow_le_pow_right aF aa
   rw[←jM,←jM];exact Int.ofNat_le.2 this
  have h5:(n:Int)<10000^k:=by rw[←jM];exact Int.ofNat_lt.2 h
  omega
theorem eZ (n:Nat):n<10000^(td n).length:=by
 have:=mX (iJ n) (td n).length
 rw[xa,←jM]at this
 exact Int.ofNat_lt.1 this
theorem Kh {xs:List Int} (hx:W4 xs) {n:Nat}:∀{k:Nat},k≤n→bq xs n % 10000^k=bq xs k:=by
 intro k hk
 induction n with
 |zero=>
  obtain rfl:k=0:=aa
  simp[bq]
 |succ n ih=>
  by_cases he:k=n+1
  ·subst he
   exact Int.emod_eq_of_lt (eC hx _) (mX hx _)
  ·rw[bq,show n=k+(n - k)from aa,Int.pow_add,←show n=k+(n - k)from aa,Int.mul_left_comm,Int.add_mul_emod_self_left]
   exact ih aa
theorem Ki {xs:List Int} (hx:W4 xs) {i n:Nat} (h:i<n):bq xs n/10000^i % 10000=xs.getD i 0:=by
 have h1:=Kh hx (n:=n) (k:=i+1) aa
 have hp:=kK i
 have e:bq xs n=bq xs (i+1)+10000^(i+1)*(bq xs n/10000^(i+1)):=by
  rw[←h1];exact(Int.emod_add_mul_ediv _ _).symm
 have h0:=eC hx i
 have hl:=mX hx i
 have e2:bq xs n=bq xs i+10000^i*(xs.getD i 0+10000*(bq xs n/10000^(i+1))):=by
  conv=>lhs;rw[e]
  rw[bq,Int.pow_succ]
  grind
 rw[e2,Int.add_mul_ediv_left _ _ aa,Int.ediv_eq_zero_of_lt h0 hl,Int.zero_add,Int.add_mul_emod_self_left]
 exact Int.emod_eq_of_lt (hx i).1 (hx i).2
theorem xb {xs:List Int} {i:Nat} {v:Int}:∀{n:Nat},i<n→i<xs.length→bq (xs.set i v) n=bq xs n+(v - xs.getD i 0)*10000^i
 |0,h,_=>aa
 |n+1,h,hl=>by
  by_cases he:i=n
  ·subst he
   rw[bq,bq,CA (Nat.le_refl _),aW,if_pos ⟨rfl,hl⟩];grind
  ·rw[bq,bq,xb (n:=n) aa hl,aW,if_neg aa];grind
abbrev nN (n:Nat):SV:=cF .i64 (td n)
theorem QS {x:List Int} (hw:W4 x) (h:x.length=0∨x.getD (x.length - 1) 0≠0):td (bq x x.length).toNat=x:=by
 rw[QR x.length x hw (Nat.le_refl _) h,List.take_length]
theorem lE (n k:Nat) (h:(td n).length≤k):bq (td n) k=n:=by
 rw[kL (k:=(td n).length) (fun i h1 _=>dR h1) h,xa]
theorem Hh {x:List Int} {k j:Nat} (h:j≤k):bq (x.take k) j=bq x j:=mW fun i hi=>by rw[getD_take,if_pos aa]
theorem N7 {x:List Int} (h:W4 x) (k:Nat):W4 (x.take k):=by
 intro i;rw[getD_take];split
 ·exact h i
 ·omega
theorem Hi {x:List Int} (h0:0<x.length) (hz:x.getD (x.length - 1) 0=0):bq (x.take (x.length - 1)) (x.take (x.length - 1)).length=bq x x.length:=by
 have hl:(x.take (x.length - 1)).length=x.length - 1:=by simp
 rw[hl,Hh (Nat.le_refl _)]
 exact(kL (k:=x.length - 1) (n:=x.length) (fun i h1 h2=>by
  have:i=x.length - 1:=aa
  rw[this];exact hz) aa).symm
theorem AG {x:List Int} (h:W4 x) {d:Int} (h0:0≤d) (h1:d<10000):W4 (x++[d]):=FM fun y hy=>by
 rcases List.mem_append.1 hy with hy|hy
 ·exact h.mem y hy
 ·rw[List.mem_singleton.1 hy];exact⟨h0,h1⟩
theorem yR (x:List Int) (d:Int):bq (x++[d]) (x.length+1)=bq x x.length+d*10000^x.length:=by
 rw[bq,jb,if_neg aa,Nat.sub_self,mW (ys:=x) (k:=x.length) (fun i hi=>by rw[jb,if_pos hi])]
 rfl
theorem gK {n k:Nat} (h:(td n).length≤k):n<10000^k:=Nat.lt_of_lt_of_le (eZ n) (Nat.pow_le_pow_right aF h)
theorem sf {n:Nat} (h:n≠0):10000^((td n).length - 1)≤n:=by
 obtain⟨h1,h2⟩:=AF h
 have h3:=AE (iJ n) h2
 rw[show(td n).length - 1+1=(td n).length by omega,xa,←jM]at h3
 omega
theorem fC {a b:Nat} (h:a≤b):(td a).length≤(td b).length:=fM (Nat.lt_of_le_of_lt h (eZ b))
theorem yS {a b:Nat} (h:(td a).length<(td b).length):a<b:=by
 rcases Nat.lt_or_ge a b with g|g
 ·exact g
 ·have:=fC g;omega
theorem gL {n:Nat}:(td n).length=0↔n=0:=by
 constructor
 ·intro h
  rcases Nat.eq_zero_or_pos n with g|g
  ·exact g
  ·exact absurd h (AF aa).1
 ·rintro rfl;rfl
theorem AH (n i:Nat):(td n).getD i 0=((n/10000^i % 10000:Nat):Int):=by
 have h:=iJ n
 rcases Nat.lt_or_ge i (td n).length with hi|hi
 ·rw[←Ki h hi,xa,Int.natCast_emod,Int.natCast_ediv,jM];rfl
 ·rw[dR hi,Nat.div_eq_of_lt (gK hi)];rfl
theorem kM {E:Env} (t k:Nat) {c:Code} {K:bQ} {fr:List (Nat×SV)} {hp:List (Nat×aC)} {ty:TypeId} {n:Nat} {kd:IntKind} {xs:List Int} (hW:∀b,¬E.W0 b) (ht:lk fr t=some (.aN k 1 0 n)) (hk:find hp k=some ⟨ty,true,.ints kd xs⟩)
  (hn:n=xs.length) (hs:ey E c K ((t,cF kd xs)::fr) (fI hp k ⟨ty,true,.dead⟩)):ey E c K fr hp:=by
 refine kg t k (xs:=xs.map (fV kd)) hW ht hk rfl rfl (bw (fun _=>rfl) xs) (by simp;omega) ?_
 rw[gf (by simp;omega)]
 exact hs
theorem xc {L:List Int} {i:Nat} {d:Int} (h:L.length=i):List.take i L++List.take 1 (List.drop 0 [d])=L++[d]:=by
 rw[List.take_of_length_le aa];rfl
abbrev xX (l:List Int):aC:=⟨3,true,.ints .i64 l⟩
theorem AI (l:List Int) (hl:l.length<1099511627776) (h:W4 l):ab Tryz.prog 326 [cF .i64 l] [] (nN (bq l l.length).toNat) [] []:=by
 refine bP [] Tryz.func326 ?_
 intro W0 w0 ρ0 hE
 conv=>whnf
 skip
 refine ai hE (fun k=>k) [0] [] (fun m fr hp=>∃x:List Int,m=x.length∧x.length≤l.length∧W4 x∧bq x x.length=bq l l.length∧fr=[(0,cF .i64 x)]∧hp=[]) l.length ?_ ?_ ?_
 ·kernel_rfl
 ·exact⟨l,rfl,Nat.le_refl _,h,rfl,rfl,rfl⟩
 rintro m _ _ ⟨x,rfl,hx,hw,hv,rfl,rfl⟩
 conv=>whnf
 by_cases h0:0<x.length
 ·have t1:decide ((x.length:Int)>0)=true:=decide_eq_true aa
  have e1:IntKind.i64.wrap ((x.length:Int) - 1)=((x.length - 1:Nat):Int):=by rw[wrap_i64 aa aa];omega
  by_cases hz:x.getD (x.length - 1) 0=0
  ·have t2:(x.getD (x.length - 1) 0==0)=true:=beq_iff_eq.2 hz
   (repeat((first|refine ag rfl rfl ?_|refine ak jJ ?_|refine ak cO ?_|refine ak Q6 ?_|refine ak Nk ?_|refine ak Qx ?_|rw[t1]|rw[e1]|rw[t2]|rw[Int.toNat_natCast]);conv=>whnf))
   have qh:(x.take (x.length - 1)).length=x.length - 1:=by simp
   exact⟨x.length - 1,fun k=>k,[0],[],aa,aB,x.take (x.length - 1),qh.symm,aa,N7 hw _,(Hi h0 hz).trans hv,rfl,rfl⟩
  ·have t2:(x.getD (x.length - 1) 0==0)=false:=beq_false_of_ne hz
   have e:nN (bq l l.length).toNat=cF .i64 x:=by rw[nN,←hv,QS hw (.inr hz)]
   rw[e]
   (repeat((first|refine ag rfl rfl ?_|refine af rfl rfl ?_|refine ak jJ ?_|refine ak cO ?_|refine ak Q6 ?_|refine ak Nk ?_|rw[t1]|rw[e1]|rw[t2]|rw[Int.toNat_natCast]);conv=>whnf));exact Q5
 ·have t1:decide ((x.length:Int)>0)=false:=decide_eq_false aa
  have e:nN (bq l l.length).toNat=cF .i64 x:=by rw[nN,←hv,QS hw (.inl aa)]
  rw[e]
  (repeat((first|refine af rfl rfl ?_|refine ak jo ?_|refine ak cO ?_|rw[t1]);conv=>whnf));exact Q5
theorem N8 (n:Nat) (hn:n<18446744073709551616):ab Tryz.prog 327 [.val (.int .u64 (n:Nat))] [] (nN n) [] []:=by
 refine gX [] Tryz.func327 ?_
 intro w0 ρ0 hE
 conv=>whnf
 skip
 refine bR (t:=3) (k:=2001) (s:=1) (blk:=xX []) rfl rfl rfl ?_
 refine dd hE (fun k=>k) [0,3] [2001] (fun m fr hp=>∃(v:Nat) (L:List Int),m=v∧v≤n∧td n=L++td v∧L.length≤n∧L.length+v≤n∧fr=[(0,.val (.int .u64 (v:Nat))),(3,.aN 2001 1 0 L.length)]∧hp=[(2001,xX L)]) n ?_ ?_ ?_
 ·kernel_rfl
 ·exact⟨n,[],rfl,Nat.le_refl _,rfl,Nat.zero_le _,by simp,rfl,rfl⟩
 rintro m _ _ ⟨v,L,rfl,hv,hL,hl,iM,rfl,rfl⟩
 by_cases h0:0<m
 ·have hlen:L.length<1099511627776:=by
   have:=congrArg List.length hL
   rw[List.length_append]at this
   have h5:(td n).length≤5:=fM aa
   omega
  have t1:decide ((m:Int)>0)=true:=decide_eq_true aa
  have e0:(m:Int).tmod 10000=((m % 10000:Nat):Int):=by rw[Int.tmod_eq_emod_of_nonneg aa];omega
  have e1:IntKind.i64.wrap ((m:Int).tmod 10000)=((m % 10000:Nat):Int):=by rw[e0,wrap_i64 aa aa]
  have e2:(m:Int).tdiv 10000=((m/10000:Nat):Int):=by rw[Int.tdiv_eq_ediv_of_nonneg aa];omega
  have e3:IntKind.u64.wrap ((m:Int).tdiv 10000)=((m/10000:Nat):Int):=by rw[e2,wrap_u64 aa aa]
  refine ey.of hE ?_
  conv=>whnf
  (repeat((first|refine ag rfl rfl ?_|refine And.intro Q7 ?_|rw[t1]|rw[e1]|rw[e3]);conv=>whnf))
  refine⟨m/10000,cx [(11,2001)],[0,3],[11],Nat.div_lt_self h0 aF,aB,m/10000,L++[((m % 10000:Nat):Int)],rfl,aa, ?_, ?_, ?_, ?_, ?_⟩
  ·rw[hL,oQ aa,List.append_assoc];rfl
  ·rw[List.length_append];simp;omega
  ·rw[List.length_append];simp;omega
  ·rw[List.length_append];rfl
  ·rw[←xc rfl];rfl
 ·have t1:decide ((m:Int)>0)=false:=decide_eq_false aa
  have hm:m=0:=aa
  subst hm
  rw[rb,List.append_nil]at hL
  refine kM 3 2001 (fun _ h=>h) rfl rfl rfl ?_
  refine ey.of hE ?_
  conv=>whnf
  have e:nN n=cF .i64 L:=by rw[nN,hL]
  rw[e]
  (repeat(first|(refine af rfl rfl ?_;conv=>whnf)));exact Q5
theorem N9 (n i:Nat) (hn:(td n).length<1099511627776):ab Tryz.prog 325 [nN n,.val (.int .i64 (i:Nat))] [] (.val (.int .i64 ((td n).getD i 0))) [] []:=by
 refine bP [] Tryz.func325 ?_
 intro W0 w0 ρ0 hE
 conv=>whnf
 by_cases h:i<(td n).length
 ·have t1:decide ((i:Int)<((td n).length:Int))=true:=decide_eq_true aa
  (repeat((first|refine ag rfl rfl ?_|refine ak cO ?_|refine ak Q6 ?_|refine ak nA ?_|rw[t1]);conv=>whnf));exact Q5
 ·have t1:decide ((i:Int)<((td n).length:Int))=false:=decide_eq_false aa
  rw[dR aa]
  (repeat(first|(refine af rfl rfl ?_;conv=>whnf)|(refine ak cO ?_;conv=>whnf)|(rw[t1];conv=>whnf)));exact Q5
end Go.Proofs.YtfpagioknjjacaaGreatDoor
