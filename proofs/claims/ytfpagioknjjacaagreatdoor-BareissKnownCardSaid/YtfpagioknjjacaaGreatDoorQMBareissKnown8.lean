/- The texts Fb, Oa, Ob, Of, Oh, Oc. -/
import Derived.Test.YtfpagioknjjacaaGreatDoorQMBareissKnown3
import Derived.Test.YtfpagioknjjacaaGreatDoorQMBareissKnown2
import Derived.Test.YtfpagioknjjacaaGreatDoorQMBareissKnown5
import Derived.Test.YtfpagioknjjacaaGreatDoorQMBareissKnown6
namespace Go.Proofs.YtfpagioknjjacaaGreatDoor
open Go.Sx
set_option linter.unusedSimpArgs false
set_option linter.unusedVariables false
set_option maxRecDepth 100000
set_option maxHeartbeats 4000000
variable {M:Nat}
theorem FW (ok:il M) (n:Int) (d:Nat) (h1:sz n.natAbs≤M) (h2:sz d≤M) (hd:d≠0):ab Tryz.prog 268 [.int n,.nat d] [] (.ct [.frac (mkRat n d),.val (.int .i64 0)]) [] []:=by
 have k1:=kk ok n d h1 h2 hd
 refine bP [] Tryz.func268 ?_
 intro W0 w0 ρ0 hE
 conv=>whnf
 skip
 refine⟨_,eJ aL df rfl (aj rfl) (aj rfl) rfl rfl rfl rfl (nX d 0) l0, ?_⟩
 rw[decide_eq_false hd]
 conv=>whnf
 (repeat(first|(refine af rfl rfl ?_;conv=>whnf)|(refine aS (by assumption) ?_;conv=>whnf)));exact aq.refl _
structure Words (M:Nat) (xs:List Int):Prop where
 w32:fK xs
 len:xs.length<1099511627776
 fit:32*xs.length+33≤M
end Go.Proofs.YtfpagioknjjacaaGreatDoor
namespace Go.Proofs.YtfpagioknjjacaaGreatDoor
open Go.Sx
set_option linter.unusedSimpArgs false
set_option linter.unusedVariables false
set_option maxRecDepth 100000
set_option maxHeartbeats 4000000
def zs (z:Int):Nat:=sz z.natAbs+1
theorem KG (a b:Int):zs (a+b)≤zs a+zs b:=by
 have:=v7 (a:=a.natAbs) (b:=b.natAbs) (k:=max (sz a.natAbs) (sz b.natAbs)) aa aa
 have:=dQ (Int.natAbs_add_le a b)
 unfold zs;omega
theorem Ew (a:Int):zs (-a)=zs a:=by unfold zs;rw[Int.natAbs_neg]
theorem Y7 (a b:Int):zs (a - b)≤zs a+zs b:=by rw[Int.sub_eq_add_neg,←Ew b];exact KG _ _
theorem na (a b:Int):zs (a*b)≤zs a+zs b:=by
 have:=fu a.natAbs b.natAbs
 unfold zs;rw[Int.natAbs_mul];omega
theorem KH (a b:Int):zs (a/b)≤zs a:=by
 have:=dQ (Int.natAbs_ediv_le_natAbs a b)
 unfold zs;omega
theorem AO:zs 0=1:=rfl
theorem On:zs 1=2:=by decide+kernel
theorem KI {n:Int} (h0: -9223372036854775808≤n) (h1:n<9223372036854775808):zs n≤65:=by
 have:=Jm h0 h1;unfold zs;omega
theorem pV (z:Int):zs (z.natAbs:Int)=zs z:=by unfold zs;rw[Int.natAbs_natCast]
theorem oi (z:Int):fs (z:Rat)≤zs z+1:=by
 have:=Fl (n:=z) (k:=sz z.natAbs+1) aa aa
 unfold fs zs;omega
theorem KJ (a b:Int) (h:zs a+zs b≤1073741824):ab Tryz.prog 181 [.int a,.int b] [] (.int (a+b)) [] []:=wq er a b Nn Nn
theorem KK (a b:Int) (h:zs a+zs b≤1073741824):ab Tryz.prog 272 [.int a,.int b] [] (.int (a - b)) [] []:=Jk er a b Nn Nn
theorem nb (a b:Int) (h:zs a+zs b≤1073741824):ab Tryz.prog 169 [.int a,.int b] [] (.int (a*b)) [] []:=rT er a b Nn
theorem Y8 (a b:Int) (h:zs a+zs b≤1073741824):∃r ok,ab Tryz.prog 331 [.int a,.int b] [] (.ct [.int (a/b),.int r,.val (.bool ok)]) [] []:=by
 by_cases h0:b=0
 ·subst h0;rw[Int.ediv_zero];exact⟨_,_,Np er a⟩
 ·exact⟨_,_,Yc er a b Nn Nn h0⟩
abbrev gO (l:List Int):SV:=cT 3 .int l
abbrev wA (r c:Int) (a:List Int):SV:=.agg [iv r,iv c,gO a]
abbrev wC (r c:Int) (a:List Int):List SV:=[iv r,iv c,gO a]
def eP (r c:Nat) (f:Mz):List Int:=(List.range (r*c)).map fun p=>f (p/c) (p % c)
abbrev bl (a:List Int) (c i k:Nat):Int:=a.getD (i*c+k) 0
theorem cZ (r c:Nat) (f:Mz):(eP r c f).length=r*c:=by simp[eP]
theorem KM {r c:Nat} {f:Mz} {p:Nat} (hp:p<r*c):(eP r c f).getD p 0=f (p/c) (p % c):=by
 simp[eP,List.getD_eq_getElem?_getD,hp]
theorem cB {r c i k:Nat} {f:Mz} (hi:i<r) (hk:k<c):bl (eP r c f) c i k=f i k:=by
 rw[bl,KM (dN hi hk),uX hk,uY hk]
theorem rl {a b:List Int} {n:Nat} (ha:a.length=n) (hb:b.length=n) (h:∀p,p<n→a.getD p 0=b.getD p 0):a=b:=by
 refine List.ext_getElem aa fun p h1 h2=> ?_
 have:=h p aa
 rwa [List.getD_eq_getElem?_getD,List.getD_eq_getElem?_getD,List.getElem?_eq_getElem h1,List.getElem?_eq_getElem h2]at this
theorem FZ {a b:List Int} {r c:Nat} (ha:a.length=r*c) (hb:b.length=r*c) (h:∀i k,i<r→k<c→bl a c i k=bl b c i k):a=b:=by
 refine rl ha hb fun p hp=> ?_
 obtain⟨h1,h2,h3⟩:=oJ hp
 have:=h _ _ h1 h2
 rwa [bl,bl,h3]at this
theorem oS {a:List Int} {r c:Nat} {f:Mz} (ha:a.length=r*c) (h:∀i k,i<r→k<c→f i k=bl a c i k):eP r c f=a:=
 FZ (cZ ..) ha fun i k hi hk=>by rw[cB hi hk,h i k hi hk]
theorem mj {r c:Nat} {f g:Mz} (h:∀i k,i<r→k<c→f i k=g i k):eP r c f=eP r c g:=
 oS (cZ ..) fun i k hi hk=>by rw[cB hi hk,h i k hi hk]
theorem CG {a:List Int} {r c:Nat} (ha:a.length=r*c):eP r c (bl a c)=a:=oS ha fun _ _ _ _=>rfl
def Zm (B:Nat) (l:List Int):Prop:=∀p,p<l.length→zs (l.getD p 0)≤B
theorem kN {r c B:Nat} {f:Mz} (h:∀i k,i<r→k<c→zs (f i k)≤B):Zm B (eP r c f):=by
 intro p hp
 rw[cZ]at hp
 obtain⟨h1,h2,_⟩:=oJ hp
 rw[KM hp];exact h _ _ h1 h2
theorem bX {a:List Int} {r c B i k:Nat} (h:Zm B a) (ha:a.length=r*c) (hi:i<r) (hk:k<c):zs (bl a c i k)≤B:=h _ (by rw[ha];exact dN hi hk)
theorem Zm.mono {B C:Nat} {a:List Int} (h:Zm B a) (hBC:B≤C):Zm C a:=fun p hp=>Nat.le_trans (h p hp) hBC
structure gu (R C:Nat) (a:List Int):Prop where
 r:R≤2048
 c:C≤2048
 n:a.length=R*C
theorem gu.mk' {r c:Nat} (hr:r≤2048) (hc:c≤2048) (f:Mz):gu r c (eP r c f):=⟨hr,hc,cZ ..⟩
theorem KN (n:Int) (h:zs n≤536870912):ab Tryz.prog 278 [.int n] [] (.frac n) [] []:=by
 have k1:=nY 1 aF
 have k2:=FW er n 1 Nn (by rw[DH];decide) aF
 rw[Rat.mkRat_one]at k2
 refine bP [] Tryz.func278 ?_
 intro W0 w0 ρ0 hE
 conv=>whnf
 (repeat(first|(refine aw aB ?_;conv=>whnf)|(refine aS (by assumption) ?_;conv=>whnf)));exact Q5
abbrev Ho (xs:List Int):aC:=⟨50,true,.seq 3 (xs.map .int)⟩
abbrev gB (l:List Int) (n i:Nat):aC:=⟨50,true,.seq 3 ((l.map SV.int).take i++List.replicate (n - i) (SV.int 0))⟩
theorem jg {l:List Int} {n:Nat} (h:l.length=n):gB l n n=Ho l:=by
 rw[gB,je (by rw[List.length_map,h])]
theorem dV {α β:Type} {f:α→β} {l:List α} {i:Nat} {d:α} {e:β} (h:i<l.length):(l.map f).getD i e=f (l.getD i d):=by
 simp[List.getD_eq_getElem?_getD,List.getElem?_eq_getElem h]
theorem jh {l:List Int} {n i:Nat} (hi:i<n) (hn:l.length=n):((l.map SV.int).take i++List.replicate (n - i) (SV.int 0)).set i (.int (l.getD i 0))=(l.map SV.int).take (i+1)++List.replicate (n - (i+1)) (SV.int 0):=by
 rw[←jd (e:=SV.int 0) hi (by rw[List.length_map,hn]),dV (d:=0) aa]
theorem ji {l:List Int} {n i:Nat} (hi:i≤n) (hn:l.length=n):((l.map SV.int).take i++List.replicate (n - i) (SV.int 0)).length=n:=ek hi (by rw[List.length_map,hn])
theorem jk {l:List Int} {n i:Nat} (hi:i<n) (hn:l.length=n):((l.map SV.int).take i++List.replicate (n - i) (SV.int 0)).getD i SV.any= .int 0:=wo hi (by rw[List.length_map,hn])
theorem Oo (l:List Int) (hl:l.length<1099511627776) (h:∀i,i<l.length→zs (l.getD i 0)≤536870912):ab Tryz.prog 334 [gO l,.clo 278 [] []] [] (cX (aG l)) [] []:=by
 refine gX [] Tryz.func334 ?_
 intro w0 ρ0 hE
 conv=>whnf
 (repeat(first|(refine ay Q3 ?_;conv=>whnf)|(refine ak cO ?_;conv=>whnf)|(rw[Int.toNat_natCast];conv=>whnf)))
 have hz:(aG l).length=l.length:=by simp[aG]
 refine ai hE (fun k=>k) [1,4,5,11,12,13] [10] (fun m fr hp=>∃i,m=l.length - i∧i≤l.length∧fr=[(1,.clo 278 [] []),(4,.val (.slice none 0 0)),(5,.aN 10 5 0 l.length),(11,gO l),(12,iv (l.length:Nat)),(13,iv (i:Nat))]∧
  hp=[(10,⟨52,true,.cm ((aG l).take i++List.replicate (l.length - i) 0)⟩)]) l.length ?_ ?_ ?_
 ·kernel_rfl
 ·exact⟨0,rfl,Nat.zero_le _,rfl,rfl⟩
 rintro m _ _ ⟨i,rfl,hi,rfl,rfl⟩
 conv=>whnf
 have hlen:=ek (d:=(0:Rat)) hi hz
 by_cases aA:i<l.length
 ·have t1:=dX aA
  have t2:=bA (i:=i) aa
  have k1:=KN (l.getD i 0) (h i aA)
  rw[←oI (f:=fun(n:Int)=>((n:Int):Rat)) (e:=0) aA]at k1
  (repeat((first|refine ag rfl rfl ?_|refine aX Q3 ?_|refine ay Q3 ?_|refine aS (by assumption) ?_|refine ak Q6 ?_|refine ak nA ?_|rw[t1]|rw[t2]|rw[Int.toNat_natCast]|rw[Nat.zero_add]);conv=>whnf))
  refine⟨l.length - (i+1),fun k=>k,[1,4,5,11,12,13],[10],aa,aB,i+1,rfl,aA,rfl, ?_⟩
  rw[←jd (e:=0) aA hz]
  rfl
 ·have t1:=ez aA
  have hI:i=l.length:=aa
  subst hI
  rw[je hz]
  (repeat(first|(refine af rfl rfl ?_;conv=>whnf)|(rw[t1];conv=>whnf)));(first|exact aq.refl _|exact ll.lJ (aq.refl _) rfl|(refine ll.one rfl rfl ?_;(repeat(first|(refine cW.cm rfl ?_;(first|rfl|omega|(simp<;>fail)|(simp<;>omega))))))|(refine ll.ct ?_;skip))
theorem KO (r c:Int) (l:List Int) (hl:l.length<1099511627776) (h:∀i,i<l.length→zs (l.getD i 0)≤536870912):ab Tryz.prog 269 [wA r c l] [] (mA r c (aG l)) [] []:=by
 have k1:=Oo l hl h
 refine bP [] Tryz.func269 ?_
 intro W0 w0 ρ0 hE
 conv=>whnf
 (repeat(first|(refine aw aB ?_;conv=>whnf)|(refine aS (by assumption) ?_;conv=>whnf)));exact Q5
theorem iP (r c:Int) (l:List Int) (hl:l.length<1099511627776) (h:∀i,i<l.length→zs (l.getD i 0)≤536870912):ab Tryz.prog 183 [wA r c l] [] (iv (cc r c l.length)) [] []:=by
 have k1:=KO r c l hl h
 have k2:=oO r c (aG l) (by simp[aG];exact hl)
 rw[show(aG l).length=l.length from by simp[aG]]at k2
 refine bP [] Tryz.func183 ?_
 intro W0 w0 ρ0 hE
 conv=>whnf
 (repeat(first|(refine aS (by assumption) ?_;conv=>whnf)));exact Q5
theorem xh (r c:Int) (l:List Int) (hl:l.length<1099511627776) (h:∀i,i<l.length→zs (l.getD i 0)≤536870912):ab Tryz.prog 167 [wA r c l] [] (if cc r c l.length=0 then .ct [mA r c (aG l),iv 0]else .ct [mA 0 0 [],iv (cc r c l.length)]) [] []:=by
 have k1:=iP r c l hl h
 have k2:=KO r c l hl h
 by_cases hc:cc r c l.length=0
 ·rw[if_pos hc]
  rw[hc]at k1
  refine bP [] Tryz.func167 ?_
  intro W0 w0 ρ0 hE
  conv=>whnf
  (repeat(first|(refine af rfl rfl ?_;conv=>whnf)|(refine aS (by assumption) ?_;conv=>whnf)));exact Q5
 ·rw[if_neg hc]
  have t1:(cc r c l.length != 0)=true:=bne_iff_ne.2 hc
  refine gX [] Tryz.func167 ?_
  intro w0 ρ0 hE
  conv=>whnf
  (repeat(first|(refine ag rfl rfl ?_;conv=>whnf)|(refine aS (by assumption) ?_;conv=>whnf)|(rw[t1];conv=>whnf)));exact X8
theorem oj (r c:Int) (l:List Int) (hl:l.length<1099511627776) (h:∀i,i<l.length→zs (l.getD i 0)≤536870912):ab Tryz.prog 260 [wA r c l] [] (iv (if cc r c l.length=0 then(if r=c then 0 else 1)else cc r c l.length)) [] []:=by
 have k1:=iP r c l hl h
 by_cases hc:cc r c l.length=0
 ·rw[if_pos hc]
  rw[hc]at k1
  by_cases vO:r=c
  ·have t2:(r != c)=false:=by rw[vO];exact bne_self_eq_false _
   rw[if_pos vO]
   refine bP [] Tryz.func260 ?_
   intro W0 w0 ρ0 hE
   conv=>whnf
   (repeat((first|refine af rfl rfl ?_|refine aS (by assumption) ?_|rw[bne_self_eq_false]|rw[t2]);conv=>whnf));exact Q5
  ·have t2:(r != c)=true:=bne_iff_ne.2 vO
   rw[if_neg vO]
   refine bP [] Tryz.func260 ?_
   intro W0 w0 ρ0 hE
   conv=>whnf
   (repeat((first|refine ag rfl rfl ?_|refine af rfl rfl ?_|refine aS (by assumption) ?_|rw[bne_self_eq_false]|rw[t2]);conv=>whnf));exact Q5
 ·rw[if_neg hc]
  have t1:(cc r c l.length != 0)=true:=bne_iff_ne.2 hc
  refine bP [] Tryz.func260 ?_
  intro W0 w0 ρ0 hE
  conv=>whnf
  (repeat(first|(refine ag rfl rfl ?_;conv=>whnf)|(refine aS (by assumption) ?_;conv=>whnf)|(rw[t1];conv=>whnf)));exact Q5
theorem xi {r c:Nat} {a:List Int} (h:gu r c a) {i k:Nat} (hi:i<r) (hk:k<c):ab Tryz.prog 253 [wA r c a,iv i,iv k] [] (.int (bl a c i k)) [] []:=by
 obtain⟨t1,t2⟩:=kJ (i:=i) (k:=k) (c:=c) (by have:=h.r;omega) h.c (by have:=h.c;omega)
 have aA:=dN hi hk
 rw[←h.n]at aA
 refine bP [] Tryz.func253 ?_
 intro W0 w0 ρ0 hE
 conv=>whnf
 (repeat((first|refine ak Q6 ?_|refine ak Nk ?_|rw[t1]|rw[t2]|rw[Int.toNat_natCast]);conv=>whnf));exact Q5
abbrev zW:aC:=⟨207,true,.one [iv 0,iv 0,.val (.slice none 0 0)]⟩
abbrev bW (r c K:Nat):aC:=⟨207,true,.one [iv r,iv c,.aN K 3 0 (r*c)]⟩
theorem Oq {r c:Nat} (hr:r≤2048) (hc:c≤2048) (F:Mz) (g:FuncId) (R C:Int) (l:List Int)
  (hf:∀i k,i<r→k<c→ab Tryz.prog g ([wA R C l]++([iv (i:Nat),iv (k:Nat)]++[])) [] (.int (F i k)) [] []):
  ab Tryz.prog 254 [iv r,iv c,.clo g [wA R C l] []] [] (wA r c (eP r c F)) [] []:=by
 have hz:(eP r c F).length=r*c:=cZ ..
 have vO:r*c≤2048*2048:=Nat.mul_le_mul hr hc
 have t1:IntKind.i64.wrap ((r:Int)*(c:Int))=((r*c:Nat):Int):=by rw[←Int.natCast_mul,wrap_i64 aa aa]
 refine gX [] Tryz.func254 ?_
 intro w0 ρ0 hE
 conv=>whnf
 (repeat(first|(refine ay Q3 ?_;conv=>whnf)|(rw[t1];conv=>whnf)|(rw[Int.toNat_natCast];conv=>whnf)))
 refine ai hE (fun k=>k) [0,1,2,6,7,17,18] [6,7,15] (fun m fr hp=>∃i:Nat,m=r - i∧i≤r∧fr=[(0,iv r),(1,iv c),(2,.clo g [wA R C l] []),(6,.ptr 6 0 0 0),(7,.ptr 7 0 0 0),(17,iv r),(18,iv (i:Nat))]∧
  hp=[(6,zW),(7,bW r c 15),(15,gB (eP r c F) (r*c) (i*c))]) r ?_ ?_ ?_
 ·kernel_rfl
 ·exact⟨0,rfl,Nat.zero_le _,rfl,by rw[Nat.zero_mul,gB,List.take_zero];rfl⟩
 rintro m _ _ ⟨i,rfl,hi,rfl,rfl⟩
 conv=>whnf
 by_cases aA:i<r
 ·have t2:=dX aA
  have t3:=bA (i:=i) aa
  have yN:(i+1)*c≤r*c:=Nat.mul_le_mul_right c aA
  rw[Nat.succ_mul]at yN
  (repeat(first|(refine ag rfl rfl ?_;conv=>whnf)|(rw[t2];conv=>whnf)))
  refine ai hE (fun k=>k) [0,1,2,6,7,8,17,18,21,22] [6,7,15] (fun m fr hp=>∃k:Nat,m=c - k∧k≤c∧fr=[(0,iv r),(1,iv c),(2,.clo g [wA R C l] []),(6,.ptr 6 0 0 0),(7,.ptr 7 0 0 0),(8,iv (i:Nat)),(17,iv r),(18,iv (i:Nat)),(21,iv c),(22,iv (k:Nat))]∧
   hp=[(6,zW),(7,bW r c 15),(15,gB (eP r c F) (r*c) (i*c+k))]) c ?_ ?_ ?_
  ·kernel_rfl
  ·exact⟨0,rfl,Nat.zero_le _,rfl,rfl⟩
  rintro m _ _ ⟨k,rfl,hk,rfl,rfl⟩
  conv=>whnf
  by_cases hlk:k<c
  ·have t4:=dX hlk
   have t5:=bA (i:=k) aa
   obtain⟨w1,w2⟩:=kJ (i:=i) (k:=k) (c:=c) aa aa aa
   have hlen:=ji (l:=eP r c F) (show i*c+k≤r*c by omega) hz
   have t6:=jk (l:=eP r c F) (show i*c+k<r*c by omega) hz
   have o2:=hf i k aA hlk
   rw[←cB (f:=F) aA hlk]at o2
   (repeat((first|refine ag rfl rfl ?_|refine aw aB ?_|refine aX Q3 ?_|refine ay Q3 ?_|refine aS (by assumption) ?_|rw[t4]|rw[t5]|rw[w1]|rw[w2]|rw[t6]|rw[Int.toNat_natCast]|rw[Nat.zero_add]);conv=>whnf))
   refine⟨c - (k+1),fun k=>k,[0,1,2,6,7,8,17,18,21,22],[6,7,15],aa,aB,k+1,rfl,hlk,rfl, ?_⟩
   rw[show i*c+(k+1)=i*c+k+1 from rfl,gB,←jh (show i*c+k<r*c by omega) hz]
   rfl
  ·have t4:=ez hlk
   obtain rfl:k=c:=aa
   (repeat(first|(refine af rfl rfl ?_;conv=>whnf)|(rw[t4];conv=>whnf)|(rw[t3];conv=>whnf)))
   refine⟨r - (i+1),fun k=>k,[0,1,2,6,7,17,18],[6,7,15],aa,aB,i+1,rfl,aA,rfl, ?_⟩
   rw[Nat.succ_mul]
   rfl
 ·have t2:=ez aA
  obtain rfl:i=r:=aa
  rw[jg hz]
  (repeat(first|(refine af rfl rfl ?_;conv=>whnf)|(rw[t2];conv=>whnf)))
  exact Q18
theorem Ot {r c:Nat} (hr:r≤2048) (hc:c≤2048) (F:Mz) (g:FuncId) (p:Pred)
  (hf:∀i k,i<r→k<c→ab Tryz.prog g ([]++([iv (i:Nat),iv (k:Nat)]++[.atom p])) [] (.int (F i k)) [] []):
  ab Tryz.prog 254 [iv r,iv c,.clo g [] [.atom p]] [] (wA r c (eP r c F)) [] []:=by
 have hz:(eP r c F).length=r*c:=cZ ..
 have vO:r*c≤2048*2048:=Nat.mul_le_mul hr hc
 have t1:IntKind.i64.wrap ((r:Int)*(c:Int))=((r*c:Nat):Int):=by rw[←Int.natCast_mul,wrap_i64 aa aa]
 refine gX [] Tryz.func254 ?_
 intro w0 ρ0 hE
 conv=>whnf
 (repeat(first|(refine ay Q3 ?_;conv=>whnf)|(rw[t1];conv=>whnf)|(rw[Int.toNat_natCast];conv=>whnf)))
 refine ai hE (fun k=>k) [0,1,2,6,7,17,18] [6,7,15] (fun m fr hp=>∃i:Nat,m=r - i∧i≤r∧fr=[(0,iv r),(1,iv c),(2,.clo g [] [.atom p]),(6,.ptr 6 0 0 0),(7,.ptr 7 0 0 0),(17,iv r),(18,iv (i:Nat))]∧
  hp=[(6,zW),(7,bW r c 15),(15,gB (eP r c F) (r*c) (i*c))]) r ?_ ?_ ?_
 ·kernel_rfl
 ·exact⟨0,rfl,Nat.zero_le _,rfl,by rw[Nat.zero_mul,gB,List.take_zero];rfl⟩
 rintro m _ _ ⟨i,rfl,hi,rfl,rfl⟩
 conv=>whnf
 by_cases aA:i<r
 ·have t2:=dX aA
  have t3:=bA (i:=i) aa
  have yN:(i+1)*c≤r*c:=Nat.mul_le_mul_right c aA
  rw[Nat.succ_mul]at yN
  (repeat(first|(refine ag rfl rfl ?_;conv=>whnf)|(rw[t2];conv=>whnf)))
  refine ai hE (fun k=>k) [0,1,2,6,7,8,17,18,21,22] [6,7,15] (fun m fr hp=>∃k:Nat,m=c - k∧k≤c∧fr=[(0,iv r),(1,iv c),(2,.clo g [] [.atom p]),(6,.ptr 6 0 0 0),(7,.ptr 7 0 0 0),(8,iv (i:Nat)),(17,iv r),(18,iv (i:Nat)),(21,iv c),(22,iv (k:Nat))]∧
   hp=[(6,zW),(7,bW r c 15),(15,gB (eP r c F) (r*c) (i*c+k))]) c ?_ ?_ ?_
  ·kernel_rfl
  ·exact⟨0,rfl,Nat.zero_le _,rfl,rfl⟩
  rintro m _ _ ⟨k,rfl,hk,rfl,rfl⟩
  conv=>whnf
  by_cases hlk:k<c
  ·have t4:=dX hlk
   have t5:=bA (i:=k) aa
   obtain⟨w1,w2⟩:=kJ (i:=i) (k:=k) (c:=c) aa aa aa
   have hlen:=ji (l:=eP r c F) (show i*c+k≤r*c by omega) hz
   have t6:=jk (l:=eP r c F) (show i*c+k<r*c by omega) hz
   have o2:=hf i k aA hlk
   rw[←cB (f:=F) aA hlk]at o2
   (repeat((first|refine ag rfl rfl ?_|refine aw aB ?_|refine aX Q3 ?_|refine ay Q3 ?_|refine aS (by assumption) ?_|rw[t4]|rw[t5]|rw[w1]|rw[w2]|rw[t6]|rw[Int.toNat_natCast]|rw[Nat.zero_add]);conv=>whnf))
   refine⟨c - (k+1),fun k=>k,[0,1,2,6,7,8,17,18,21,22],[6,7,15],aa,aB,k+1,rfl,hlk,rfl, ?_⟩
   rw[show i*c+(k+1)=i*c+k+1 from rfl,gB,←jh (show i*c+k<r*c by omega) hz]
   rfl
  ·have t4:=ez hlk
   obtain rfl:k=c:=aa
   (repeat(first|(refine af rfl rfl ?_;conv=>whnf)|(rw[t4];conv=>whnf)|(rw[t3];conv=>whnf)))
   refine⟨r - (i+1),fun k=>k,[0,1,2,6,7,17,18],[6,7,15],aa,aB,i+1,rfl,aA,rfl, ?_⟩
   rw[Nat.succ_mul]
   rfl
 ·have t2:=ez aA
  obtain rfl:i=r:=aa
  rw[jg hz]
  (repeat(first|(refine af rfl rfl ?_;conv=>whnf)|(rw[t2];conv=>whnf)))
  exact Q18
theorem F0 {r c:Nat} (hr:r≤2048) (hc:c≤2048) (F:Mz) (g:FuncId) (p q:Pred)
  (hf:∀i k,i<r→k<c→ab Tryz.prog g ([]++([iv (i:Nat),iv (k:Nat)]++[.atom p,.atom q])) [] (.int (F i k)) [] []):
  ab Tryz.prog 254 [iv r,iv c,.clo g [] [.atom p,.atom q]] [] (wA r c (eP r c F)) [] []:=by
 have hz:(eP r c F).length=r*c:=cZ ..
 have vO:r*c≤2048*2048:=Nat.mul_le_mul hr hc
 have t1:IntKind.i64.wrap ((r:Int)*(c:Int))=((r*c:Nat):Int):=by rw[←Int.natCast_mul,wrap_i64 aa aa]
 refine gX [] Tryz.func254 ?_
 intro w0 ρ0 hE
 conv=>whnf
 (repeat(first|(refine ay Q3 ?_;conv=>whnf)|(rw[t1];conv=>whnf)|(rw[Int.toNat_natCast];conv=>whnf)))
 refine ai hE (fun k=>k) [0,1,2,6,7,17,18] [6,7,15] (fun m fr hp=>∃i:Nat,m=r - i∧i≤r∧fr=[(0,iv r),(1,iv c),(2,.clo g [] [.atom p,.atom q]),(6,.ptr 6 0 0 0),(7,.ptr 7 0 0 0),(17,iv r),(18,iv (i:Nat))]∧
  hp=[(6,zW),(7,bW r c 15),(15,gB (eP r c F) (r*c) (i*c))]) r ?_ ?_ ?_
 ·kernel_rfl
 ·exact⟨0,rfl,Nat.zero_le _,rfl,by rw[Nat.zero_mul,gB,List.take_zero];rfl⟩
 rintro m _ _ ⟨i,rfl,hi,rfl,rfl⟩
 conv=>whnf
 by_cases aA:i<r
 ·have t2:=dX aA
  have t3:=bA (i:=i) aa
  have yN:(i+1)*c≤r*c:=Nat.mul_le_mul_right c aA
  rw[Nat.succ_mul]at yN
  (repeat(first|(refine ag rfl rfl ?_;conv=>whnf)|(rw[t2];conv=>whnf)))
  refine ai hE (fun k=>k) [0,1,2,6,7,8,17,18,21,22] [6,7,15] (fun m fr hp=>∃k:Nat,m=c - k∧k≤c∧fr=[(0,iv r),(1,iv c),(2,.clo g [] [.atom p,.atom q]),(6,.ptr 6 0 0 0),(7,.ptr 7 0 0 0),(8,iv (i:Nat)),(17,iv r),(18,iv (i:Nat)),(21,iv c),(22,iv (k:Nat))]∧
   hp=[(6,zW),(7,bW r c 15),(15,gB (eP r c F) (r*c) (i*c+k))]) c ?_ ?_ ?_
  ·kernel_rfl
  ·exact⟨0,rfl,Nat.zero_le _,rfl,rfl⟩
  rintro m _ _ ⟨k,rfl,hk,rfl,rfl⟩
  conv=>whnf
  by_cases hlk:k<c
  ·have t4:=dX hlk
   have t5:=bA (i:=k) aa
   obtain⟨w1,w2⟩:=kJ (i:=i) (k:=k) (c:=c) aa aa aa
   have hlen:=ji (l:=eP r c F) (show i*c+k≤r*c by omega) hz
   have t6:=jk (l:=eP r c F) (show i*c+k<r*c by omega) hz
   have o2:=hf i k aA hlk
   rw[←cB (f:=F) aA hlk]at o2
   (repeat((first|refine ag rfl rfl ?_|refine aw aB ?_|refine aX Q3 ?_|refine ay Q3 ?_|refine aS (by assumption) ?_|rw[t4]|rw[t5]|rw[w1]|rw[w2]|rw[t6]|rw[Int.toNat_natCast]|rw[Nat.zero_add]);conv=>whnf))
   refine⟨c - (k+1),fun k=>k,[0,1,2,6,7,8,17,18,21,22],[6,7,15],aa,aB,k+1,rfl,hlk,rfl, ?_⟩
   rw[show i*c+(k+1)=i*c+k+1 from rfl,gB,←jh (show i*c+k<r*c by omega) hz]
   rfl
  ·have t4:=ez hlk
   obtain rfl:k=c:=aa
   (repeat(first|(refine af rfl rfl ?_;conv=>whnf)|(rw[t4];conv=>whnf)|(rw[t3];conv=>whnf)))
   refine⟨r - (i+1),fun k=>k,[0,1,2,6,7,17,18],[6,7,15],aa,aB,i+1,rfl,aA,rfl, ?_⟩
   rw[Nat.succ_mul]
   rfl
 ·have t2:=ez aA
  obtain rfl:i=r:=aa
  rw[jg hz]
  (repeat(first|(refine af rfl rfl ?_;conv=>whnf)|(rw[t2];conv=>whnf)))
  exact Q18
theorem F1 {r c:Nat} (hr:r≤2048) (hc:c≤2048) (F:Mz) (g:FuncId) (p q s:Pred)
  (hf:∀i k,i<r→k<c→ab Tryz.prog g ([]++([iv (i:Nat),iv (k:Nat)]++[.atom p,.atom q,.atom s])) [] (.int (F i k)) [] []):
  ab Tryz.prog 254 [iv r,iv c,.clo g [] [.atom p,.atom q,.atom s]] [] (wA r c (eP r c F)) [] []:=by
 have hz:(eP r c F).length=r*c:=cZ ..
 have vO:r*c≤2048*2048:=Nat.mul_le_mul hr hc
 have t1:IntKind.i64.wrap ((r:Int)*(c:Int))=((r*c:Nat):Int):=by rw[←Int.natCast_mul,wrap_i64 aa aa]
 refine gX [] Tryz.func254 ?_
 intro w0 ρ0 hE
 conv=>whnf
 (repeat(first|(refine ay Q3 ?_;conv=>whnf)|(rw[t1];conv=>whnf)|(rw[Int.toNat_natCast];conv=>whnf)))
 refine ai hE (fun k=>k) [0,1,2,6,7,17,18] [6,7,15] (fun m fr hp=>∃i:Nat,m=r - i∧i≤r∧fr=[(0,iv r),(1,iv c),(2,.clo g [] [.atom p,.atom q,.atom s]),(6,.ptr 6 0 0 0),(7,.ptr 7 0 0 0),(17,iv r),(18,iv (i:Nat))]∧
  hp=[(6,zW),(7,bW r c 15),(15,gB (eP r c F) (r*c) (i*c))]) r ?_ ?_ ?_
 ·kernel_rfl
 ·exact⟨0,rfl,Nat.zero_le _,rfl,by rw[Nat.zero_mul,gB,List.take_zero];rfl⟩
 rintro m _ _ ⟨i,rfl,hi,rfl,rfl⟩
 conv=>whnf
 by_cases aA:i<r
 ·have t2:=dX aA
  have t3:=bA (i:=i) aa
  have yN:(i+1)*c≤r*c:=Nat.mul_le_mul_right c aA
  rw[Nat.succ_mul]at yN
  (repeat(first|(refine ag rfl rfl ?_;conv=>whnf)|(rw[t2];conv=>whnf)))
  refine ai hE (fun k=>k) [0,1,2,6,7,8,17,18,21,22] [6,7,15] (fun m fr hp=>∃k:Nat,m=c - k∧k≤c∧fr=[(0,iv r),(1,iv c),(2,.clo g [] [.atom p,.atom q,.atom s]),(6,.ptr 6 0 0 0),(7,.ptr 7 0 0 0),(8,iv (i:Nat)),(17,iv r),(18,iv (i:Nat)),(21,iv c),(22,iv (k:Nat))]∧
   hp=[(6,zW),(7,bW r c 15),(15,gB (eP r c F) (r*c) (i*c+k))]) c ?_ ?_ ?_
  ·kernel_rfl
  ·exact⟨0,rfl,Nat.zero_le _,rfl,rfl⟩
  rintro m _ _ ⟨k,rfl,hk,rfl,rfl⟩
  conv=>whnf
  by_cases hlk:k<c
  ·have t4:=dX hlk
   have t5:=bA (i:=k) aa
   obtain⟨w1,w2⟩:=kJ (i:=i) (k:=k) (c:=c) aa aa aa
   have hlen:=ji (l:=eP r c F) (show i*c+k≤r*c by omega) hz
   have t6:=jk (l:=eP r c F) (show i*c+k<r*c by omega) hz
   have o2:=hf i k aA hlk
   rw[←cB (f:=F) aA hlk]at o2
   (repeat((first|refine ag rfl rfl ?_|refine aw aB ?_|refine aX Q3 ?_|refine ay Q3 ?_|refine aS (by assumption) ?_|rw[t4]|rw[t5]|rw[w1]|rw[w2]|rw[t6]|rw[Int.toNat_natCast]|rw[Nat.zero_add]);conv=>whnf))
   refine⟨c - (k+1),fun k=>k,[0,1,2,6,7,8,17,18,21,22],[6,7,15],aa,aB,k+1,rfl,hlk,rfl, ?_⟩
   rw[show i*c+(k+1)=i*c+k+1 from rfl,gB,←jh (show i*c+k<r*c by omega) hz]
   rfl
  ·have t4:=ez hlk
   obtain rfl:k=c:=aa
   (repeat(first|(refine af rfl rfl ?_;conv=>whnf)|(rw[t4];conv=>whnf)|(rw[t3];conv=>whnf)))
   refine⟨r - (i+1),fun k=>k,[0,1,2,6,7,17,18],[6,7,15],aa,aB,i+1,rfl,aA,rfl, ?_⟩
   rw[Nat.succ_mul]
   rfl
 ·have t2:=ez aA
  obtain rfl:i=r:=aa
  rw[jg hz]
  (repeat(first|(refine af rfl rfl ?_;conv=>whnf)|(rw[t2];conv=>whnf)))
  exact Q18
def dW (n:Nat):List Int:=(List.range n).map fun i:Nat=>(i:Int)
theorem ml (i:Nat):dW (i+1)=dW i++[(i:Int)]:=by simp[dW,List.range_succ]
theorem bF (i:Nat):(dW i).length=i:=by simp[dW]
abbrev rm (n:Nat) (l:List Int):List Int:=dW n++l
theorem oT (n:Nat) (l:List Int):(rm n l).length=n+l.length:=by simp[bF]
theorem Ex {n:Nat} {l:List Int} {i:Nat} (hi:i<n):(rm n l).getD i 0=i:=by
 simp[rm,dW,List.getD_eq_getElem?_getD,List.getElem?_append_left,hi]
theorem CH {n:Nat} {x:Int}:(rm n [x]).getD n 0=x:=by
 simp[rm,dW,List.getD_eq_getElem?_getD]
theorem Ou {r c:Nat} {a:List Int} (ha:gu r c a) {p q:List Int} (hp:∀i,i<p.length→0≤p.getD i 0∧p.getD i 0<r) (hq:∀i,i<q.length→0≤q.getD i 0∧q.getD i 0<c) {i k:Nat} (hi:i<p.length) (hk:k<q.length) (hl:p.length≤2048) (iM:q.length≤2048):
  ab Tryz.prog 329 ([]++([iv (i:Nat),iv (k:Nat)]++[bG (wC r c a),bG [cF .i64 p],bG [cF .i64 q]])) [] (.int (bl a c (p.getD i 0).toNat (q.getD k 0).toNat)) [] []:=by
 obtain⟨p1,p2⟩:=hp i hi
 obtain⟨q1,q2⟩:=hq k hk
 have k1:=xi ha (i:=(p.getD i 0).toNat) (k:=(q.getD k 0).toNat) aa aa
 rw[Int.toNat_of_nonneg p1,Int.toNat_of_nonneg q1]at k1
 refine bP [] Tryz.func329 ?_
 intro W0 w0 ρ0 hE
 conv=>whnf
 (repeat((first|refine aw aB ?_|refine aS (by assumption) ?_|refine ak Q6 ?_|refine ak nA ?_);conv=>whnf));exact Q5
theorem KP {r c:Nat} {a:List Int} (ha:gu r c a) {p q:List Int} (hp:∀i,i<p.length→0≤p.getD i 0∧p.getD i 0<r) (hq:∀i,i<q.length→0≤q.getD i 0∧q.getD i 0<c) (hl:p.length≤2048) (iM:q.length≤2048):
  ab Tryz.prog 257 [wA r c a,cF .i64 p,cF .i64 q] [] (wA p.length q.length (eP p.length q.length fun i k=>bl a c (p.getD i 0).toNat (q.getD k 0).toNat)) [] []:=by
 have k1:=F1 hl iM _ 329 (eS (wC r c a)) (eS [cF .i64 p]) (eS [cF .i64 q]) (fun i k hi hk=>Ou ha hp hq hi hk hl iM)
 refine bP [3,4,5] Tryz.func257 ?_
 intro W0 w0 ρ0 hE
 conv=>whnf
 (repeat((first|refine aS (by assumption) ?_|refine ak cO ?_|refine ak Q6 ?_|refine ak uf ?_);conv=>whnf));exact Q5
set_option maxHeartbeats 40000000
theorem Ov (n:Nat) (l:List Int) (hn:n≤2048) (hl:l.length≤2048):ab Tryz.prog 258 [iv n,cF .i64 l] [] (.aN 2001 1 0 (n+l.length)) [(2001,dH (rm n l))] []:=by
 refine fq (Z:=[]) aL bJ Tryz.func258 rfl aB (args:=[iv n,cF .i64 l]) (fk:=[]) (c:=.aN 17 1 0 (n+l.length)) (new:=[(17,dH (rm n l))]) (upd:=[]) (cu.of rfl rfl rfl rfl rfl rfl rfl rfl rfl rfl rfl) rfl (cx [(17,2001)]) bh.one ?_
 intro W0 w0 ρ0 hE
 conv=>whnf
 skip
 refine bR (t:=4) (k:=2002) (s:=1) (blk:=dH []) rfl rfl rfl ?_
 refine ai hE (fun k=>k) [1,4,6,7] [2002] (fun m fr hp=>∃i:Nat,m=n - i∧i≤n∧fr=[(1,cF .i64 l),(4,.aN 2002 1 0 i),(6,iv n),(7,iv (i:Nat))]∧hp=[(2002,dH (dW i))]) n ?_ ?_ ?_
 ·kernel_rfl
 ·exact⟨0,rfl,Nat.zero_le _,rfl,rfl⟩
 rintro m _ _ ⟨i,rfl,hi,rfl,rfl⟩
 conv=>whnf
 have lq:=bF i
 by_cases aA:i<n
 ·have t1:=dX aA
  have t2:=bA (i:=i) aa
  have e1:=mZ (l:=dW i) (x:=(i:Int))
  rw[lq,←ml]at e1
  (repeat((first|refine ay Q3 ?_|refine aE t1 ?_|rw[t1]|rw[t2]);conv=>whnf))
  refine⟨n - (i+1),cx [(13,2002)],[1,4,6,7],[13],aa,aB,i+1,rfl,aA,rfl, ?_⟩
  rw[e1];rfl
 ·have t1:=ez aA
  obtain rfl:i=n:=aa
  (repeat(first|(refine aM t1 ?_;conv=>whnf)|(rw[t1];conv=>whnf)))
  refine⟨.aN 17 1 0 (i+l.length),[(2002,dH (dW i))],[(17,dH (rm i l))],[(2002,⟨3,true,.dead⟩)],iK rfl rfl rfl (aj rfl) (aj rfl) (mh l) (aL.get (t:=33) rfl) rfl (aL.get (t:=33) rfl) rfl (aL.get (t:=3) rfl) (List.mem_cons_self ..) rfl rfl (by show i≤(dW i).length;omega) (m:=l.length) (List.length_map _).symm (by show 0+l.length≤l.length;omega) (by simp[pj,List.take_of_length_le (show(dW i).length≤i by omega)]) (by show(i+_)*M6.bytes≤_;simp only[Je];omega) aa,dv rfl,cV rfl,dp (List.mem_cons_self ..) rfl rfl rfl, ?_⟩
  conv=>whnf
  exact⟨aq.refl _,(fun k b h=>by simp only[List.mem_singleton,Prod.mk.injEq]at h;obtain⟨rfl,rfl⟩:=h;rfl),(fun _ _ h=>by cases h)⟩
theorem vd (n:Nat) (l:List Int) (hn:n≤2048) (hl:l.length≤2048):ab Tryz.prog 258 [iv n,cF .i64 l] [] (cF .i64 (rm n l)) [] []:=by
 refine gX [] Tryz.func258 ?_
 intro w0 ρ0 hE
 conv=>whnf
 skip
 refine bR (t:=4) (k:=2002) (s:=1) (blk:=dH []) rfl rfl rfl ?_
 refine ai hE (fun k=>k) [1,4,6,7] [2002] (fun m fr hp=>∃i:Nat,m=n - i∧i≤n∧fr=[(1,cF .i64 l),(4,.aN 2002 1 0 i),(6,iv n),(7,iv (i:Nat))]∧hp=[(2002,dH (dW i))]) n ?_ ?_ ?_
 ·kernel_rfl
 ·exact⟨0,rfl,Nat.zero_le _,rfl,rfl⟩
 rintro m _ _ ⟨i,rfl,hi,rfl,rfl⟩
 conv=>whnf
 have lq:=bF i
 by_cases aA:i<n
 ·have t1:=dX aA
  have t2:=bA (i:=i) aa
  have e1:=mZ (l:=dW i) (x:=(i:Int))
  rw[lq,←ml]at e1
  (repeat((first|refine ay Q3 ?_|refine aE t1 ?_|rw[t1]|rw[t2]);conv=>whnf))
  refine⟨n - (i+1),cx [(13,2002)],[1,4,6,7],[13],aa,aB,i+1,rfl,aA,rfl, ?_⟩
  rw[e1];rfl
 ·have t1:=ez aA
  obtain rfl:i=n:=aa
  (repeat(first|(refine aM t1 ?_;conv=>whnf)|(rw[t1];conv=>whnf)))
  refine⟨.aN 17 1 0 (i+l.length),[(2002,dH (dW i))],[(17,dH (rm i l))],[(2002,⟨3,true,.dead⟩)],iK rfl rfl rfl (aj rfl) (aj rfl) (mh l) (aL.get (t:=33) rfl) rfl (aL.get (t:=33) rfl) rfl (aL.get (t:=3) rfl) (List.mem_cons_self ..) rfl rfl (by show i≤(dW i).length;omega) (m:=l.length) (List.length_map _).symm (by show 0+l.length≤l.length;omega) (by simp[pj,List.take_of_length_le (show(dW i).length≤i by omega)]) (by show(i+_)*M6.bytes≤_;simp only[Je];omega) aa,dv rfl,cV rfl,dp (List.mem_cons_self ..) rfl rfl rfl, ?_⟩
  conv=>whnf
  refine ll.one rfl rfl (cW.ints rfl ?_)
  rw[oT]
end Go.Proofs.YtfpagioknjjacaaGreatDoor
namespace Go.Sx
set_option linter.unusedSimpArgs false
set_option linter.unusedVariables false
theorem uu {E:Env} (t k:Nat) {c:Code} {K:bQ} {fr:List (Nat×SV)} {hp:List (Nat×aC)} {ty:TypeId} {cs:List SV} (hW:∀b,¬E.W0 b) (ht:lk fr t=some (.ptr k 0 0 0)) (hk:find hp k=some ⟨ty,true,.one cs⟩)
  (mF:bn cs=true) (hs:ey E c K ((t,bG cs)::fr) (fI hp k ⟨ty,true,.dead⟩)):ey E c K fr hp:=by
 refine⟨fun a W hR=>hs.run a W ?_⟩
 have hl:(Data.one cs).live=true:=rfl
 obtain⟨ρ,hext,hfx,hR⟩:=hR
 have Bs:(fn fr hp (.k k)).blk=some ⟨ty,true,.one cs⟩:=by simp only[fn,LV.blk];exact hk
 have hv:=hR.fr t _ (by simp only[fn,LV.sv];exact ht)
 obtain⟨x,hx,hxv⟩:=(iN (c:=.ptr k 0 0 0) rfl).1 hv
 have ec:∀j b,(fn ((t,bG cs)::fr) (fI hp k ⟨ty,true,.dead⟩) (.k j)).blk=some b→(j=k∧b=⟨ty,true,.dead⟩)∨(j≠k∧(fn fr hp (.k j)).blk=some b):=by
  intro j b hb
  simp only[fn,LV.blk,cn]at hb ⊢
  by_cases hj:j=k
  ·rw[if_pos hj]at hb;exact .inl ⟨hj,(Option.some.inj hb).symm⟩
  ·rw[if_neg hj]at hb;exact .inr ⟨hj,hb⟩
 have fin:∀ρ':bY,ρ'.key=ρ.key→(∀b o,ρ.aY b=some o→ρ'.aY b=some o)→(∀b o,ρ'.aY b=some o→ρ.aY b=some o∨E.w0.heap.size≤b)→(∀b o,ρ'.aY b=some o→W.heap[b]? =some o)→
   (∀j b x,j≠k→(fn fr hp (.k j)).blk=some b→b.wr=true→b.data.live=true→ρ.key j=some x→ρ'.aY x.1=none)→(∀D,W.heap[D]? =some (.deferred (some []))→ρ.aY D=none→ρ'.aY D=none)→Has ρ' (bG cs) (a.tmps.getD t undef)→
   RR E (fn ((t,bG cs)::fr) (fI hp k ⟨ty,true,.dead⟩)) a W:=by
  intro ρ' b9 himm fg hheap iV hmark hhas
  have hle:ρ.Le ρ':=⟨fun j y hy=>by rw[b9];exact hy,himm⟩
  refine⟨ρ',⟨hext.le.trans hle,fun b o hb=>(fg b o hb).elim (fun h=>hext.aY b o h) .inr,fun j hj=>by rw[b9];exact hext.fix j hj⟩,fun j hj=> ?_,{defers:= ?_,size:=hR.size,fr:= ?_,bO:=hR.bO,hp:= ?_}⟩
  ·have:=hfx j hj
   simp only[fn,LV.blk,cn]at this ⊢
   split
   ·simp
   ·exact this
  ·obtain⟨Ds,d1,d2,d3⟩:=hR.defers
   refine⟨Ds,d1,d2,fun D hD=> ?_⟩
   obtain⟨e1,e2,e3⟩:=d3 D hD
   refine⟨e1,e2, ?_⟩
   exact hmark D e2 e3
  ·intro u sv hu
   simp only[fn,LV.sv,lk]at hu
   cases hb:Nat.beq t u with
   |true=>
    rw[hb]at hu
    simp only[Option.some.injEq]at hu
    subst hu
    rw[←Nat.eq_of_beq_eq_true hb]
    exact hhas
   |false=>rw[hb]at hu;exact Has.mono hle _ _ (hR.fr u sv (by simp only[fn,LV.sv];exact hu))
  ·constructor
   ·intro j b hb
    rcases ec j b hb with⟨rfl,rfl⟩|⟨hj,hb⟩
    ·exact .inl rfl
    ·rcases hR.hp.blk j b hb with g0|⟨b',t',vs,ex,g1,g2,g3,g4⟩|⟨g1,g2⟩
     ·exact .inl g0
     ·exact .inr (.inl ⟨b',t',vs,ex,by rw[b9];exact g1,g2,g3.mono hle,g4⟩)
     ·exact .inr (.inr ⟨by rw[b9];exact g1,g2⟩)
   ·intro j j' y y' b b' hy Dw b6 hyy hb gj gp iM
    rw[b9]at hy Dw
    rcases ec j b hb with⟨_,rfl⟩|⟨_,hb⟩
    ·cases gp
    rcases ec j' b' gj with⟨_,rfl⟩|⟨_,gj⟩
    ·cases iM
    exact hR.hp.sep j j' y y' b b' hy Dw b6 hyy hb gj gp iM
   ·intro j b y hb hwr gp hy
    rw[b9]at hy
    rcases ec j b hb with⟨_,rfl⟩|⟨_,hb⟩
    ·cases gp
    exact hR.hp.own j b y hb hwr gp hy
   ·intro j y hy
    rw[b9]at hy
    obtain⟨b,hb⟩:=hR.hp.rL j y hy
    simp only[fn,LV.blk,cn]at hb ⊢
    split
    ·exact⟨_,rfl⟩
    ·exact⟨b,hb⟩
   ·exact hheap
   ·intro j b y hb hwr gp hy
    rw[b9]at hy
    rcases ec j b hb with⟨_,rfl⟩|⟨hj,hb⟩
    ·cases gp
    exact iV j b y hj hb hwr gp hy
 simp only[aK]at hx
 obtain⟨b,t',h1,rfl⟩:=hx
 rcases hR.hp.blk k _ Bs with g0|⟨b',t'',vs,ex,g1,g2,g3,g4,g5⟩|⟨g1,_⟩
 ·cases g0
 ·rw[h1]at g1
  cases g1
  rw[Data.cy rfl]at g2
  have h2:W.heap[b]? =some (.cells (vs++ex).toArray ty (0,0)):=g2
  simp only[c9]at g3
  obtain⟨z,z1,rfl⟩:=g3
  have hB:E.w0.heap.size≤b:=(hR.hp.own k _ _ Bs rfl hl h1).resolve_right (hW _)
  obtain⟨u,Bq⟩:=(Up.refl ρ W E.w0.heap.size).add hR.hp.aY hB h2
  refine fin ⟨ρ.key,_,u.cq⟩ rfl u.le (fun b o hb=>(u.new b o hb).imp id (fun h=>h.1)) (fun c p hc=> ?_) (fun j blk y hj hb hwr gp hy=> ?_) (fun D I7 hD2=> ?_) ?_
  ·rcases u.new c p hc with h|h
   ·exact hR.hp.aY c p h
   ·exact h.2
  ·show(if y.1=b then some _ else ρ.aY y.1)=none
   rw[if_neg]
   ·exact hR.hp.fb j blk y hb hwr gp hy
   ·intro he2
    have:=hR.hp.sep k j (b,t') y _ _ h1 hy (fun h=>hj h.symm) he2.symm Bs hb hl gp
    cases this
  ·show(if D=b then some _ else ρ.aY D)=none
   rw[if_neg,hD2]
   rintro rfl
   rw[I7]at h2;cases h2
  ·rw[hxv]
   have hz:au (cN (fun x=>if x=b then some (.cells (z.flatten++ex).toArray ty (0,0))else ρ.aY x) u.cq) cs z:=ck (ρ:=ρ) u.le cs z mF z1
   refine nP ⟨b,z,[],ex,ty,(0,0),if_pos rfl,hz, ?_⟩
   simp[cM,SV.bf]
 ·rw[h1]at g1;cases g1
theorem Hp {P:Program} {o:Oper} {ft:List (Nat×SV)} {fk:List (Nat×aC)} {t t2 e:TypeId} {x y:Operand} {w:Nat} {xs:List SV} (ho:o.op= .binOp .eql t x y t2) (hx:bp ft x (eH w xs)) (hy:bp ft y (.val (.slice none 0 0))) (hu:P.underlying t=some (.slice e)) (b6:xs≠[]):bV P o ft fk (.val (.bool false)) [] []:=
 br fun ρ ac W hp=>by
  have e2:=aI (hy ρ ac hp.dr)
  rcases ow (hx ρ ac hp.dr)with⟨h0,_⟩|⟨b,cap,z,pre,ex,ty,fz,_,_,_,_,_,h6⟩
  ·exact absurd h0 b6
  ·have hq:∀d b i n m,(Op.equalIn (d+1) t (.slice (some ⟨b,i,none⟩) n m) (.slice none 0 0)).run P W= .ok false W:=fun d b i n m=>by simp[Op.equalIn,run_underlying hu]
   have xM:∀b i n m,(Op.equal t (.slice (some ⟨b,i,none⟩) n m) (.slice none 0 0)).run P W= .ok false W:=fun b i n m=>hq 9999 b i n m
   refine⟨_, ?_,ca rfl⟩
   simp[execOp,ho,h6,e2,eqGuard,binOp,xM]
end Go.Sx
namespace Go.Proofs.YtfpagioknjjacaaGreatDoor
open Go.Sx
set_option linter.unusedSimpArgs false
set_option linter.unusedVariables false
set_option maxRecDepth 100000
set_option maxHeartbeats 4000000
abbrev sA (r c:Int) (a:List Int) (b s:Int):SV:=.agg [wA r c a,.int b,iv s]
abbrev sC (r c:Int) (a:List Int) (b s:Int):List SV:=[wA r c a,.int b,iv s]
theorem F2 (r c:Int) (a:List Int):ab Tryz.prog 252 [wA r c a] [] (sA r c a 1 0) [] []:=by
 have k1:=l7 1 aF aF
 refine bP [] Tryz.func252 ?_
 intro W0 w0 ρ0 hE
 conv=>whnf
 (repeat(first|(refine aw aB ?_;conv=>whnf)|(refine aS (by assumption) ?_;conv=>whnf)));exact Q5
theorem Ow (a b c d:Int) (h:zs a+zs b+(zs c+zs d)≤1073741824):ab Tryz.prog 332 [.int a,.int b,.int c,.int d] [] (.int (a*b - c*d)) [] []:=by
 have k1:=nb a b aa
 have k2:=nb c d aa
 have k3:=KK (a*b) (c*d) (by have:=na a b;have:=na c d;omega)
 refine bP [] Tryz.func332 ?_
 intro W0 w0 ρ0 hE
 conv=>whnf
 (repeat(first|(refine aw aB ?_;conv=>whnf)|(refine aS (by assumption) ?_;conv=>whnf)));exact Q5
def Ox (a:List Int) (c i k:Nat):Int:=bl a c 0 0*bl a c (i+1) (k+1) - bl a c (i+1) 0*bl a c 0 (k+1)
theorem Ey {a:List Int} {r c i k B:Nat} (h:Zm B a) (ha:a.length=(r+1)*(c+1)) (hi:i<r) (hk:k<c):zs (Ox a (c+1) i k)≤4*B:=by
 have h1:=bX h ha (i:=0) (k:=0) aa aa
 have h2:=bX h ha (i:=i+1) (k:=k+1) aa aa
 have h3:=bX h ha (i:=i+1) (k:=0) aa aa
 have h4:=bX h ha (i:=0) (k:=k+1) aa aa
 have:=Y7 (bl a (c+1) 0 0*bl a (c+1) (i+1) (k+1)) (bl a (c+1) (i+1) 0*bl a (c+1) 0 (k+1))
 have:=na (bl a (c+1) 0 0) (bl a (c+1) (i+1) (k+1))
 have:=na (bl a (c+1) (i+1) 0) (bl a (c+1) 0 (k+1))
 unfold Ox;omega
theorem Oy {r c B:Nat} {a:List Int} {b s:Int} (ha:gu (r+1) (c+1) a) (za:Zm B a) (hb:4*B+zs b≤1073741824) {i k:Nat} (hi:i<r) (hk:k<c):
  ab Tryz.prog 330 ([]++([iv (i:Nat),iv (k:Nat)]++[bG [.int (bl a (c+1) 0 0)],bG (sC (r+1:Nat) (c+1:Nat) a b s)])) [] (.int (Ox a (c+1) i k/b)) [] []:=by
 have h1:=bX za ha.n (i:=0) (k:=0) aa aa
 have h2:=bX za ha.n (i:=i+1) (k:=k+1) aa aa
 have h3:=bX za ha.n (i:=i+1) (k:=0) aa aa
 have h4:=bX za ha.n (i:=0) (k:=k+1) aa aa
 have h5:=Ey za ha.n hi hk
 have w1:=bA (i:=i) (by have:=ha.r;omega)
 have w2:=bA (i:=k) (by have:=ha.c;omega)
 have k1:=xi ha (i:=i+1) (k:=k+1) aa aa
 have k2:=xi ha (i:=i+1) (k:=0) aa aa
 have k3:=xi ha (i:=0) (k:=k+1) aa aa
 have k4:=Ow (bl a (c+1) 0 0) (bl a (c+1) (i+1) (k+1)) (bl a (c+1) (i+1) 0) (bl a (c+1) 0 (k+1)) aa
 obtain⟨q,ok,k5⟩:=Y8 (Ox a (c+1) i k) b aa
 unfold Ox at*
 refine bP [] Tryz.func330 ?_
 intro W0 w0 ρ0 hE
 conv=>whnf
 (repeat((first|refine aw aB ?_|refine aS (by assumption) ?_|refine ak Q6 ?_|refine ak Q9 ?_|rw[w1]|rw[w2]);conv=>whnf));exact Q5
abbrev nxt (r c:Nat) (a:List Int) (b:Int):List Int:=eP r c fun i k=>Ox a (c+1) i k/b
theorem KQ {r c B:Nat} {a:List Int} {b s:Int} (ha:gu (r+1) (c+1) a) (za:Zm B a) (hb:4*B+zs b≤1073741824):
  ab Tryz.prog 259 [sA (r+1:Nat) (c+1:Nat) a b s] [] (sA r c (nxt r c a b) (bl a (c+1) 0 0) s) [] []:=by
 have k1:=xi ha (i:=0) (k:=0) aa aa
 have k2:=F0 (r:=r) (c:=c) (by have:=ha.r;omega) (by have:=ha.c;omega) (fun i k=>Ox a (c+1) i k/b) 330 (eS [.int (bl a (c+1) 0 0)]) (eS (sC (r+1:Nat) (c+1:Nat) a b s)) fun i k hi hk=>Oy ha za hb hi hk
 have w1:IntKind.i64.wrap (((r+1:Nat):Int) - 1)=(r:Int):=by rw[wrap_i64 aa (by have:=ha.r;omega)];omega
 have w2:IntKind.i64.wrap (((c+1:Nat):Int) - 1)=(c:Int):=by rw[wrap_i64 aa (by have:=ha.c;omega)];omega
 refine gX [1,100002] Tryz.func259 ?_
 intro w0 ρ0 hE
 conv=>whnf
 (repeat(first|(refine aS (by assumption) ?_;conv=>whnf)|(refine ak Q6 ?_;conv=>whnf)|(refine ak Q9 ?_;conv=>whnf)))
 refine uu 3 3 (fun _ h=>h) rfl rfl rfl ?_
 refine dC hE ?_
 conv=>whnf
 (repeat((first|refine aS (by assumption) ?_|refine ak Q6 ?_|refine ak Q9 ?_|refine ak uf ?_|rw[w1]|rw[w2]);conv=>whnf))
 exact Q5
theorem Hq (l:List Int):∀(ρ:bY) z,au (cN ρ.aY ρ.cq) (l.map SV.int) z→(∀x∈l.map SV.int,x.width=3)→Go.Sx.Rows ρ 3 (.seq 3 (l.map .int)) z:=fun _ _ h k=>⟨rfl,h,k⟩
theorem Oz (l:List Int) (hl:l.length<1099511627776) (h0:l≠[]):ab Tryz.prog 357 [gO l] [] (.aN 2001 3 0 l.length) [(2001,Ho l)] []:=by
 have b6:l.map SV.int≠[]:=by simpa using h0
 refine fq (Z:=[]) aL bJ Tryz.func357 rfl aB (args:=[gO l]) (fk:=[]) (c:=.aN 7 3 0 l.length) (new:=[(7,Ho l)]) (upd:=[]) (cu.of rfl rfl rfl rfl rfl rfl rfl rfl rfl rfl rfl) rfl (cx [(7,2001)]) bh.one ?_
 intro W0 w0 ρ0 hE
 conv=>whnf
 (repeat(first|(refine af rfl rfl ?_;conv=>whnf)|(refine⟨_,Hp rfl (aj rfl) (aj rfl) Tryz.underlying205 b6, ?_⟩;conv=>whnf)))
 refine⟨.aN 7 3 0 (0+l.length),[(5,⟨50,true,.seq 3 []⟩)],[(7,Ho l)],[(5,⟨50,true,.dead⟩)],iK rfl rfl rfl (aj rfl) (aj rfl) (Hq l) (aL.get (t:=205) rfl) rfl (aL.get (t:=205) rfl) rfl (aL.get (t:=50) rfl) (List.mem_cons_self ..) rfl rfl (by simp[eR]) (by simp) (by simp[eR]) (by simp[pj];exact List.take_of_length_le (by simp)) (by show(0+_)*Jf.bytes≤_;simp only[PL];omega) aa,dv rfl,cV rfl,dp (List.mem_cons_self ..) rfl rfl rfl, ?_⟩
 conv=>whnf
 exact⟨by rw[Nat.zero_add];exact aq.refl _,(fun k b h=>by simp only[List.mem_singleton,Prod.mk.injEq]at h;obtain⟨rfl,rfl⟩:=h;rfl),(fun _ _ h=>by cases h)⟩
def Ez (r c:Nat) (a:List Int) (i k:Nat):List Int:=eP r c fun p q=>if q<k then eY (bl a c) 0 i p q else bl a c p q
theorem F3 {a:List Int} {r n i k j l:Nat} {q:Int} (ha:a.length=r*n) (hi:i<r) (hk:k<n) (hj:j<r) (hl:l<n):bl (a.set (i*n+k) q) n j l=if i=j∧k=l then q else bl a n j l:=by
 have h1:=dN hi hk
 have h2:=dN hj hl
 simp only[bl,List.getD_eq_getElem?_getD,List.getElem?_set]
 by_cases e:i*n+k=j*n+l
 ·have e1:=congrArg (·/n) e
  have e2:=congrArg (· % n) e
  simp only[uX hk,uX hl,uY hk,uY hl]at e1 e2
  subst e1 e2
  simp[ha,h1]
 ·rw[if_neg e,if_neg (by rintro⟨rfl,rfl⟩;exact e rfl)]
theorem KT {r c:Nat} {a:List Int} {i:Nat} (ha:a.length=r*c):Ez r c a i 0=a:=
 oS ha fun p q _ _=>if_neg aa
theorem AP (r c:Nat) (a:List Int) (i k:Nat):(Ez r c a i k).length=r*c:=cZ ..
theorem EA {r c:Nat} {a:List Int} {i k p q:Nat} (hp:p<r) (hq:q<c) (hk:k≤q):bl (Ez r c a i k) c p q=bl a c p q:=by
 rw[Ez,cB hp hq,if_neg aa]
theorem OA {r c:Nat} {a:List Int} {i k:Nat} (hi:i<r) (h0:0<i) (hk:k<c):
  ((Ez r c a i k).set k (bl a c i k)).set (i*c+k) (bl a c 0 k)=Ez r c a i (k+1):=by
 have hl:=AP r c a i k
 have e0:(Ez r c a i k).set k (bl a c i k)=(Ez r c a i k).set (0*c+k) (bl a c i k):=by rw[Nat.zero_mul,Nat.zero_add]
 rw[e0]
 refine FZ (by rw[List.length_set,List.length_set,hl]) (AP ..) fun p q hp hq=> ?_
 rw[F3 (by rw[List.length_set,hl]) hi hk hp hq,F3 hl aa hk hp hq,Ez,Ez,cB hp hq,cB hp hq]
 unfold eY
 by_cases e1:i=p∧k=q
 ·obtain⟨rfl,rfl⟩:=e1
  rw[if_pos ⟨rfl,rfl⟩,if_pos aa,if_neg aa,if_pos rfl]
 ·rw[if_neg e1]
  by_cases e2:0=p∧k=q
  ·obtain⟨rfl,rfl⟩:=e2
   rw[if_pos ⟨rfl,rfl⟩,if_pos aa,if_pos rfl]
  ·rw[if_neg e2]
   by_cases e3:q=k
   ·subst e3
    rw[if_neg aa,if_pos aa,if_neg (fun h=>e2 ⟨h.symm,rfl⟩),if_neg (fun h=>e1 ⟨h.symm,rfl⟩)]
   ·by_cases e4:q<k
    ·rw[if_pos e4,if_pos (show q<k+1 by omega)]
    ·rw[if_neg e4,if_neg (show ¬q<k+1 by omega)]
theorem OB {r c:Nat} {a:List Int} {i:Nat}:Ez r c a i c=eP r c (eY (bl a c) 0 i):=mj fun p q _ hq=>if_pos hq
end Go.Proofs.YtfpagioknjjacaaGreatDoor
