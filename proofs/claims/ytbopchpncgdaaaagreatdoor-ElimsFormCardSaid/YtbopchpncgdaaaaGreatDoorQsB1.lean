/- The texts SxW, SxX, SxY, Db, Em, Ga, Gb, Gd, Ge, Shelf, Ha, Hb, Ta, Tb, Tc, Ka, Kd, Ke, Kg, Kf, Kh, Ne. -/
import Derived.Deep.Slices
import Derived.Lib.LaidTab
import Derived.Shelf.Strings.Builder1
import Derived.Shelf.Strings.Builder2
import Derived.Shelf.Strings.OnBuilder
import Derived.Shelf.Small.Bits
import Derived.Shelf.Strings.BuilderF
import Derived.Shelf.Strings.Builder2Cap
import Derived.Shelf.Strconv.Itoa0
import Derived.Shelf.Strconv.Itoa1
import Derived.Shelf.LaysM
import Derived.Shelf.Strconv.Itoa2
import Derived.Shelf.Strconv.Itoa3
import Derived.Shelf.Strings.Prefix
import Derived.Shelf.Bits.Mul64
import Derived.Shelf.Strings.Repeat
import Derived.Ground.Names2Prog
import Derived.Shelf.Slices.ReverseS
import Derived.Shelf.Slices.Cells
import Derived.Test.YtbopchpncgdaaaaGreatDoorProg
import Derived.Lib.Walk
import Derived.Lib.ItoaMem
import Derived.Lib.AppendIntMem
import Derived.WalkKit
import Derived.BigCall
import Derived.BigGuard
import Derived.Test.YtbopchpncgdaaaaGreatDoorQsA15
namespace Go.Sx
theorem SW_loopS {E:Env} (hE:E.OK) {c:Code} {K:Post'} {fr:List (Nat×SV)} {hp:List (Nat×Blk)} (σ:Nat→Nat) (ts ks:List Nat) (I:Nat→List (Nat×SV)→List (Nat×Blk)→Prop) (m:Nat)
  (h0:normOK E.fx σ ts ks fr hp=true) (hI:I m (normF σ fr ts) (normH σ hp ks))
  (h:∀m fr hp,I m fr hp→SWx E c (fun e fr' hp'=>match e with
   |.normal=>∃m' σ ts ks,m'<m∧normOK E.fx σ ts ks fr' hp'=true∧I m' (normF σ fr' ts) (normH σ hp' ks)
   |e=>K e fr' hp') fr hp):SWx E (.loop c) K fr hp:=by
 refine⟨?_⟩
 refine SW_norm hE σ ts ks h0 (SW_loop (fun m fr hp=>∃fr0 hp0,(∀a w,RR E (fn fr hp) a w→RR E (fn fr0 hp0) a w)∧I m fr0 hp0) m ⟨_,_,fun _ _ h=>h,hI⟩ ?_)
 rintro m fr hp ⟨fr0,hp0,hw,hI⟩ a w hR
 refine Code.wpIn_mono ?_ ((h m fr0 hp0 hI).run a w (hw a w hR))
 rintro e a' w' ⟨fr',hp',h1,h2⟩
 cases e with
 |normal=>
  obtain⟨m',σ,ts,ks,hlt,hok,hI'⟩:=h1
  exact⟨fr',hp',⟨m',hlt,_,_,fun a w hR=>norm_RR hE hok hR,hI'⟩,h2⟩
 |_=>exact⟨fr',hp',h1,h2⟩
section
variable {P:Program} {o:Oper} {ft:List (Nat×SV)} {fk:List (Nat×Blk)} {w:Nat} {α:Type} {f:α→SV} {xs:List α}
end
section
variable {P:Program} {f:FuncId} {args:List SV} {hp:List (Nat×Blk)} {o:Oper} {fr:List (Nat×SV)} {c:SV}
end
end Go.Sx
namespace Go.Sx
open Go.ChangeShapes Go.WideShapes
theorem tab_is {P:Program} {W:World} {name:String} {k:IntKind} {zs:List Int} {g:Nat} (hg:P.globalNamed name=some g) {ty:TypeId} {fz:Nat×Nat} (h:W.heap[g]? =some (.cells (zs.map fun x=>Value.int k x).toArray ty fz)):Lib.TabIs P W name k zs:=by
 unfold Lib.TabIs World.var?
 rw[hg]
 simp only[Option.bind_some,h]
section
variable {H:Type} {enc:TypeId×Value→H} {P:Program} {W:World} {hg:TabsW W}
def ag2 {α β:Type} (f:α→SV) (g:β→SV) (p:α×β):SV:=.agg [f p.1,g p.2]
end
end Go.Sx
namespace Go.Sx
section
variable {α:Type} {p:α→Bool} {l:List α} {d:α}
theorem all_at (d:α) (h:∀i,i<l.length→p (l.getD i d)=true):l.all p=true:=by
 rw[List.all_eq_true]
 intro x hx
 obtain⟨i,hi,rfl⟩:=mem_getD hx d
 exact h i hi
theorem all_no {i:Nat} (h:i<l.length) (hp:p (l.getD i d)=false):l.all p=false:=by
 rw[List.all_eq_false]
 exact⟨_,getD_mem (d:=d) h,by rw[hp];exact Bool.false_ne_true⟩
end
theorem SWx_freezeF {E:Env} (t k:Nat) {c:Code} {K:Post'} {fr:List (Nat×SV)} {hp:List (Nat×Blk)} {ty:TypeId} {n:Nat} {qs:List Rat} (hW:∀b,¬E.W0 b) (ht:lk fr t=some (.slc k 5 0 n)) (hk:find hp k=some ⟨ty,true,.fracs qs⟩)
  (hn:n=qs.length) (hs:SWx E c K ((t,fvec qs)::fr) (setB hp k ⟨ty,true,.dead⟩)):SWx E c K fr hp:=by
 refine SWx_freeze t k (xs:=qs.map .frac) hW ht hk rfl rfl (keylessL_map (fun _=>rfl) qs) (by simp;omega) ?_
 rw[cutL_all (by simp;omega)]
 exact hs
theorem zip_vals {ρ:Rho}:∀{vs:List Value} {z:List (List Value)},HasZ ρ (vs.map .val) z→List.zipWith mkV (vs.map .val) z=vs
 |[],z,h=>by simp
 |v::vs,z,h=>by
  simp only[List.map_cons,HasZ,HasC]at h
  obtain⟨x,r,rfl,⟨rfl,_⟩,h2⟩:=h
  simp[zip_vals h2,mkV,SV.isOne]
theorem call_vals {P:Program} {f:FuncId} {vs:List Value} {v:Value} (hf:FnOK P f) (hv:v.oneCell'=true) (h:∀w:World,Calls P f vs.toArray w fun e w'=>e= .returned v∧RowKit.Below w.heap.size w w'):CallOK P f (vs.map .val) [] (.val v) [] []:=by
 refine .inl ⟨hf,fun ρ w z hz _=> ?_⟩
 rw[zip_vals hz]
 refine(h w).mono ?_
 rintro e w' ⟨rfl,hb⟩
 exact⟨v,ρ,rfl,.of_below hb (has_val hv)⟩
theorem call_vals' {P:Program} {f:FuncId} {vs:List Value} {v:Value} (hf:FnOK P f) (hv:v.oneCell'=true) (h:∀w:World,Calls P f vs.toArray w fun e w'=>e= .returned v∧w'=w):CallOK P f (vs.map .val) [] (.val v) [] []:=
 call_vals hf hv fun w=>(h w).mono fun _ _ ⟨he,hw⟩=>⟨he,hw▸RowKit.Below.refl _ _⟩
def sel (s:ByteArray):SV:=.val (.string s)
theorem call_strs {P:Program} {f:FuncId} {ss:List ByteArray} {sep:ByteArray} {v:Value} (hf:FnOK P f) (hv:v.oneCell'=true)
  (h0:ss=[]→∀(a:Option Addr) (w:World),Calls P f #[.slice a 0 0,.string sep] w fun e w'=>e= .returned v∧w'=w)
  (h:∀(bk o c:Nat) (w:World),(∀(j:Nat) x,ss[j]? =some x→w.cell? ⟨bk,o+j,none⟩=some (.string x))→bk<w.heap.size→ss.length≤c→Calls P f #[.slice (some ⟨bk,o,none⟩) ss.length c,.string sep] w fun e w'=>e= .returned v∧RowKit.Below w.heap.size w w'):
  CallOK P f [mvec 1 sel ss,.val (.string sep)] [] (.val v) [] []:=by
 refine .inl ⟨hf,fun ρ w z hz hp=> ?_⟩
 simp only[HasZ,HasC]at hz
 obtain⟨x,_,rfl,hx,y,_,rfl,⟨rfl,_⟩,rfl⟩:=hz
 have fin:∀(a:Value),(Calls P f #[a,.string sep] w fun e w'=>e= .returned v∧RowKit.Below w.heap.size w w')→Calls P f (List.zipWith mkV [mvec 1 sel ss,SV.val (.string sep)] [[a],[.string sep]]).toArray w fun e w'=>∃v' ρ',e= .returned v'∧Post ρ w (.val v) [] [] v' ρ' w':=fun a hc=>by
  have e:(List.zipWith mkV [mvec 1 sel ss,SV.val (.string sep)] [[a],[.string sep]]).toArray= #[a,.string sep]:=by simp[mkV,SV.isOne,vecP]
  rw[e]
  refine hc.mono ?_
  rintro e w' ⟨rfl,hb⟩
  exact⟨v,ρ,rfl,.of_below hb (has_val hv)⟩
 rcases hx with⟨hn,a,rfl⟩|⟨hg,b,cap,z,pre,ex,ty,fz,h1,h2,h3,h4,h5,rfl⟩
 ·refine fin _ ?_
  have hn:ss=[]:=by simpa using hn
  exact(h0 hn a w).mono fun _ _ ⟨he,hw⟩=>⟨he,hw▸RowKit.Below.refl _ _⟩
 ·refine fin _ ?_
  rw[List.length_map]at h4 ⊢
  have hh:=hp.imm b _ h1
  have hz:∀(l:List ByteArray) (z:List (List Value)),HasZ (bareR ρ.imm hg) (l.map sel) z→z.flatten=l.map .string:=by
   intro l
   induction l with
   |nil=>intro z hz;simp only[List.map_nil,HasZ]at hz;subst hz;rfl
   |cons s l ih=>
    intro z hz
    simp only[List.map_cons,HasZ,sel,HasC]at hz
    obtain⟨x,r,rfl,⟨rfl,_⟩,h⟩:=hz
    simp[ih r h]
  refine h b pre.length cap w (fun j x hj=> ?_) ?_ h4
  ·rw[cell_of_row w b _ _ ty fz hh,List.getElem?_toArray,List.getElem?_append_right (by omega),Nat.add_sub_cancel_left,hz ss z h2]
   rw[List.getElem?_append_left (by rw[List.length_map];exact(List.getElem?_eq_some_iff.1 hj).1),List.getElem?_map,hj];rfl
  ·rcases Nat.lt_or_ge b w.heap.size with h'|h'
   ·exact h'
   ·simp[Array.getElem?_eq_none h']at hh
theorem SWx_freezeM {α:Type} {E:Env} (t k:Nat) {c:Code} {K:Post'} {fr:List (Nat×SV)} {hp:List (Nat×Blk)} {ty:TypeId} {w n:Nat} {f:α→SV} {l:List α} (hW:∀b,¬E.W0 b) (hf:∀x,keyless (f x)=true) (ht:lk fr t=some (.slc k w 0 n)) (hk:find hp k=some ⟨ty,true,.seq w (l.map f)⟩)
  (hn:n=l.length) (hs:SWx E c K ((t,mvec w f l)::fr) (setB hp k ⟨ty,true,.dead⟩)):SWx E c K fr hp:=by
 refine SWx_freeze t k (xs:=l.map f) hW ht hk rfl rfl (keylessL_map hf l) (by simp;omega) ?_
 rw[cutL_all (by simp;omega)]
 exact hs
theorem fill_get {α:Type} {d e:α} {r:List α} {i n:Nat} (hi:i<n) (hn:r.length=n):(r.take i++List.replicate (n - i) d).getD i e=d:=by
 have hl:(r.take i).length=i:=by rw[List.length_take];omega
 rw[List.getD_eq_getElem?_getD,List.getElem?_append_right (by omega),hl,Nat.sub_self,List.getElem?_replicate,if_pos (by omega)];rfl
end Go.Sx
namespace Go.Proofs.YtbopchpncgdaaaaGreatDoor
open Go.Sx
set_option linter.unusedSimpArgs false
set_option linter.unusedVariables false
set_option maxRecDepth 100000
set_option maxHeartbeats 2000000
variable {M:Nat}
theorem sz_i64 {n:Int} (h0: -9223372036854775808≤n) (h1:n<9223372036854775808):sz n.natAbs≤64:=sz_le.2 (by omega)
theorem fsz_int {n:Int} {k:Nat} (h:sz n.natAbs≤k) (hk:1≤k):fsz (n:Rat)≤k:=fsz_le h hk
theorem c_fOf (ok:NatOK M) (n d:Int) (hM:fsz (n:Rat)+fsz (d:Rat)≤M) (h0: -9223372036854775808≤n) (h1:n<9223372036854775808) (h2: -9223372036854775808≤d) (h3:d<9223372036854775808) (hd:d≠0):
  CallOK Tryz.prog 94 [.val (.int .i64 n),.val (.int .i64 d)] [] (.tup [.frac ((n:Rat)/(d:Rat)),.val (.int .i64 0)]) [] []:=by
 have k1:=c_fInt n h0 h1
 have k2:=c_fInt d h2 h3
 have k3:=c_fDiv ok (n:Rat) (d:Rat) (fun h=>hd (by simpa using h)) hM
 refine callV (Z:=[]) tabOK mixedOK Tryz.func94 rfl (by kernel_rfl) rfl rfl (by kernel_rfl) rfl ?_
 intro W0 w0 ρ0 hE
 conv=>whnf
 (repeat(first|(refine g_c (by assumption) ?_;conv=>whnf)));exact Recast.refl _
end Go.Proofs.YtbopchpncgdaaaaGreatDoor
namespace Go.Proofs.YtbopchpncgdaaaaGreatDoor
open Go.Sx
set_option linter.unusedSimpArgs false
set_option linter.unusedVariables false
theorem len_sz {n:Nat} (h:sz n≤1073741824):(wInts n).length<274877906944:=by
 have:=wlen_sz (n:=n) (M:=33554432) (by omega)
 omega
theorem natBig:NatOK 1073741824 where
 big:=by decide
 cmp a b ha hb:=c_Cmp a b (by have:=len_sz ha;omega) (by have:=len_sz hb;omega)
 add a b h:=n_Add a b (by have:=len_sz (n:=a) (Nat.le_trans (sz_mono (by omega)) h);omega) (by have:=len_sz (n:=b) (Nat.le_trans (sz_mono (by omega)) h);omega)
 sub a b ha h:=n_Sub a b (by have:=len_sz ha;omega) h
 subF a b hb h:=c_SubF a b (by have:=len_sz hb;have:=len_le_of (Nat.lt_trans h (lt_of_len b));omega) (by have:=len_sz hb;omega) h
 mul a b h:=n_Mul a b (len_sz (by omega)) (len_sz (by omega))
 div a b ha hb h0:=c_Div a b (len_sz ha) (len_sz hb) h0
 divZ a:=c_DivZ a
 gcd a b ha hb:=c_Gcd a b (len_sz ha) (len_sz hb)
end Go.Proofs.YtbopchpncgdaaaaGreatDoor
namespace Go.Proofs.YtbopchpncgdaaaaGreatDoor
open Go.Sx
set_option linter.unusedSimpArgs false
set_option linter.unusedVariables false
set_option maxRecDepth 100000
set_option maxHeartbeats 4000000
theorem fs_int {n:Int} (h0: -9223372036854775808≤n) (h1:n<9223372036854775808):fs (n:Rat)≤65:=by
 have:=fsz_int (n:=n) (k:=64) (sz_i64 h0 h1) (by decide);unfold fs;omega
end Go.Proofs.YtbopchpncgdaaaaGreatDoor
namespace Go.Proofs.YtbopchpncgdaaaaGreatDoor
open Go.Sx
set_option linter.unusedSimpArgs false
set_option linter.unusedVariables false
set_option maxRecDepth 100000
set_option maxHeartbeats 4000000
def fitsF (n:Int):Int:=if n<0 then 1 else if n>2048 then 3 else 0
theorem v_fits (n:Int):CallOK Tryz.prog 125 [.val (.int .i64 n)] [] (.val (.int .i64 (fitsF n))) [] []:=by
 refine callV (Z:=[]) tabOK mixedOK Tryz.func125 rfl (by kernel_rfl) rfl rfl (by kernel_rfl) rfl ?_
 intro W0 w0 ρ0 hE
 conv=>whnf
 unfold fitsF
 by_cases h1:n<0
 ·have t1:decide (n<0)=true:=decide_eq_true h1
  rw[if_pos h1]
  (repeat(first|(refine step_w1 rfl rfl ?_;conv=>whnf)|(rw[t1];conv=>whnf)));(first|exact Recast.refl _|exact Frz.recast (Recast.refl _) rfl|(refine Frz.one rfl rfl ?_;skip)|(refine Frz.tup ?_;skip))
 ·have t1:decide (n<0)=false:=decide_eq_false h1
  rw[if_neg h1]
  by_cases h2:n>2048
  ·have t2:decide (n>2048)=true:=decide_eq_true h2
   rw[if_pos h2]
   (repeat((first|refine step_w1 rfl rfl ?_|refine step_w2 rfl rfl ?_|rw[t1]|rw[t2]);conv=>whnf));(first|exact Recast.refl _|exact Frz.recast (Recast.refl _) rfl|(refine Frz.one rfl rfl ?_;skip)|(refine Frz.tup ?_;skip))
  ·have t2:decide (n>2048)=false:=decide_eq_false h2
   rw[if_neg h2]
   (repeat(first|(refine step_w2 rfl rfl ?_;conv=>whnf)|(rw[t1];conv=>whnf)|(rw[t2];conv=>whnf)));(first|exact Recast.refl _|exact Frz.recast (Recast.refl _) rfl|(refine Frz.one rfl rfl ?_;skip)|(refine Frz.tup ?_;skip))
end Go.Proofs.YtbopchpncgdaaaaGreatDoor
namespace Go.Proofs.YtbopchpncgdaaaaGreatDoor
open Go.Sx
set_option linter.unusedSimpArgs false
set_option linter.unusedVariables false
set_option maxRecDepth 100000
set_option maxHeartbeats 4000000
theorem v_ZeroM (n:Nat) (hn:n≤2048) (K:Nat):CallOK Tryz.prog 55 [.val (.int .i64 (n:Nat))] [] (.tup [.slc K 5 0 n,.val (.int .i64 0)]) [(K,⟨53,true,.fracs (List.replicate n 0)⟩)] []:=by
 have k1:=v_fits n
 rw[fitsF,if_neg (by omega),if_neg (by omega)]at k1
 refine callK (Z:=[]) tabOK mixedOK Tryz.func55 rfl (by kernel_rfl) (args:=[.val (.int .i64 (n:Nat))]) (fk:=[]) (c:=.tup [.slc 11 5 0 n,.val (.int .i64 0)]) (new:=[(11,⟨53,true,.fracs (List.replicate n 0)⟩)]) (upd:=[]) (ShapeOK.of rfl rfl rfl rfl rfl rfl rfl rfl rfl rfl rfl) rfl (fun _=>K) NamesOK.one ?_
 intro W0 w0 ρ0 hE
 conv=>whnf
 (repeat((first|refine step_w2 rfl rfl ?_|refine And.intro (by first|decide|omega|(simp only[tl0,dlen,List.length_replicate,List.length_set,List.length_map,List.length_zipWith,List.length_take,List.length_append,List.length_cons,List.length_nil];omega)) ?_|refine g_c (by assumption) ?_|rw[Int.toNat_natCast]);conv=>whnf))
 exact⟨Recast.refl _,(fun k b hm=>by simp only[List.mem_singleton,Prod.mk.injEq]at hm;obtain⟨rfl,rfl⟩:=hm;rfl),(fun _ _ h=>by cases h)⟩
theorem q_guard:Tryz.prog.eqGuardType Tryz.prog.depth 53=false:=by kernel_rfl
theorem q_same (a b:Rat):eqTy tab good 10 53 (fracCells a) (fracCells b)=some (decide (a=b)):=by
 have e:eqTy tab good 10 53 (fracCells a) (fracCells b)=some (((((low a.num.natAbs==low b.num.natAbs)&&(((big a.num.natAbs).toList==(big b.num.natAbs).toList)&&true))&&true)&&((decide (a.num<0)==decide (b.num<0))&&true))&&
  (((low (a.den - 1)==low (b.den - 1))&&(((big (a.den - 1)).toList==(big (b.den - 1)).toList)&&true))&&true)):=rfl
 rw[e]
 simp only[Bool.and_true]
 rw[nat_eq_iff,nat_eq_iff]
 congr 1
 rw[Bool.eq_iff_iff]
 simp only[Bool.and_eq_true,decide_eq_true_eq,beq_iff_eq,decide_eq_decide]
 have h1:=a.den_pos
 have h2:=b.den_pos
 constructor
 ·rintro⟨⟨h3,h4⟩,h5⟩
  exact Rat.ext (by omega) (by omega)
 ·rintro rfl
  exact⟨⟨rfl,Iff.rfl⟩,rfl⟩
end Go.Proofs.YtbopchpncgdaaaaGreatDoor
namespace Go.Proofs.YtbopchpncgdaaaaGreatDoor
open Go.Sx
set_option linter.unusedSimpArgs false
set_option linter.unusedVariables false
set_option maxRecDepth 100000
set_option maxHeartbeats 4000000
def ofInts (l:List Int):List Rat:=l.map fun(n:Int)=>((n:Int):Rat)
theorem map_get {α β:Type} {f:α→β} {l:List α} {i:Nat} {d:α} {e:β} (h:i<l.length):(l.map f).getD i e=f (l.getD i d):=by
 simp[List.getD_eq_getElem?_getD,List.getElem?_eq_getElem h]
theorem v_Of (l:List Int) (hl:l.length<1099511627776) (h:∀i,i<l.length→ -9223372036854775808≤l.getD i 0∧l.getD i 0<9223372036854775808):CallOK Tryz.prog 71 [ivec .i64 l] [] (fvec (ofInts l)) [] []:=by
 refine callF (Z:=[]) tabOK mixedOK Tryz.func71 rfl (by kernel_rfl) (by first|rfl|(simp[keylessL,keyless,keylessL_map, *];done)) (by first|rfl|(simp[keylessL,keyless,keylessL_map, *];done)) (by kernel_rfl) rfl ?_
 intro w0 ρ0 hE
 conv=>whnf
 (repeat(first|(refine And.intro (by first|decide|omega|(simp only[tl0,dlen,List.length_replicate,List.length_set,List.length_map,List.length_zipWith,List.length_take,List.length_append,List.length_cons,List.length_nil];omega)) ?_;conv=>whnf)|(refine g_o (op_lenM rfl rfl rfl (ev_ok rfl) (tgt rfl) rfl) ?_;conv=>whnf)|(rw[Int.toNat_natCast];conv=>whnf)))
 have hz:(ofInts l).length=l.length:=by simp[ofInts]
 refine SW_loopN hE (fun k=>k) [0,2,3,9,10] [7] (fun m fr hp=>∃i,m=l.length - i∧i≤l.length∧fr=[(0,ivec .i64 l),(2,.val (.slice none 0 0)),(3,.slc 7 5 0 l.length),(9,.val (.int .i64 (l.length:Nat))),(10,.val (.int .i64 (i:Nat)))]∧
  hp=[(7,⟨53,true,.fracs ((ofInts l).take i++List.replicate (l.length - i) 0)⟩)]) l.length ?_ ?_ ?_
 ·kernel_rfl
 ·exact⟨0,rfl,Nat.zero_le _,rfl,rfl⟩
 rintro m _ _ ⟨i,rfl,hi,rfl,rfl⟩
 conv=>whnf
 have hlen:=fill_len (d:=(0:Rat)) hi hz
 by_cases hlt:i<l.length
 ·have t1:=dlt hlt
  have t2:=winc (i:=i) (by omega)
  obtain⟨b1,b2⟩:=h i hlt
  have k1:=c_fInt (l.getD i 0) b1 b2
  rw[←map_get (f:=fun(n:Int)=>((n:Int):Rat)) (e:=0) hlt]at k1
  (repeat((first|refine step_w1 rfl rfl ?_|refine And.intro (by first|decide|omega|(simp only[tl0,dlen,List.length_replicate,List.length_set,List.length_map,List.length_zipWith,List.length_take,List.length_append,List.length_cons,List.length_nil];omega)) ?_|refine g_c (by assumption) ?_|refine g_o (op_loadA rfl (ev_ok rfl) (tgt rfl) rfl (Nat.succ_ne_zero _) rfl) ?_|refine g_o (op_indexN (α:=Int) (d:=0) rfl (ev_ok rfl) (ev_ok rfl) (tgt rfl) rfl (tgt rfl) rfl (by omega)) ?_|rw[t1]|rw[t2]|rw[Int.toNat_natCast]|rw[Nat.zero_add]);conv=>whnf))
  refine⟨l.length - (i+1),fun k=>k,[0,2,3,9,10],[7],by omega,by kernel_rfl,i+1,rfl,hlt,rfl, ?_⟩
  rw[←fill_set (e:=0) hlt hz]
  rfl
 ·have t1:=dge hlt
  have hI:i=l.length:=by omega
  subst hI
  rw[fill_all hz]
  (repeat(first|(refine step_w2 rfl rfl ?_;conv=>whnf)|(rw[t1];conv=>whnf)));(first|exact Recast.refl _|exact Frz.recast (Recast.refl _) rfl|(refine Frz.one rfl rfl ?_;(repeat(first|(refine FrzC.fracs rfl ?_;(first|rfl|omega|(simp<;>fail)|(simp<;>omega))))))|(refine Frz.tup ?_;skip))
end Go.Proofs.YtbopchpncgdaaaaGreatDoor
namespace Go.Proofs
open Go.Shelf
def Tryz.lays156_ren:Go.Shelf.Ren:=⟨fun|156=>87|165=>150|166=>151|169=>152|240=>200|241=>201|276=>233|277=>234|n=>n,fun|31=>155|9=>9|3=>3|4=>4|0=>0|20=>20|72=>204|76=>208|70=>202|37=>83|75=>207|127=>259|164=>286|5=>5|80=>210|n=>n,fun|n=>n⟩
theorem Tryz.lays156:Go.Proofs.Lays.n156 Tryz.prog Tryz.lays156_ren:={
 mixed:=by kernel_rfl
 f156:=Tryz.func87.trans (congrArg some (by kernel_rfl))
 f165:=Tryz.func150.trans (congrArg some (by kernel_rfl))
 f166:=Tryz.func151.trans (congrArg some (by kernel_rfl))
 f169:=Tryz.func152.trans (congrArg some (by kernel_rfl))
 f240:=Tryz.func200.trans (congrArg some (by kernel_rfl))
 f241:=Tryz.func201.trans (congrArg some (by kernel_rfl))
 f276:=Tryz.func233.trans (congrArg some (by kernel_rfl))
 f277:=Tryz.func234.trans (congrArg some (by kernel_rfl))
 t0:=Tryz.underlying0
 a0:=Tryz.isAgg0
 z0:=Tryz.sizeOf0
 v0:=Tryz.zeroValue0
 t3:=Tryz.underlying3
 a3:=Tryz.isAgg3
 z3:=Tryz.sizeOf3
 v3:=Tryz.zeroValue3
 t4:=Tryz.underlying4
 a4:=Tryz.isAgg4
 z4:=Tryz.sizeOf4
 v4:=Tryz.zeroValue4
 t9:=Tryz.underlying9
 a9:=Tryz.isAgg9
 z9:=Tryz.sizeOf9
 v9:=Tryz.zeroValue9
 t20:=Tryz.underlying20
 a20:=Tryz.isAgg20
 z20:=Tryz.sizeOf20
 v20:=Tryz.zeroValue20
 t31:=Tryz.underlying155
 a31:=Tryz.isAgg155
 z31:=Tryz.sizeOf155
 v31:=Tryz.zeroValue155
 t37:=Tryz.underlying83
 a37:=Tryz.isAgg83
 z37:=Tryz.sizeOf83
 v37:=Tryz.zeroValue83
 t70:=Tryz.underlying202
 a70:=Tryz.isAgg202
 z70:=Tryz.sizeOf202
 v70:=Tryz.zeroValue202
 t72:=Tryz.underlying204
 a72:=Tryz.isAgg204
 z72:=Tryz.sizeOf204
 v72:=Tryz.zeroValue204
 t75:=Tryz.underlying207
 a75:=Tryz.isAgg207
 z75:=Tryz.sizeOf207
 v75:=Tryz.zeroValue207
 t76:=Tryz.underlying208
 a76:=Tryz.isAgg208
 z76:=Tryz.sizeOf208
 v76:=Tryz.zeroValue208
 t127:=Tryz.underlying259
 a127:=Tryz.isAgg259
 z127:=Tryz.sizeOf259
 v127:=Tryz.zeroValue259
 t164:=Tryz.underlying286
 a164:=Tryz.isAgg286
 z164:=Tryz.sizeOf286
 v164:=Tryz.zeroValue286}
theorem Tryz.Builder_Extra_156:Builder.Extra Tryz.prog Tryz.lays156_ren:={
 sizeBuilder:=by kernel_rfl
 liesBuilder:=by kernel_rfl
 t5:=Tryz.underlying5
 a5:=Tryz.isAgg5
 z5:=Tryz.sizeOf5
 v5:=Tryz.zeroValue5
 infoByte:=by kernel_rfl
 cellsByte:=by kernel_rfl
 sizeByte:=by kernel_rfl
 neB5:=by decide}
open Go.RowKit in
theorem Tryz.strings_Join_none (a:Option Addr) (c:Nat) (sep:ByteArray) (w:World):
  Calls Tryz.prog 87 #[.slice a 0 c,.string sep] w fun e w'=>e= .returned (.string ⟨#[]⟩)∧w'=w:=Any.strings_Join_none Tryz.lays156 Tryz.Builder_Extra_156 a c sep w
open Go.RowKit in
/-- strings.Join: "Join concatenates the elements of its first argument to create a single string. The separator string sep is placed between elements in the resulting string.": HOWEVER MANY ELEMENTS. Below the heap's end the world is as it was. (LAID: no walk: one application.) -/
theorem Tryz.strings_Join (bk o c:Nat) (xs:List ByteArray) (sep:ByteArray) (w:World) (hcells:∀(j:Nat) x,xs[j]? =some x→w.cell? ⟨bk,o+j,none⟩=some (.string x)) (hbk:bk<w.heap.size) (hN:xs.length≤140737488355328) (hcap:xs.length≤c) (hlen:(Lib.join (xs.map (·.data.toList)) sep.data.toList).length≤140737488355328):
  Calls Tryz.prog 87 #[.slice (some ⟨bk,o,none⟩) xs.length c,.string sep] w fun e w'=>e= .returned (.string ⟨(Lib.join (xs.map (·.data.toList)) sep.data.toList).toArray⟩)∧Below w.heap.size w w':=Any.strings_Join Tryz.lays156 Tryz.Builder_Extra_156 bk o c xs sep w hcells hbk hN hcap hlen
def Tryz.lays283_ren:Go.Shelf.Ren:=⟨fun|283=>246|n=>n,fun|3=>3|9=>9|4=>4|n=>n,fun|n=>n⟩
theorem Tryz.lays283:Go.Proofs.Lays.n283 Tryz.prog Tryz.lays283_ren:={
 mixed:=by kernel_rfl
 f283:=Tryz.func246.trans (congrArg some (by kernel_rfl))
 t3:=Tryz.underlying3
 a3:=Tryz.isAgg3
 z3:=Tryz.sizeOf3
 v3:=Tryz.zeroValue3
 t4:=Tryz.underlying4
 a4:=Tryz.isAgg4
 z4:=Tryz.sizeOf4
 v4:=Tryz.zeroValue4
 t9:=Tryz.underlying9
 a9:=Tryz.isAgg9
 z9:=Tryz.sizeOf9
 v9:=Tryz.zeroValue9}
open Go.Lib in
/-- internal/strconv.small: "small returns the string for an i with 0 <= i < nSmalls.": i's decimal numeral. The world is as it was. (LAID: no walk: one application.) -/
theorem Tryz.internal_strconv_small (i:Nat) (h:i<100) (w:World):
  Calls Tryz.prog 246 #[.int .i64 i] w fun e w'=>e= .returned (.string ⟨(Lib.decDigits i).toArray⟩)∧w'=w:=Any.internal_strconv_small Tryz.lays283 i h w
def Tryz.laysM284_ren:Go.Shelf.Ren:=⟨fun|284=>247|129=>254|317=>253|318=>255|n=>n,fun|53=>45|3=>3|212=>304|0=>0|4=>4|46=>226|5=>5|9=>9|n=>n,fun|17=>2|n=>n⟩
theorem Tryz.laysM284:Go.Proofs.LaysM.n284 Tryz.prog Tryz.laysM284_ren:={
 mixed:=by kernel_rfl
 f129:=Tryz.func254.trans (congrArg some (by kernel_rfl))
 f284:=Tryz.func247.trans (congrArg some (by kernel_rfl))
 f317:=Tryz.func253.trans (congrArg some (by kernel_rfl))
 f318:=Tryz.func255.trans (congrArg some (by kernel_rfl))
 t0:=Tryz.underlying0
 a0:=Tryz.isAgg0
 z0:=Tryz.sizeOf0
 v0:=Tryz.zeroValue0
 t3:=Tryz.underlying3
 a3:=Tryz.isAgg3
 z3:=Tryz.sizeOf3
 v3:=Tryz.zeroValue3
 t4:=Tryz.underlying4
 a4:=Tryz.isAgg4
 z4:=Tryz.sizeOf4
 v4:=Tryz.zeroValue4
 t5:=Tryz.underlying5
 a5:=Tryz.isAgg5
 z5:=Tryz.sizeOf5
 v5:=Tryz.zeroValue5
 t9:=Tryz.underlying9
 a9:=Tryz.isAgg9
 z9:=Tryz.sizeOf9
 v9:=Tryz.zeroValue9
 t46:=Tryz.underlying226
 a46:=Tryz.isAgg226
 z46:=Tryz.sizeOf226
 v46:=Tryz.zeroValue226
 t53:=Tryz.underlying45
 a53:=Tryz.isAgg45
 z53:=Tryz.sizeOf45
 v53:=Tryz.zeroValue45
 t212:=Tryz.underlying304
 a212:=Tryz.isAgg304
 z212:=Tryz.sizeOf304
 v212:=Tryz.zeroValue304
 g17:=by kernel_rfl
 i0:=by kernel_rfl
 i3:=by kernel_rfl
 i4:=by kernel_rfl
 i5:=by kernel_rfl
 i9:=by kernel_rfl
 i46:=by kernel_rfl
 i53:=by kernel_rfl
 i212:=by kernel_rfl
 m17:=by kernel_rfl}
open Go.Lib in
theorem Tryz.internal_strconv_numDigits (u:Nat) (h1:1≤u) (h2:u<18446744073709551616) (w:World) (htab:Lib.TabIs Tryz.prog w "internal/strconv.uint64pow10" .u64 Lib.pow10Tab):
  Calls Tryz.prog 247 #[.int .u64 u] w fun e w'=>e= .returned (.int .i64 (Lib.nDigits u))∧w'=w:=Any.internal_strconv_numDigits Tryz.laysM284 u h1 h2 w htab
def Tryz.lays285_ren:Go.Shelf.Ren:=⟨fun|285=>248|n=>n,fun|37=>83|53=>45|3=>3|4=>4|51=>87|9=>9|5=>5|0=>0|n=>n,fun|n=>n⟩
theorem Tryz.lays285:Go.Proofs.Lays.n285 Tryz.prog Tryz.lays285_ren:={
 mixed:=by kernel_rfl
 f285:=Tryz.func248.trans (congrArg some (by kernel_rfl))
 t0:=Tryz.underlying0
 a0:=Tryz.isAgg0
 z0:=Tryz.sizeOf0
 v0:=Tryz.zeroValue0
 t3:=Tryz.underlying3
 a3:=Tryz.isAgg3
 z3:=Tryz.sizeOf3
 v3:=Tryz.zeroValue3
 t4:=Tryz.underlying4
 a4:=Tryz.isAgg4
 z4:=Tryz.sizeOf4
 v4:=Tryz.zeroValue4
 t5:=Tryz.underlying5
 a5:=Tryz.isAgg5
 z5:=Tryz.sizeOf5
 v5:=Tryz.zeroValue5
 t9:=Tryz.underlying9
 a9:=Tryz.isAgg9
 z9:=Tryz.sizeOf9
 v9:=Tryz.zeroValue9
 t37:=Tryz.underlying83
 a37:=Tryz.isAgg83
 z37:=Tryz.sizeOf83
 v37:=Tryz.zeroValue83
 t51:=Tryz.underlying87
 a51:=Tryz.isAgg87
 z51:=Tryz.sizeOf87
 v51:=Tryz.zeroValue87
 t53:=Tryz.underlying45
 a53:=Tryz.isAgg45
 z53:=Tryz.sizeOf45
 v53:=Tryz.zeroValue45}
open Go.RowKit Go.Sort Go.Lib in
/-- internal/strconv.formatBase10: "formatBase10 formats the decimal representation of u into a. The caller is responsible for ensuring that a is big enough to hold u. If a is too big, leading zeros will be filled in as needed.": THE ROW HOLDS u's DIGITS ('FmtInv .. 0 ..': every place t holds 'dg u (len - 1 - t)'); all else is as it was but for the count of draws. (LAID: no walk: one application.) -/
theorem Tryz.internal_strconv_formatBase10 (blk off cap:Nat) (u:Nat) (d:Array UInt8) (w:World) (hH:Holds (fun(b:UInt8)=>Value.int .u8 (b.toNat:Int)) w blk off d) (hu:u<10^d.size) (hu64:u<18446744073709551616) (hsz:d.size<4611686018427387904):
  Calls Tryz.prog 248 #[.slice (some ⟨blk,off,none⟩) d.size cap,.int .u64 u] w fun e w'=>
   e= .returned (.tuple #[])∧∃(n v':Nat) (dk:Array UInt8),w'=(putRow (fun(b:UInt8)=>Value.int .u8 (b.toNat:Int)) w blk off dk).drewN n∧FmtInv d.size u 0 v' dk:=Any.internal_strconv_formatBase10 Tryz.lays285 blk off cap u d w hH hu hu64 hsz
def Tryz.laysM171_ren:Go.Shelf.Ren:=⟨fun|171=>204|243=>236|246=>250|283=>246|284=>247|285=>248|286=>249|129=>254|317=>253|318=>255|319=>256|320=>257|337=>258|338=>259|n=>n,fun|3=>3|9=>9|2=>2|4=>4|171=>296|0=>0|53=>45|37=>83|5=>5|173=>299|212=>304|51=>87|20=>20|213=>305|46=>226|232=>307|233=>308|n=>n,fun|17=>2|18=>3|19=>4|n=>n⟩
theorem Tryz.laysM171:Go.Proofs.LaysM.n171 Tryz.prog Tryz.laysM171_ren:={
 mixed:=by kernel_rfl
 f129:=Tryz.func254.trans (congrArg some (by kernel_rfl))
 f171:=Tryz.func204.trans (congrArg some (by kernel_rfl))
 f243:=Tryz.func236.trans (congrArg some (by kernel_rfl))
 f246:=Tryz.func250.trans (congrArg some (by kernel_rfl))
 f283:=Tryz.func246.trans (congrArg some (by kernel_rfl))
 f284:=Tryz.func247.trans (congrArg some (by kernel_rfl))
 f285:=Tryz.func248.trans (congrArg some (by kernel_rfl))
 f286:=Tryz.func249.trans (congrArg some (by kernel_rfl))
 f317:=Tryz.func253.trans (congrArg some (by kernel_rfl))
 f318:=Tryz.func255.trans (congrArg some (by kernel_rfl))
 f319:=Tryz.func256.trans (congrArg some (by kernel_rfl))
 f320:=Tryz.func257.trans (congrArg some (by kernel_rfl))
 f337:=Tryz.func258.trans (congrArg some (by kernel_rfl))
 f338:=Tryz.func259.trans (congrArg some (by kernel_rfl))
 t0:=Tryz.underlying0
 a0:=Tryz.isAgg0
 z0:=Tryz.sizeOf0
 v0:=Tryz.zeroValue0
 t2:=Tryz.underlying2
 a2:=Tryz.isAgg2
 z2:=Tryz.sizeOf2
 v2:=Tryz.zeroValue2
 t3:=Tryz.underlying3
 a3:=Tryz.isAgg3
 z3:=Tryz.sizeOf3
 v3:=Tryz.zeroValue3
 t4:=Tryz.underlying4
 a4:=Tryz.isAgg4
 z4:=Tryz.sizeOf4
 v4:=Tryz.zeroValue4
 t5:=Tryz.underlying5
 a5:=Tryz.isAgg5
 z5:=Tryz.sizeOf5
 v5:=Tryz.zeroValue5
 t9:=Tryz.underlying9
 a9:=Tryz.isAgg9
 z9:=Tryz.sizeOf9
 v9:=Tryz.zeroValue9
 t20:=Tryz.underlying20
 a20:=Tryz.isAgg20
 z20:=Tryz.sizeOf20
 v20:=Tryz.zeroValue20
 t37:=Tryz.underlying83
 a37:=Tryz.isAgg83
 z37:=Tryz.sizeOf83
 v37:=Tryz.zeroValue83
 t46:=Tryz.underlying226
 a46:=Tryz.isAgg226
 z46:=Tryz.sizeOf226
 v46:=Tryz.zeroValue226
 t51:=Tryz.underlying87
 a51:=Tryz.isAgg87
 z51:=Tryz.sizeOf87
 v51:=Tryz.zeroValue87
 t53:=Tryz.underlying45
 a53:=Tryz.isAgg45
 z53:=Tryz.sizeOf45
 v53:=Tryz.zeroValue45
 t171:=Tryz.underlying296
 a171:=Tryz.isAgg296
 z171:=Tryz.sizeOf296
 v171:=Tryz.zeroValue296
 t173:=Tryz.underlying299
 a173:=Tryz.isAgg299
 z173:=Tryz.sizeOf299
 v173:=Tryz.zeroValue299
 t212:=Tryz.underlying304
 a212:=Tryz.isAgg304
 z212:=Tryz.sizeOf304
 v212:=Tryz.zeroValue304
 t213:=Tryz.underlying305
 a213:=Tryz.isAgg305
 z213:=Tryz.sizeOf305
 t232:=Tryz.underlying307
 a232:=Tryz.isAgg307
 z232:=Tryz.sizeOf307
 v232:=Tryz.zeroValue307
 t233:=Tryz.underlying308
 a233:=Tryz.isAgg308
 z233:=Tryz.sizeOf308
 v233:=Tryz.zeroValue308
 g17:=by kernel_rfl
 g18:=by kernel_rfl
 g19:=by kernel_rfl
 i0:=by kernel_rfl
 i2:=by kernel_rfl
 i3:=by kernel_rfl
 i4:=by kernel_rfl
 i5:=by kernel_rfl
 i9:=by kernel_rfl
 i20:=by kernel_rfl
 i37:=by kernel_rfl
 i46:=by kernel_rfl
 i51:=by kernel_rfl
 i53:=by kernel_rfl
 i171:=by kernel_rfl
 i173:=by kernel_rfl
 i212:=by kernel_rfl
 i232:=by kernel_rfl
 i233:=by kernel_rfl
 m17:=by kernel_rfl
 m18:=by kernel_rfl
 m19:=by kernel_rfl}
open Go.RowKit Go.Sort Go.Lib in
/-- strconv.Itoa: "Itoa is equivalent to FormatInt(int64(i), 10).": i's DECIMAL NUMERAL ('Lib.itoa': a '-' where i is negative, then the digits), FOR EVERY int. The world behind the call: the world before it, new blocks behind the heap (the library's 'var a [24]byte'), draws. (LAID: no walk: one application.) -/
theorem Tryz.strconv_Itoa (n:Int) (h0: -9223372036854775808≤n) (h1:n≤9223372036854775807) (w:World) (htab:Lib.TabIs Tryz.prog w "internal/strconv.uint64pow10" .u64 Lib.pow10Tab):
  Calls Tryz.prog 204 #[.int .i64 n] w fun e w'=>e= .returned (.string ⟨(Lib.itoa n).toArray⟩)∧∃k os,w'=grow (w.drewN k) os:=Any.strconv_Itoa Tryz.laysM171 n h0 h1 w htab
def Tryz.lays105_ren:Go.Shelf.Ren:=⟨fun|105=>205|212=>237|99=>238|165=>150|166=>151|170=>239|169=>152|263=>251|264=>166|206=>252|240=>200|241=>201|276=>233|277=>234|n=>n,fun|9=>9|3=>3|4=>4|20=>20|0=>0|46=>226|109=>289|5=>5|72=>204|76=>208|51=>87|146=>269|53=>45|148=>223|70=>202|37=>83|75=>207|127=>259|164=>286|80=>210|n=>n,fun|n=>n⟩
theorem Tryz.lays105:Go.Proofs.Lays.n105 Tryz.prog Tryz.lays105_ren:={
 mixed:=by kernel_rfl
 f99:=Tryz.func238.trans (congrArg some (by kernel_rfl))
 f105:=Tryz.func205.trans (congrArg some (by kernel_rfl))
 f165:=Tryz.func150.trans (congrArg some (by kernel_rfl))
 f166:=Tryz.func151.trans (congrArg some (by kernel_rfl))
 f169:=Tryz.func152.trans (congrArg some (by kernel_rfl))
 f170:=Tryz.func239.trans (congrArg some (by kernel_rfl))
 f206:=Tryz.func252.trans (congrArg some (by kernel_rfl))
 f212:=Tryz.func237.trans (congrArg some (by kernel_rfl))
 f240:=Tryz.func200.trans (congrArg some (by kernel_rfl))
 f241:=Tryz.func201.trans (congrArg some (by kernel_rfl))
 f263:=Tryz.func251.trans (congrArg some (by kernel_rfl))
 f264:=Tryz.func166.trans (congrArg some (by kernel_rfl))
 f276:=Tryz.func233.trans (congrArg some (by kernel_rfl))
 f277:=Tryz.func234.trans (congrArg some (by kernel_rfl))
 t0:=Tryz.underlying0
 a0:=Tryz.isAgg0
 z0:=Tryz.sizeOf0
 v0:=Tryz.zeroValue0
 t3:=Tryz.underlying3
 a3:=Tryz.isAgg3
 z3:=Tryz.sizeOf3
 v3:=Tryz.zeroValue3
 t4:=Tryz.underlying4
 a4:=Tryz.isAgg4
 z4:=Tryz.sizeOf4
 v4:=Tryz.zeroValue4
 t5:=Tryz.underlying5
 a5:=Tryz.isAgg5
 z5:=Tryz.sizeOf5
 v5:=Tryz.zeroValue5
 t9:=Tryz.underlying9
 a9:=Tryz.isAgg9
 z9:=Tryz.sizeOf9
 v9:=Tryz.zeroValue9
 t20:=Tryz.underlying20
 a20:=Tryz.isAgg20
 z20:=Tryz.sizeOf20
 v20:=Tryz.zeroValue20
 t37:=Tryz.underlying83
 a37:=Tryz.isAgg83
 z37:=Tryz.sizeOf83
 v37:=Tryz.zeroValue83
 t46:=Tryz.underlying226
 a46:=Tryz.isAgg226
 z46:=Tryz.sizeOf226
 v46:=Tryz.zeroValue226
 t51:=Tryz.underlying87
 a51:=Tryz.isAgg87
 z51:=Tryz.sizeOf87
 v51:=Tryz.zeroValue87
 t53:=Tryz.underlying45
 a53:=Tryz.isAgg45
 z53:=Tryz.sizeOf45
 v53:=Tryz.zeroValue45
 t70:=Tryz.underlying202
 a70:=Tryz.isAgg202
 z70:=Tryz.sizeOf202
 v70:=Tryz.zeroValue202
 t72:=Tryz.underlying204
 a72:=Tryz.isAgg204
 z72:=Tryz.sizeOf204
 v72:=Tryz.zeroValue204
 t75:=Tryz.underlying207
 a75:=Tryz.isAgg207
 z75:=Tryz.sizeOf207
 v75:=Tryz.zeroValue207
 t76:=Tryz.underlying208
 a76:=Tryz.isAgg208
 z76:=Tryz.sizeOf208
 v76:=Tryz.zeroValue208
 t109:=Tryz.underlying289
 a109:=Tryz.isAgg289
 z109:=Tryz.sizeOf289
 v109:=Tryz.zeroValue289
 t127:=Tryz.underlying259
 a127:=Tryz.isAgg259
 z127:=Tryz.sizeOf259
 v127:=Tryz.zeroValue259
 t146:=Tryz.underlying269
 a146:=Tryz.isAgg269
 z146:=Tryz.sizeOf269
 v146:=Tryz.zeroValue269
 t148:=Tryz.underlying223
 a148:=Tryz.isAgg223
 z148:=Tryz.sizeOf223
 v148:=Tryz.zeroValue223
 t164:=Tryz.underlying286
 a164:=Tryz.isAgg286
 z164:=Tryz.sizeOf286
 v164:=Tryz.zeroValue286}
theorem Tryz.Builder_Extra_105:Builder.Extra Tryz.prog Tryz.lays105_ren:={
 sizeBuilder:=by kernel_rfl
 liesBuilder:=by kernel_rfl
 t5:=Tryz.underlying5
 a5:=Tryz.isAgg5
 z5:=Tryz.sizeOf5
 v5:=Tryz.zeroValue5
 infoByte:=by kernel_rfl
 cellsByte:=by kernel_rfl
 sizeByte:=by kernel_rfl
 neB5:=by decide}
open Go.RowKit Go.Lib in
theorem Tryz.strings_Repeat (s:ByteArray) (c:Nat) (w:World) (hc:c≤9223372036854775807) (hlen:s.size*c≤140737488355328):
  Calls Tryz.prog 205 #[.string s,.int .i64 c] w fun e w'=>e= .returned (.string ⟨(Lib.repeatL s.data.toList c).toArray⟩)∧Below w.heap.size w w':=Any.strings_Repeat Tryz.lays105 Tryz.Builder_Extra_105 s c w hc hlen
end Go.Proofs
namespace Go.Proofs.YtbopchpncgdaaaaGreatDoor
open Go.Sx
set_option linter.unusedSimpArgs false
set_option linter.unusedVariables false
set_option maxRecDepth 100000
set_option maxHeartbeats 4000000
def decF:Nat→Nat→List UInt8
 |0,_=>[]
 |f+1,n=>if n<10 then[UInt8.ofNat (48+n)]else decF f (n/10)++[UInt8.ofNat (48+n % 10)]
theorem decF_eq:∀f n,n<f→decF f n=Lib.decDigits n
 |0,n,h=>by omega
 |f+1,n,h=>by
  rw[decF,Lib.decDigits]
  by_cases h1:n<10
  ·rw[if_pos h1,dif_pos h1]
  ·rw[if_neg h1,dif_neg h1,decF_eq f (n/10) (by omega)]
def tN (n:Nat):ByteArray:=⟨(decF (n+1) n).toArray⟩
theorem tN_eq (n:Nat):tN n=⟨(Lib.decDigits n).toArray⟩:=by rw[tN,decF_eq _ _ (Nat.lt_succ_self n)]
def tZ (z:Int):ByteArray:=if z<0 then "-".toUTF8++tN z.natAbs else tN z.natAbs
def tQ (q:Rat):ByteArray:=if q.den=1 then tZ q.num else tZ q.num++ "/".toUTF8++tN q.den
theorem t_small (i:Nat) (h:i<100):CallOK Tryz.prog 246 [.val (.int .i64 (i:Nat))] [] (.val (.string (tN i))) [] []:=
 call_vals' (vs:=[.int .i64 (i:Nat)]) ⟨Tryz.f246,Tryz.func246,rfl,by kernel_rfl⟩ rfl (fun w=>by rw[tN_eq];exact Tryz.internal_strconv_small i h w)
theorem t_iFormat (n:Nat) (h:n<100):CallOK Tryz.prog 235 [.val (.int .u64 (n:Nat)),.val (.int .i64 10)] [] (.val (.string (tN n))) [] []:=by
 have k1:=t_small n h
 have t1:decide ((n:Int)<100)=true:=decide_eq_true (by omega)
 have t2:IntKind.i64.wrap (n:Int)=n:=wrap_i64 (by omega) (by omega)
 refine callV (Z:=[]) tabOK mixedOK Tryz.func235 rfl (by kernel_rfl) rfl rfl (by kernel_rfl) rfl ?_
 intro W0 w0 ρ0 hE
 conv=>whnf
 (repeat((first|refine step_w1 rfl rfl ?_|refine g_c (by assumption) ?_|rw[beq_self_eq_true]|rw[t1]|rw[t2]);conv=>whnf));(first|exact Recast.refl _|exact Frz.recast (Recast.refl _) rfl|(refine Frz.one rfl rfl ?_;skip)|(refine Frz.tup ?_;skip))
theorem t_Format (n:Nat) (h:n<100):CallOK Tryz.prog 202 [.val (.int .u64 (n:Nat)),.val (.int .i64 10)] [] (.val (.string (tN n))) [] []:=by
 have k1:=t_iFormat n h
 refine callV (Z:=[]) tabOK mixedOK Tryz.func202 rfl (by kernel_rfl) rfl rfl (by kernel_rfl) rfl ?_
 intro W0 w0 ρ0 hE
 conv=>whnf
 (repeat(first|(refine g_c (by assumption) ?_;conv=>whnf)));(first|exact Recast.refl _|exact Frz.recast (Recast.refl _) rfl|(refine Frz.one rfl rfl ?_;skip)|(refine Frz.tup ?_;skip))
def tV (a:List Rat):ByteArray:= "[".toUTF8++⟨(Lib.join ((a.map tQ).map (·.data.toList)) [32]).toArray⟩++ "]".toUTF8
theorem t_Join (ss:List ByteArray) (hN:ss.length≤1099511627776) (hlen:(Lib.join (ss.map (·.data.toList)) [32]).length≤140737488355328):
  CallOK Tryz.prog 87 [mvec 1 sel ss,.val (.string ⟨#[32]⟩)] [] (.val (.string ⟨(Lib.join (ss.map (·.data.toList)) [32]).toArray⟩)) [] []:=by
 refine call_strs ⟨Tryz.f87,Tryz.func87,rfl,by kernel_rfl⟩ rfl ?_ ?_
 ·rintro rfl a w
  exact Tryz.strings_Join_none a 0 ⟨#[32]⟩ w
 ·intro bk o c w hc hb hcap
  exact Tryz.strings_Join bk o c ss ⟨#[32]⟩ w hc hb (by omega) hcap hlen
end Go.Proofs.YtbopchpncgdaaaaGreatDoor
namespace Go.Proofs.YtbopchpncgdaaaaGreatDoor
open Go.Sx
set_option linter.unusedSimpArgs false
set_option linter.unusedVariables false
set_option maxRecDepth 100000
set_option maxHeartbeats 4000000
abbrev qA:Int×Int→SV:=ag2 (iel .i64) (iel .u32)
def qV (q:Int×Int):Rat:=(q.1:Rat)/((if q.2<1 then 1 else q.2:Int):Rat)
def qOK (q:Int×Int):Prop:=(-9223372036854775808≤q.1∧q.1<9223372036854775808)∧(0≤q.2∧q.2<4294967296)
theorem c_QOf (q:Int×Int) (h:qOK q):CallOK Tryz.prog 37 [qA q] [] (.frac (qV q)) [] []:=by
 have hd:(if q.2<1 then 1 else q.2)≠0:=by have:=h.2;split<;>omega
 have e1:(if (1:Int)>q.2 then 1 else q.2)=(if q.2<1 then 1 else q.2):=rfl
 have e2:IntKind.i64.wrap (if (1:Int)>q.2 then 1 else q.2)=(if q.2<1 then 1 else q.2):=wrap_i64 (by have:=h.2;split<;>omega) (by have:=h.2;split<;>omega)
 have g2:=fs_int h.1.1 h.1.2
 have g3:fs ((if q.2<1 then 1 else q.2:Int):Rat)≤65:=fs_int (by have:=h.2;split<;>omega) (by have:=h.2;split<;>omega)
 have k1:=c_fOf natBig q.1 (if q.2<1 then 1 else q.2) (by unfold fs at g2 g3;omega) h.1.1 h.1.2 (by have:=h.2;split<;>omega) (by have:=h.2;split<;>omega) hd
 refine callV (Z:=[]) tabOK mixedOK Tryz.func37 rfl (by kernel_rfl) rfl rfl (by kernel_rfl) rfl ?_
 intro W0 w0 ρ0 hE
 conv=>whnf
 (repeat(first|(refine g_c (by assumption) ?_;conv=>whnf)|(rw[e2];conv=>whnf)));(first|exact Recast.refl _|exact Frz.recast (Recast.refl _) rfl|(refine Frz.one rfl rfl ?_;skip)|(refine Frz.tup ?_;skip))
end Go.Proofs.YtbopchpncgdaaaaGreatDoor
namespace Go.Proofs.YtbopchpncgdaaaaGreatDoor
open Go.Sx
set_option linter.unusedSimpArgs false
set_option linter.unusedVariables false
section
open Go.Shelf Go.RowKit Go.Sort Go.Lib
set_option maxHeartbeats 6400000 in
set_option maxRecDepth 100000 in
theorem fmt_big (u:Nat) (hu:100≤u) (hu64:u<18446744073709551616) (w:World) (htab:Lib.TabIs Tryz.prog w "internal/strconv.uint64pow10" .u64 Lib.pow10Tab):
  Calls Tryz.prog 235 #[.int .u64 u,.int .i64 10] w fun e w'=>e= .returned (.string ⟨(Lib.decDigits u).toArray⟩)∧∃k os,w'=grow (w.drewN k) os:=by
 have mixed:Tryz.prog.follows .mixedOrders=true:=by kernel_rfl
 have t3:=Tryz.underlying3;have a3:=Tryz.isAgg3;have z3:=Tryz.sizeOf3;have v3:=Tryz.zeroValue3
 have t9:=Tryz.underlying9;have a9:=Tryz.isAgg9;have z9:=Tryz.sizeOf9;have v9:=Tryz.zeroValue9
 have t4:=Tryz.underlying4;have a4:=Tryz.isAgg4;have z4:=Tryz.sizeOf4;have v4:=Tryz.zeroValue4
 have t53:=Tryz.underlying45;have a53:=Tryz.isAgg45;have z53:=Tryz.sizeOf45;have v53:=Tryz.zeroValue45
 have t5:=Tryz.underlying5;have a5:=Tryz.isAgg5;have z5:=Tryz.sizeOf5;have v5:=Tryz.zeroValue5
 have t37:=Tryz.underlying83;have a37:=Tryz.isAgg83;have z37:=Tryz.sizeOf83;have v37:=Tryz.zeroValue83
 have t171:=Tryz.underlying296;have a171:=Tryz.isAgg296;have z171:=Tryz.sizeOf296;have v171:=Tryz.zeroValue296
 have t0:=Tryz.underlying0;have a0:=Tryz.isAgg0;have z0:=Tryz.sizeOf0;have v0:=Tryz.zeroValue0
 have e284:∀args w,(callFunc 247 args).run Tryz.prog w= .ok (.enter 247 args) w:=enters_of Tryz.func247 (by kernel_rfl) rfl
 have e285:∀args w,(callFunc 248 args).run Tryz.prog w= .ok (.enter 248 args) w:=enters_of Tryz.func248 (by kernel_rfl) rfl
 have hu1:1≤u:=by omega
 have hnd20:Lib.nDigits u≤20:=by have:=Lib.numDigits_eq u hu1 hu64;split at this<;>omega
 have hal:Tryz.prog.arrayLen 296=24:=by simp[Program.arrayLen,t171]
 have hsl:∀W,(Instr.sliceAt 296 (.pointer (some ⟨w.heap.size,0,none⟩)) none (some (.int .i64 (Lib.nDigits u:Int))) none).run Tryz.prog W= .ok (.slice (some ⟨w.heap.size,0,none⟩) (Lib.nDigits u) 24) W:=fun W=>by
  rw[run_sliceAt_array_h W 296 ⟨w.heap.size,0,none⟩ (by simp[Program.arrayLen,Program.elem,t171]) .i64 (Lib.nDigits u:Int) (by omega) (by rw[hal];omega)]
  go_simp
 have hH0:=Lib.holds_zero0 w 296 (Lib.nDigits u) (by omega)
 have hfmt:=Tryz.internal_strconv_formatBase10 w.heap.size 0 24 u (Array.replicate (Lib.nDigits u) 0) (w.alloc (.cells Lib.zeros24 296)) hH0 (by rw[Array.size_replicate];exact Lib.lt_pow_nDigits u) hu64 (by rw[Array.size_replicate];omega)
 rw[Array.size_replicate]at hfmt
 have HH0:=Lib.hid hH0
 have iu:¬(u:Int)<100:=by omega
 clear hH0 hal
 go_enter Tryz.func235,Tryz.ntmps235
 go_wp2_with (first
  |(go_at_fn 247;refine(Tryz.internal_strconv_numDigits u hu1 hu64 _ (Lib.tabIs_alloc htab _)).mono ?_;rintro e w' ⟨rfl,rfl⟩))
 go_at_fn 248
 refine hfmt.mono ?_
 rintro e w' ⟨rfl,k,v',dk,rfl,hF⟩
 have hcv:(convert 83 9 (.slice (some ⟨w.heap.size,0,none⟩) (Lib.nDigits u) 24)).run Tryz.prog ((putRow (fun(b:UInt8)=>Value.int .u8 (b.toNat:Int)) (w.alloc (.cells Lib.zeros24 296)) w.heap.size 0 dk).drewN k)= .ok (.string ⟨(Lib.decDigits u).toArray⟩) ((putRow (fun(b:UInt8)=>Value.int .u8 (b.toNat:Int)) (w.alloc (.cells Lib.zeros24 296)) w.heap.size 0 dk).drewN k):=by
  have h:=run_convert_bytes_back (P:=Tryz.prog) ((putRow (fun(b:UInt8)=>Value.int .u8 (b.toNat:Int)) (w.alloc (.cells Lib.zeros24 296)) w.heap.size 0 dk).drewN k) 83 9 5 ⟨w.heap.size,0,none⟩ 24 (Lib.decDigits u) t37 t5 t9 (fun j hj=>by
   rw[Lib.row_is_numeral hF j hj,Lib.add_plain,World.cell?_drewN]
   exact cell?_putRow (fun(b:UInt8)=>Value.int .u8 (b.toNat:Int)) _ w.heap.size 0 _ dk HH0.out (by rw[hF.size,Array.size_replicate]) j (by rw[hF.size];rw[Lib.decDigits_length]at hj;exact hj))
  rw[Lib.decDigits_length]at h
  exact h
 go_wp2
 go_ret
 obtain⟨os,eo⟩:=Lib.fin_at w (.cells Lib.zeros24 296) dk k 0
 exact⟨rfl,k,os,eo⟩
end
end Go.Proofs.YtbopchpncgdaaaaGreatDoor
namespace Go.Proofs.YtbopchpncgdaaaaGreatDoor
open Go.Sx
set_option linter.unusedSimpArgs false
set_option linter.unusedVariables false
set_option maxRecDepth 100000
set_option maxHeartbeats 4000000
def padF:Nat→Nat→List UInt8
 |0,_=>[]
 |k+1,r=>padF k (r/10)++[UInt8.ofNat (48+r % 10)]
theorem dec_big {n:Nat} (h:10≤n):Lib.decDigits n=Lib.decDigits (n/10)++[UInt8.ofNat (48+n % 10)]:=by rw[Lib.decDigits,dif_neg (by omega)]
theorem dec_lt {n:Nat} (h:n<10):Lib.decDigits n=[UInt8.ofNat (48+n)]:=by rw[Lib.decDigits,dif_pos h]
theorem dec_split:∀k q r,0<q→r<10^k→Lib.decDigits (q*10^k+r)=Lib.decDigits q++padF k r
 |0,q,r,hq,hr=>by
  obtain rfl:r=0:=by simp at hr;exact hr
  simp[padF]
 |k+1,q,r,hq,hr=>by
  have hp:0<10^k:=Nat.pow_pos (by decide)
  have e:q*10^(k+1)=10*(q*10^k):=by rw[Nat.pow_succ,←Nat.mul_assoc,Nat.mul_comm]
  have hqp:0<q*10^k:=Nat.mul_pos hq hp
  rw[Nat.pow_succ]at hr
  rw[dec_big (by omega),show(q*10^(k+1)+r)/10=q*10^k+r/10 by omega,show(q*10^(k+1)+r) % 10=r % 10 by omega,dec_split k q (r/10) hq (by omega),padF,List.append_assoc]
theorem pad_zero:∀k,padF k 0=List.replicate k 48
 |0=>rfl
 |k+1=>by rw[padF,Nat.zero_div,pad_zero k,List.replicate_succ'];rfl
theorem pad_dec:∀k r,r<10^k→0<k→padF k r=List.replicate (k - (Lib.decDigits r).length) 48++Lib.decDigits r∧(Lib.decDigits r).length≤k
 |0,r,h,h0=>by omega
 |k+1,r,h,_=>by
  by_cases h1:r<10
  ·rw[padF,show r/10=0 by omega,pad_zero,dec_lt h1,show r % 10=r by omega]
   exact⟨rfl,by simp⟩
  ·have hk:0<k:=by rcases Nat.eq_zero_or_pos k with g|g
                   ·subst g;simp at h;omega
                   ·exact g
   rw[Nat.pow_succ]at h
   obtain⟨h2,h3⟩:=pad_dec k (r/10) (by omega) hk
   have e:=dec_big (n:=r) (by omega)
   rw[padF,h2,e,List.length_append,List.append_assoc,List.length_singleton]
   exact⟨by rw[show k+1 - ((Lib.decDigits (r/10)).length+1)=k - (Lib.decDigits (r/10)).length by omega],by omega⟩
theorem pow_tab {ρ:Rho} {w:World} (h:∀b o,ρ.imm b=some o→w.heap[b]? =some o):Lib.TabIs Tryz.prog w "internal/strconv.uint64pow10" .u64 Lib.pow10Tab:=by
 obtain⟨o,h1,_,ty,fz,rfl⟩:=ρ.glob 2 .u64 Lib.pow10Tab (by decide+kernel)
 exact tab_is (g:=2) (by kernel_rfl) (h _ _ h1)
theorem call_valsT {f:FuncId} {vs:List Value} {v:Value} (hf:FnOK Tryz.prog f) (hv:v.oneCell'=true) (h:∀w:World,Lib.TabIs Tryz.prog w "internal/strconv.uint64pow10" .u64 Lib.pow10Tab→Calls Tryz.prog f vs.toArray w fun e w'=>e= .returned v∧RowKit.Below w.heap.size w w'):CallOK Tryz.prog f (vs.map .val) [] (.val v) [] []:=by
 refine .inl ⟨hf,fun ρ w z hz hp=> ?_⟩
 rw[zip_vals hz]
 refine(h w (pow_tab hp.imm)).mono ?_
 rintro e w' ⟨rfl,hb⟩
 exact⟨v,ρ,rfl,.of_below hb (has_val hv)⟩
theorem t_iFmtB (n:Nat) (h1:100≤n) (h2:n<18446744073709551616):CallOK Tryz.prog 235 [.val (.int .u64 (n:Nat)),.val (.int .i64 10)] [] (.val (.string (tN n))) [] []:=
 call_valsT (vs:=[.int .u64 (n:Nat),.int .i64 10]) ⟨Tryz.f235,Tryz.func235,rfl,by kernel_rfl⟩ rfl fun w ht=>by
  rw[tN_eq]
  refine(fmt_big n h1 h2 w ht).mono ?_
  rintro e w' ⟨rfl,k,os,rfl⟩
  exact⟨rfl,Lib.below_grow w.heap.size w (Nat.le_refl _) k os⟩
theorem t_FormatG (n:Nat) (h:n<18446744073709551616):CallOK Tryz.prog 202 [.val (.int .u64 (n:Nat)),.val (.int .i64 10)] [] (.val (.string (tN n))) [] []:=by
 by_cases hs:n<100
 ·exact t_Format n hs
 ·have k1:=t_iFmtB n (by omega) h
  refine callV (Z:=[]) tabOK mixedOK Tryz.func202 rfl (by kernel_rfl) rfl rfl (by kernel_rfl) rfl ?_
  intro W0 w0 ρ0 hE
  conv=>whnf
  (repeat(first|(refine g_c (by assumption) ?_;conv=>whnf)));(first|exact Recast.refl _|exact Frz.recast (Recast.refl _) rfl|(refine Frz.one rfl rfl ?_;skip)|(refine Frz.tup ?_;skip))
theorem t_Itoa (n:Nat) (h:n<9223372036854775808):CallOK Tryz.prog 204 [.val (.int .i64 (n:Nat))] [] (.val (.string (tN n))) [] []:=
 call_valsT (vs:=[.int .i64 (n:Nat)]) ⟨Tryz.f204,Tryz.func204,rfl,by kernel_rfl⟩ rfl fun w ht=>by
  rw[tN_eq]
  refine(Tryz.strconv_Itoa n (by omega) (by omega) w ht).mono ?_
  rintro e w' ⟨rfl,k,os,rfl⟩
  refine⟨?_,Lib.below_grow w.heap.size w (Nat.le_refl _) k os⟩
  rw[Lib.itoa_nonneg]
theorem t_Repeat (c:Nat) (hc:c≤100):CallOK Tryz.prog 205 [.val (.string ⟨#[48]⟩),.val (.int .i64 (c:Nat))] [] (.val (.string ⟨(List.replicate c 48).toArray⟩)) [] []:=
 call_vals (vs:=[.string ⟨#[48]⟩,.int .i64 (c:Nat)]) ⟨Tryz.f205,Tryz.func205,rfl,by kernel_rfl⟩ rfl fun w=>by
  have e:∀c,Lib.repeatL [48] c=List.replicate c 48:=fun c=>by
   induction c with
   |zero=>rfl
   |succ c ih=>show[48]++Lib.repeatL [48] c=_;rw[ih,List.replicate_succ,List.singleton_append]
  refine(Tryz.strings_Repeat ⟨#[48]⟩ c w (by omega) (by show 1*c≤_;omega)).mono ?_
  rintro e' w' ⟨rfl,hb⟩
  exact⟨by rw[show(⟨#[48]⟩:ByteArray).data.toList=[48]from rfl,e],hb⟩
abbrev sblk (ss:List ByteArray):Blk:=⟨9,true,.seq 1 (ss.map sel)⟩
theorem str_ext {a b:List ByteArray} {n:Nat} (ha:a.length=n) (hb:b.length=n) (h:∀i,i<n→a.getD i .empty=b.getD i .empty):a=b:=by
 refine List.ext_getElem (ha.trans hb.symm) fun i h1 h2=> ?_
 have:=h i (by omega)
 rwa [List.getD_eq_getElem?_getD,List.getD_eq_getElem?_getD,List.getElem?_eq_getElem h1,List.getElem?_eq_getElem h2]at this
theorem str_set {l:List ByteArray} {i j:Nat} {v:ByteArray} (hi:i<l.length):(l.set i v).getD j .empty=if i=j then v else l.getD j .empty:=by
 simp only[List.getD_eq_getElem?_getD,List.getElem?_set]
 by_cases h:i=j
 ·subst h;simp[hi]
 ·simp[h]
theorem str_rev {l:List ByteArray} {n k:Nat} (hl:l.length=n) (hk:k<n):l.reverse.getD k .empty=l.getD (n - 1 - k) .empty:=by
 simp only[List.getD_eq_getElem?_getD]
 rw[List.getElem?_reverse (by omega),hl]
theorem t_Reverse (ss:List ByteArray) (n:Nat) (hn:ss.length=n) (hl:n<1099511627776) (K:Nat):CallOK Tryz.prog 206 [.slc K 1 0 n] [(K,sblk ss)] (.tup []) [] [(K,sblk ss.reverse)]:=by
 have e0:IntKind.i64.wrap ((n:Int) - 1)=(n:Int) - 1:=wrap_i64 (by omega) (by omega)
 refine callK (Z:=[]) tabOK mixedOK Tryz.func206 rfl (by kernel_rfl) (args:=[.slc 1001 1 0 n]) (fk:=[(1001,sblk ss)]) (c:=.tup []) (new:=[]) (upd:=[(1001,sblk ss.reverse)]) (ShapeOK.of rfl rfl rfl rfl rfl rfl rfl rfl rfl rfl rfl) rfl (fun _=>K) NamesOK.upd ?_
 intro W0 w0 ρ0 hE
 conv=>whnf
 (repeat(first|(rw[e0];conv=>whnf)))
 refine SW_loopN hE (fun k=>k) [0,2,3] [1001] (fun q fr hp=>∃(i:Nat) (ys:List ByteArray),q=n - i∧(2*i≤n)∧ys.length=n∧(∀k,k<n→ys.getD k .empty=if k<i∨n - i≤k then ss.getD (n - 1 - k) .empty else ss.getD k .empty)∧
  fr=[(0,.slc 1001 1 0 n),(2,.val (.int .i64 (i:Nat))),(3,.val (.int .i64 ((n:Int) - 1 - i)))]∧hp=[(1001,sblk ys)]) n ?_ ?_ ?_
 ·kernel_rfl
 ·exact⟨0,ss,rfl,by omega,hn,(fun k hk=>by rw[if_neg (by omega)]),by rw[show(n:Int) - 1 - ((0:Nat):Int)=(n:Int) - 1 by omega];rfl,rfl⟩
 rintro q _ _ ⟨i,ys,rfl,hi,hy,hv,rfl,rfl⟩
 conv=>whnf
 by_cases hgo:i+i+1<n
 ·obtain⟨j,hj⟩:∃j,j=n - 1 - i:=⟨_,rfl⟩
  have ej:(n:Int) - 1 - i=(j:Int):=by omega
  rw[ej]
  have t1:decide ((i:Int)<(j:Int))=true:=decide_eq_true (by omega)
  have e1:=winc (i:=i) (by omega)
  have e2:IntKind.i64.wrap ((j:Int) - 1)=(n:Int) - 1 - ((i+1:Nat):Int):=by rw[wrap_i64 (by omega) (by omega)];omega
  have g1:(ys.map sel).getD i .any= .val (.string (ys.getD i .empty)):=by rw[map_get (d:=ByteArray.empty) (by omega)];rfl
  have g2:(ys.map sel).getD j .any= .val (.string (ys.getD j .empty)):=by rw[map_get (d:=ByteArray.empty) (by omega)];rfl
  have g3:((ys.map sel).set i (.val (.string (ys.getD j .empty)))).getD j .any= .val (.string (ys.getD j .empty)):=by rw[←g2,List.getD_eq_getElem?_getD,List.getElem?_set_ne (by omega),←List.getD_eq_getElem?_getD]
  have hlm:(ys.map sel).length=n:=by rw[List.length_map];exact hy
  have hset:(((ys.set i (ys.getD j .empty)).set j (ys.getD i .empty)).map sel)=((ys.map sel).set i (.val (.string (ys.getD j .empty)))).set j (.val (.string (ys.getD i .empty))):=by rw[List.map_set,List.map_set];rfl
  have hnew:∀k,k<n→((ys.set i (ys.getD j .empty)).set j (ys.getD i .empty)).getD k .empty=if k<i+1∨n - (i+1)≤k then ss.getD (n - 1 - k) .empty else ss.getD k .empty:=by
   intro k hk
   rw[str_set (by rw[List.length_set];omega),str_set (by omega)]
   by_cases h1:j=k
   ·rw[if_pos h1,if_pos (by omega),hv i (by omega),if_neg (by omega),show n - 1 - k=i by omega]
   ·rw[if_neg h1]
    by_cases h2:i=k
    ·rw[if_pos h2,if_pos (by omega),hv j (by omega),if_neg (by omega),show n - 1 - k=j by omega]
    ·rw[if_neg h2,hv k hk]
     by_cases h3:k<i∨n - i≤k
     ·rw[if_pos h3,if_pos (by omega)]
     ·rw[if_neg h3,if_neg (by omega)]
  (repeat((first|refine step_w1 rfl rfl ?_|refine step_i (by kernel_rfl) ?_|refine And.intro (by first|decide|omega|(simp only[tl0,dlen,List.length_replicate,List.length_set,List.length_map,List.length_zipWith,List.length_take,List.length_append,List.length_cons,List.length_nil];omega)) ?_|rw[t1]|rw[show 0+(i:Int).toNat=i from by omega]|rw[show 0+(j:Int).toNat=j from by omega]|rw[g1]|rw[g2]|rw[g3]|rw[e1]|rw[e2]);conv=>whnf))
  refine⟨n - (i+1),fun k=>k,[0,2,3],[1001],by omega,by kernel_rfl,i+1,_,rfl,by omega, ?_,hnew,rfl, ?_⟩
  ·rw[List.length_set,List.length_set];exact hy
  ·rw[sblk,hset];rfl
 ·have t1:decide ((i:Int)<(n:Int) - 1 - i)=false:=decide_eq_false (by omega)
  have e:ys=ss.reverse:=str_ext hy (by rw[List.length_reverse];exact hn) fun k hk=>by
   rw[hv k hk,str_rev hn hk]
   split
   ·rfl
   ·rw[show n - 1 - k=k by omega]
  rw[e]
  (repeat(first|(refine step_w2 rfl rfl ?_;conv=>whnf)|(rw[t1];conv=>whnf)))
  exact⟨Recast.refl _,(fun _ _ h=>by cases h),fun k b hm=>by simp only[List.mem_singleton,Prod.mk.injEq]at hm;obtain⟨rfl,rfl⟩:=hm;rfl⟩
theorem call_strsM {P:Program} {f:FuncId} {ss:List ByteArray} {n:Nat} {sep:ByteArray} {v:Value} {ty:TypeId} (hn:ss.length=n) (hf:FnOK P f) (hv:v.oneCell'=true)
  (h0:ss=[]→∀(a:Option Addr) (w:World),Calls P f #[.slice a 0 0,.string sep] w fun e w'=>e= .returned v∧w'=w)
  (h:∀(bk o c:Nat) (w:World),(∀(j:Nat) x,ss[j]? =some x→w.cell? ⟨bk,o+j,none⟩=some (.string x))→bk<w.heap.size→ss.length≤c→Calls P f #[.slice (some ⟨bk,o,none⟩) ss.length c,.string sep] w fun e w'=>e= .returned v∧RowKit.Below w.heap.size w w') (K:Nat):
  CallOK P f [.slc K 1 0 n,.val (.string sep)] [(K,⟨ty,true,.seq 1 (ss.map sel)⟩)] (.val v) [] []:=by
 subst hn
 refine .inl ⟨hf,fun ρ w z hz hp=> ?_⟩
 simp only[HasZ]at hz
 obtain⟨x,_,rfl,hx,y,_,rfl,hy,rfl⟩:=hz
 simp only[HasC]at hy
 obtain⟨rfl,_⟩:=hy
 have fin:∀(a:Value),(Calls P f #[a,.string sep] w fun e w'=>e= .returned v∧RowKit.Below w.heap.size w w')→Calls P f (List.zipWith mkV [.slc K 1 0 ss.length,SV.val (.string sep)] [[a],[.string sep]]).toArray w fun e w'=>∃v' ρ',e= .returned v'∧Post ρ w (.val v) [] [] v' ρ' w':=fun a hc=>by
  have e:(List.zipWith mkV [.slc K 1 0 ss.length,SV.val (.string sep)] [[a],[.string sep]]).toArray= #[a,.string sep]:=by simp[mkV,SV.isOne]
  rw[e]
  refine hc.mono ?_
  rintro e w' ⟨rfl,hb⟩
  exact⟨v,ρ,rfl,.of_below hb (has_val hv)⟩
 obtain⟨z,hz,hcase⟩:=blk_rows (hp.hfk K _ (List.mem_cons_self ..)) rfl rfl
 simp only[HasC]at hx
 rcases hx with⟨b,t,cap,e1,e2,e3,rfl⟩|⟨hn,a,rfl⟩
 ·rcases hcase with⟨b',t',ex,h1,h2,h3,h4⟩|⟨h1,_⟩
  ·rw[e1]at h1
   cases h1
   have hzf:∀(l:List ByteArray) (z:List (List Value)),HasZ (bareR ρ.imm ρ.glob) (l.map sel) z→z.flatten=l.map .string:=by
    intro l
    induction l with
    |nil=>intro z hz;simp only[List.map_nil,HasZ]at hz;subst hz;rfl
    |cons s l ih=>
     intro z hz
     simp only[List.map_cons,HasZ,sel,HasC]at hz
     obtain⟨x,r,rfl,⟨rfl,_⟩,h⟩:=hz
     simp[ih r h]
   refine fin _ ((h b 0 cap w (fun j x hj=> ?_) ?_ e2))
   ·rw[cell_of_row w b _ _ _ _ h2,List.getElem?_toArray,hzf ss z hz.2.1,Nat.zero_add]
    rw[List.getElem?_append_left (by rw[List.length_map];exact(List.getElem?_eq_some_iff.1 hj).1),List.getElem?_map,hj];rfl
   ·rcases Nat.lt_or_ge b w.heap.size with h'|h'
    ·exact h'
    ·simp[Array.getElem?_eq_none h']at h2
  ·rw[e1]at h1;cases h1
 ·refine fin _ ?_
  have hn:ss=[]:=List.length_eq_zero_iff.1 hn
  subst hn
  exact(h0 rfl a w).mono fun _ _ ⟨he,hw⟩=>⟨he,hw▸RowKit.Below.refl _ _⟩
theorem t_JoinM (ss:List ByteArray) (n:Nat) (hn:ss.length=n) (sep:ByteArray) (hN:ss.length≤1099511627776) (hlen:(Lib.join (ss.map (·.data.toList)) sep.data.toList).length≤140737488355328) (K:Nat):
  CallOK Tryz.prog 87 [.slc K 1 0 n,.val (.string sep)] [(K,sblk ss)] (.val (.string ⟨(Lib.join (ss.map (·.data.toList)) sep.data.toList).toArray⟩)) [] []:=by
 refine call_strsM hn ⟨Tryz.f87,Tryz.func87,rfl,by kernel_rfl⟩ rfl ?_ ?_ K
 ·rintro rfl a w
  exact Tryz.strings_Join_none a 0 sep w
 ·intro bk o c w hc hb hcap
  exact Tryz.strings_Join bk o c ss sep w hc hb (by omega) hcap hlen
end Go.Proofs.YtbopchpncgdaaaaGreatDoor
namespace Go.Proofs.YtbopchpncgdaaaaGreatDoor
open Go.Sx
set_option linter.unusedSimpArgs false
set_option linter.unusedVariables false
set_option maxRecDepth 100000
set_option maxHeartbeats 4000000
theorem dec_len:∀k n,n<2^k→(Lib.decDigits n).length≤k+1
 |0,n,h=>by
  obtain rfl:n=0:=by simp at h;exact h
  rw[dec_lt (by decide)];simp
 |k+1,n,h=>by
  by_cases h1:n<10
  ·rw[dec_lt h1];simp
  ·rw[dec_big (by omega),List.length_append,List.length_singleton]
   have:=dec_len k (n/10) (by rw[Nat.pow_succ]at h;omega)
   omega
def cat (ss:List ByteArray):List UInt8:=(ss.map (·.data.toList)).flatten
theorem join_empty (l:List (List UInt8)):Lib.join l []=l.flatten:=by
 cases l with
 |nil=>rfl
 |cons x r=>rw[Lib.join_cons,Lib.joinTail];simp
theorem cut_digs {v m:Nat} (h:v<4294967296^m):cutN (digs v m) m=(wInts v).length∧(wInts v).length≤m:=by
 have hlen:=digs_len v m
 have hv:=valI_digs v m
 rw[Nat.mod_eq_of_lt h]at hv
 have hc:=valI_cut (digs v m) m
 have hle:=cutN_le (digs v m) m
 have htop:=cutN_top (digs v m) m
 have:=wInts_of (cutN (digs v m) m) (digs v m) (digs_w32 v m) (by omega) htop
 rw[hc,hv,Int.toNat_natCast]at this
 have e:(wInts v).length=cutN (digs v m) m:=by rw[this,List.length_take];omega
 exact⟨e.symm,by omega⟩
theorem sz_div9 {v:Nat} (h:1000000000≤v):sz (v/1000000000)+29≤sz v:=by
 have h1:v<2^sz v:=sz_le.1 (Nat.le_refl _)
 have h2:29≤sz v:=by
  rcases Nat.lt_or_ge (sz v) 29 with g|g
  ·have:2^sz v≤2^29:=Nat.pow_le_pow_right (by decide) (by omega)
   omega
  ·exact g
 have h3:sz (v/1000000000)≤sz v - 29:=sz_le.2 (by
  rw[Nat.div_lt_iff_lt_mul (by decide)]
  have e:2^sz v=2^(sz v - 29)*2^29:=by rw[←Nat.pow_add];congr 1;omega
  have:2^(sz v - 29)*2^29≤2^(sz v - 29)*1000000000:=Nat.mul_le_mul_left _ (by decide)
  omega)
 omega
theorem tN_size9 {r:Nat} (h:r<1000000000):(tN r).size≤9:=by
 rw[tN_eq]
 show(Lib.decDigits r).toArray.size≤9
 have:=(pad_dec 9 r h (by decide)).2
 simpa using this
theorem pad_tN {r:Nat} (h:r<1000000000):((⟨(List.replicate (9 - (tN r).size) 48).toArray⟩:ByteArray)++tN r).data.toList=padF 9 r:=by
 have hs:(tN r).size=(Lib.decDigits r).length:=by rw[tN_eq];show(Lib.decDigits r).toArray.size=_;simp
 rw[(pad_dec 9 r h (by decide)).1,hs,tN_eq,ByteArray.data_append]
 simp
theorem cat_snoc (ps:List ByteArray) (s:ByteArray):cat (ps++[s]).reverse=s.data.toList++cat ps.reverse:=by simp[cat]
theorem wl_of {n M:Nat} (h:sz n≤M):(wInts n).length≤M:=len_le_of (Nat.lt_of_lt_of_le (sz_le.1 h) (Nat.pow_le_pow_left (by decide) M))
theorem t_NatB (n:Nat) (h:¬n<18446744073709551616) (hs:sz n≤1073741824):CallOK Tryz.prog 154 [.nat n] [] (.val (.string (tN n))) [] []:=by
 have hwl:(wInts n).length<1099511627776:=Nat.lt_of_le_of_lt (wl_of hs) (by decide)
 have k1:=c_words n 3001 hwl
 have e2:((big n).toList==(ByteArray.mk #[]).toList)=false:=by rw[big_eq];exact decide_eq_false h
 have hwa:=wArr_len n
 refine callF (Z:=[]) tabOK mixedOK Tryz.func154 rfl (by kernel_rfl) (by first|rfl|(simp[keylessL,keyless,keylessL_map, *];done)) (by first|rfl|(simp[keylessL,keyless,keylessL_map, *];done)) (by kernel_rfl) rfl ?_
 intro w0 ρ0 hE
 conv=>whnf
 (repeat((first|refine step_w2 rfl rfl ?_|refine g_cn (by assumption) rfl ?_|rw[e2]|rw[Nat.zero_add]);conv=>whnf))
 refine SWx_adopt (t:=3) (k:=2002) (s:=1) (blk:=sblk []) rfl rfl rfl ?_
 have hwn:=wInts_val n
 refine SW_loopN hE (fun k=>k) [3,4] [2002,3001] (fun q fr hp=>∃(v:Nat) (L:List Int) (ps:List ByteArray),q=v∧(wInts v).length≤L.length∧L.length<1099511627776∧W32 L∧valI L (wInts v).length=(v:Int)∧((v≠0∧Lib.decDigits n=Lib.decDigits v++cat ps.reverse∧ps.length*29+sz v≤sz n)∨(v=0∧Lib.decDigits n=cat ps.reverse∧ps.length*29≤sz n+29))∧
  fr=[(3,.slc 2002 1 0 ps.length),(4,.slc 3001 1 0 (wInts v).length)]∧hp=[(2002,sblk ps),(3001,⟨87,true,.ints .u32 L⟩)]) n ?_ ?_ ?_
 ·kernel_rfl
 ·have hwA:(wArr n)=wInts n:=by rw[wArr,if_neg h]
  refine⟨n,wArr n,[],rfl,hwa,by rw[hwA];exact hwl,by rw[hwA];exact wInts_w32 n,by rw[hwA];exact hwn,.inl ⟨by omega, ?_,by simp⟩,rfl,rfl⟩
  simp[cat]
 rintro q _ _ ⟨v,L,ps,rfl,hL,hLl,hLw,hLv,hrel,rfl,rfl⟩
 conv=>whnf
 have hpl:ps.length<1099511627776:=by rcases hrel with⟨_,_,g⟩|⟨_,_,g⟩<;>omega
 by_cases h0:0<q
 ·obtain⟨_,hdec,hlen⟩:=hrel.resolve_right (by omega)
  clear hrel
  have hm:=wInts_top (n:=q) (by omega)
  have t1:decide (((wInts q).length:Int)>0)=true:=decide_eq_true (by omega)
  have hqm:q<4294967296^(wInts q).length:=lt_of_len q
  have k2:=c_short L (wInts q).length hL (by omega) hLw 1000000000 (by decide) (by decide) 3001 3002 (by decide) true q hLv
  obtain⟨hcut,hcle⟩:=cut_digs (v:=q/1000000000) (m:=(wInts q).length) (Nat.lt_of_le_of_lt (Nat.div_le_self _ _) hqm)
  have hdl:=digs_len (q/1000000000) (wInts q).length
  have k3:=c_cut (digs (q/1000000000) (wInts q).length) (wInts q).length (by omega) (by omega) 3002 true
  rw[hcut]at k3
  have hr:q % 1000000000<1000000000:=Nat.mod_lt _ (by decide)
  have k4:=t_Itoa (q % 1000000000) (by omega)
  have e1:IntKind.i64.wrap ((q % 1000000000:Nat):Int)=((q % 1000000000:Nat):Int):=wrap_i64 (by omega) (by omega)
  have hsz:=tN_size9 hr
  have hdw:W32 (digs (q/1000000000) (wInts q).length):=digs_w32 _ _
  have hdv:valI (digs (q/1000000000) (wInts q).length) (wInts (q/1000000000)).length=((q/1000000000:Nat):Int):=by
   have h1:=valI_cut (digs (q/1000000000) (wInts q).length) (wInts q).length
   rw[hcut,valI_digs,Nat.mod_eq_of_lt (Nat.lt_of_le_of_lt (Nat.div_le_self _ _) hqm)]at h1
   exact h1
  have hqv:q/1000000000*1000000000+q % 1000000000=q:=by have:=Nat.div_add_mod q 1000000000;omega
  by_cases hq:1000000000≤q
  ·have hv0:0<q/1000000000:=Nat.div_pos hq (by decide)
   have hs9:=sz_div9 hq
   have hsplit:=dec_split 9 (q/1000000000) (q % 1000000000) hv0 hr
   rw[show 10^9=1000000000 from rfl,hqv,←pad_tN hr]at hsplit
   have hm2:=wInts_top (n:=q/1000000000) (by omega)
   have t2:decide (((wInts (q/1000000000)).length:Int)>0)=true:=decide_eq_true (by omega)
   have e2:IntKind.i64.wrap (9 - ((tN (q % 1000000000)).size:Int))=((9 - (tN (q % 1000000000)).size:Nat):Int):=by rw[wrap_i64 (by omega) (by omega)];omega
   have k5:=t_Repeat (9 - (tN (q % 1000000000)).size) (by omega)
   have hrs:(⟨(List.replicate (9 - (tN (q % 1000000000)).size) 48).toArray⟩:ByteArray).size=9 - (tN (q % 1000000000)).size:=by show(List.replicate _ _).toArray.size=_;simp
   have hob:(⟨(List.replicate (9 - (tN (q % 1000000000)).size) 48).toArray⟩:ByteArray).size+(tN (q % 1000000000)).size≤9223372036854775807:=by omega
   have hd2:Lib.decDigits n=Lib.decDigits (q/1000000000)++cat (ps++[(⟨(List.replicate (9 - (tN (q % 1000000000)).size) 48).toArray⟩:ByteArray)++tN (q % 1000000000)]).reverse:=by
    rw[hdec,hsplit,cat_snoc,List.append_assoc]
   clear hdec hsplit
   generalize (⟨(List.replicate (9 - (tN (q % 1000000000)).size) 48).toArray⟩:ByteArray)=z9 at*
   have hpm:(ps.map sel).length=ps.length:=List.length_map ..
   (repeat((first|refine step_w1 rfl rfl ?_|refine And.intro (by first|decide|omega|(simp only[tl0,dlen,List.length_replicate,List.length_set,List.length_map,List.length_zipWith,List.length_take,List.length_append,List.length_cons,List.length_nil];omega)) ?_|refine g_c (by assumption) ?_|refine g_c1 (by assumption) rfl ?_|refine g_c1n (by assumption) rfl rfl ?_|rw[t1]|rw[e1]|rw[t2]|rw[e2]);conv=>whnf))
   refine⟨q/1000000000,renBy [(41,2002),(3002,3001)],[3,4],[41,3002],by omega,by kernel_rfl,q/1000000000,_,ps++[z9++tN (q % 1000000000)],rfl,by rw[hdl];exact hcle,by omega,hdw,hdv,.inl ⟨by omega,hd2,by rw[List.length_append,List.length_singleton];omega⟩,by rw[List.length_append];rfl, ?_⟩
   have e9:sblk (ps++[z9++tN (q % 1000000000)])=⟨9,true,.seq 1 (List.take ps.length (ps.map sel)++List.take 1 (List.drop 0 [SV.val (.string (z9++tN (q % 1000000000)))]))⟩:=by
    rw[sblk,List.take_of_length_le (by omega),List.map_append];rfl
   rw[e9];rfl
  ·have hv0:q/1000000000=0:=Nat.div_eq_of_lt (by omega)
   have t2:decide (((wInts (q/1000000000)).length:Int)>0)=false:=by rw[hv0];rfl
   have hmod:q % 1000000000=q:=Nat.mod_eq_of_lt (by omega)
   have hd2:Lib.decDigits n=cat (ps++[tN (q % 1000000000)]).reverse:=by
    rw[hdec,cat_snoc,hmod,tN_eq]
   clear hdec
   have hpm:(ps.map sel).length=ps.length:=List.length_map ..
   (repeat((first|refine step_w1 rfl rfl ?_|refine step_w2 rfl rfl ?_|refine And.intro (by first|decide|omega|(simp only[tl0,dlen,List.length_replicate,List.length_set,List.length_map,List.length_zipWith,List.length_take,List.length_append,List.length_cons,List.length_nil];omega)) ?_|refine g_c (by assumption) ?_|refine g_c1 (by assumption) rfl ?_|refine g_c1n (by assumption) rfl rfl ?_|rw[t1]|rw[e1]|rw[t2]);conv=>whnf))
   refine⟨q/1000000000,renBy [(41,2002),(3002,3001)],[3,4],[41,3002],by omega,by kernel_rfl,q/1000000000,_,ps++[tN (q % 1000000000)],rfl,by rw[hdl];exact hcle,by omega,hdw,hdv,.inr ⟨hv0,hd2,by rw[List.length_append,List.length_singleton];omega⟩,by rw[List.length_append];rfl, ?_⟩
   have e9:sblk (ps++[tN (q % 1000000000)])=⟨9,true,.seq 1 (List.take ps.length (ps.map sel)++List.take 1 (List.drop 0 [SV.val (.string (tN (q % 1000000000)))]))⟩:=by
    rw[sblk,List.take_of_length_le (by omega),List.map_append];rfl
   rw[e9];rfl
 ·obtain rfl:q=0:=by omega
  obtain⟨_,hdec,_⟩:=hrel.resolve_left (fun h=>h.1 rfl)
  have t1:decide (((wInts 0).length:Int)>0)=false:=rfl
  have k2:=t_Reverse ps ps.length rfl (by omega) 2002
  have hdl:(Lib.decDigits n).length≤140737488355328:=by
   exact Nat.le_trans (dec_len (sz n) n (sz_le.1 (Nat.le_refl _))) (by omega)
  have k3:=t_JoinM ps.reverse ps.length (by rw[List.length_reverse]) ⟨#[]⟩ (by rw[List.length_reverse];omega) (by
   rw[show(⟨#[]⟩:ByteArray).data.toList=[]from rfl,join_empty]
   show(cat ps.reverse).length≤_
   rw[←hdec];exact hdl) 2002
  have e:(⟨(Lib.join (ps.reverse.map (·.data.toList)) (⟨#[]⟩:ByteArray).data.toList).toArray⟩:ByteArray)=tN n:=by
   rw[show(⟨#[]⟩:ByteArray).data.toList=[]from rfl,join_empty,tN_eq,hdec];rfl
  rw[e]at k3
  (repeat(first|(refine step_w2 rfl rfl ?_;conv=>whnf)|(refine g_c1 (by assumption) rfl ?_;conv=>whnf)|(refine g_c1u (by assumption) rfl rfl ?_;conv=>whnf)));(first|exact Recast.refl _|exact Frz.recast (Recast.refl _) rfl|(refine Frz.one rfl rfl ?_;skip)|(refine Frz.tup ?_;skip))
theorem tN_sizeG (n:Nat):(tN n).size≤sz n+1:=by
 rw[tN_eq]
 show(Lib.decDigits n).toArray.size≤_
 simpa using dec_len (sz n) n (sz_le.1 (Nat.le_refl _))
theorem t_NatG (n:Nat) (hs:sz n≤1073741824):CallOK Tryz.prog 154 [.nat n] [] (.val (.string (tN n))) [] []:=by
 by_cases h:n<18446744073709551616
 ·have k1:=t_FormatG n h
  have e1:low n=(n:Int):=low_small h
  have e2:((big n).toList==(ByteArray.mk #[]).toList)=true:=by rw[big_eq];exact decide_eq_true h
  refine callV (Z:=[]) tabOK mixedOK Tryz.func154 rfl (by kernel_rfl) rfl rfl (by kernel_rfl) rfl ?_
  intro W0 w0 ρ0 hE
  conv=>whnf
  (repeat((first|refine step_w1 rfl rfl ?_|refine g_c (by assumption) ?_|rw[e2]|rw[e1]);conv=>whnf));(first|exact Recast.refl _|exact Frz.recast (Recast.refl _) rfl|(refine Frz.one rfl rfl ?_;skip)|(refine Frz.tup ?_;skip))
 ·exact t_NatB n h hs
theorem t_IntG (z:Int) (h:sz z.natAbs≤1073741824):CallOK Tryz.prog 153 [.int z] [] (.val (.string (tZ z))) [] []:=by
 have k1:=t_NatG z.natAbs h
 have hs:=tN_sizeG z.natAbs
 have h1:(ByteArray.mk #[45]).size=1:=rfl
 have h2:(ByteArray.mk #[45]).size+(tN z.natAbs).size≤9223372036854775807:=by omega
 unfold tZ
 refine callV (Z:=[]) tabOK mixedOK Tryz.func153 rfl (by kernel_rfl) rfl rfl (by kernel_rfl) rfl ?_
 intro W0 w0 ρ0 hE
 conv=>whnf
 by_cases hz:z<0
 ·have t1:decide (z<0)=true:=decide_eq_true hz
  rw[if_pos hz]
  (repeat((first|refine step_w1 rfl rfl ?_|refine And.intro (by first|decide|omega|(simp only[tl0,dlen,List.length_replicate,List.length_set,List.length_map,List.length_zipWith,List.length_take,List.length_append,List.length_cons,List.length_nil];omega)) ?_|refine g_c (by assumption) ?_|rw[t1]);conv=>whnf));(first|exact Recast.refl _|exact Frz.recast (Recast.refl _) rfl|(refine Frz.one rfl rfl ?_;skip)|(refine Frz.tup ?_;skip))
 ·have t1:decide (z<0)=false:=decide_eq_false hz
  rw[if_neg hz]
  (repeat(first|(refine step_w2 rfl rfl ?_;conv=>whnf)|(refine g_c (by assumption) ?_;conv=>whnf)|(rw[t1];conv=>whnf)));(first|exact Recast.refl _|exact Frz.recast (Recast.refl _) rfl|(refine Frz.one rfl rfl ?_;skip)|(refine Frz.tup ?_;skip))
theorem tZ_sizeG (z:Int):(tZ z).size≤sz z.natAbs+2:=by
 have hs:=tN_sizeG z.natAbs
 unfold tZ
 split
 ·rw[ByteArray.size_append];have:("-".toUTF8).size=1:=rfl;omega
 ·omega
theorem t_FracG (q:Rat) (h:fs q≤1073741824):CallOK Tryz.prog 89 [.frac q] [] (.val (.string (tQ q))) [] []:=by
 have n1:=fsz_num q
 have n2:=fsz_den q
 unfold fs at h
 have kw:=c_Whole q
 have k1:=t_IntG q.num (by omega)
 have k2:=t_NatG q.den (by omega)
 have k3:=c_den natBig q (by omega)
 have hs:=tZ_sizeG q.num
 have hs2:=tN_sizeG q.den
 have h1:(ByteArray.mk #[47]).size=1:=rfl
 have h2:(tZ q.num).size+(ByteArray.mk #[47]).size≤9223372036854775807:=by omega
 have h3:(tZ q.num++(ByteArray.mk #[47])).size+(tN q.den).size≤9223372036854775807:=by rw[ByteArray.size_append];omega
 unfold tQ
 refine callV (Z:=[]) tabOK mixedOK Tryz.func89 rfl (by kernel_rfl) rfl rfl (by kernel_rfl) rfl ?_
 intro W0 w0 ρ0 hE
 conv=>whnf
 by_cases hd:q.den=1
 ·rw[decide_eq_true hd]at kw
  rw[if_pos hd]
  (repeat(first|(refine step_w1 rfl rfl ?_;conv=>whnf)|(refine g_c (by assumption) ?_;conv=>whnf)));(first|exact Recast.refl _|exact Frz.recast (Recast.refl _) rfl|(refine Frz.one rfl rfl ?_;skip)|(refine Frz.tup ?_;skip))
 ·rw[decide_eq_false hd]at kw
  rw[if_neg hd]
  (repeat((first|refine step_w2 rfl rfl ?_|refine step_i (by kernel_rfl) ?_|refine And.intro (by first|decide|omega|(simp only[tl0,dlen,List.length_replicate,List.length_set,List.length_map,List.length_zipWith,List.length_take,List.length_append,List.length_cons,List.length_nil];omega)) ?_|refine g_c (by assumption) ?_);conv=>whnf));(first|exact Recast.refl _|exact Frz.recast (Recast.refl _) rfl|(refine Frz.one rfl rfl ?_;skip)|(refine Frz.tup ?_;skip))
theorem tQ_size (q:Rat):(tQ q).size≤fs q+fs q+4:=by
 have n1:=fsz_num q
 have n2:=fsz_den q
 have hs:=tZ_sizeG q.num
 have hs2:=tN_sizeG q.den
 unfold fs
 unfold tQ
 split
 ·omega
 ·rw[ByteArray.size_append,ByteArray.size_append];have:("/".toUTF8).size=1:=rfl;omega
theorem join_size:∀(l:List (List UInt8)) (B:Nat),(∀x∈l,x.length≤B)→(Lib.join l [32]).length≤l.length*(B+1)
 |[],B,_=>by simp[Lib.join_nil]
 |[x],B,h=>by rw[Lib.join_one];have:=h x (List.mem_cons_self ..);simp;omega
 |x::y::l,B,h=>by
  have ih:=join_size (y::l) B (fun z hz=>h z (List.mem_cons_of_mem _ hz))
  have hx:=h x (List.mem_cons_self ..)
  have e:Lib.join (x::y::l) [32]=x++[32]++Lib.join (y::l) [32]:=by rw[Lib.join_cons,Lib.join_cons];simp[Lib.joinTail]
  rw[e]
  simp only[List.length_append,List.length_cons,List.length_nil]at*
  rw[Nat.succ_mul (l.length+1)]
  omega
theorem tV_join {a:List Rat} {B:Nat} (hl:a.length≤2048) (h:∀i,i<a.length→fs (a.getD i 0)≤B) (hB:B≤1000000000):(Lib.join ((a.map tQ).map (·.data.toList)) [32]).length≤140737488355328:=by
 refine Nat.le_trans (join_size _ (2*B+4) ?_) ?_
 ·intro x hx
  obtain⟨s,hs,rfl⟩:=List.mem_map.1 hx
  obtain⟨q,hq,rfl⟩:=List.mem_map.1 hs
  obtain⟨i,hi,rfl⟩:=mem_getD hq 0
  have h1:=tQ_size (a.getD i 0)
  have h2:=h i hi
  show(tQ (a.getD i 0)).data.toList.length≤_
  have:(tQ (a.getD i 0)).data.toList.length=(tQ (a.getD i 0)).size:=Array.length_toList
  omega
 ·rw[List.length_map,List.length_map]
  have:a.length*(2*B+4+1)≤2048*(2*B+4+1):=Nat.mul_le_mul_right _ hl
  omega
theorem t_VecG (a:List Rat) (B:Nat) (hl:a.length≤2048) (h:∀i,i<a.length→fs (a.getD i 0)≤B) (hB:B≤1000000000):CallOK Tryz.prog 72 [fvec a] [] (.val (.string (tV a))) [] []:=by
 have hJ:=tV_join hl h hB
 have hz:((a.map tQ).map sel).length=a.length:=by simp
 have hget:∀i,i<a.length→((a.map tQ).map sel).getD i .any= .val (.string (tQ (a.getD i 0))):=fun i hi=>by rw[map_get (d:=ByteArray.empty) (by simpa using hi),map_get (d:=0) hi];rfl
 have kj:=t_Join (a.map tQ) (by simp;omega) hJ
 refine callF (Z:=[]) tabOK mixedOK Tryz.func72 rfl (by kernel_rfl) (by first|rfl|(simp[keylessL,keyless,keylessL_map, *];done)) (by first|rfl|(simp[keylessL,keyless,keylessL_map, *];done)) (by kernel_rfl) rfl ?_
 intro w0 ρ0 hE
 conv=>whnf
 (repeat(first|(refine And.intro (by first|decide|omega|(simp only[tl0,dlen,List.length_replicate,List.length_set,List.length_map,List.length_zipWith,List.length_take,List.length_append,List.length_cons,List.length_nil];omega)) ?_;conv=>whnf)|(refine g_o (op_lenM rfl rfl rfl (ev_ok rfl) (tgt rfl) rfl) ?_;conv=>whnf)|(rw[Int.toNat_natCast];conv=>whnf)))
 refine SW_loopS hE (fun k=>k) [0,2,3,9,10,11] [8] (fun m fr hp=>∃i,m=a.length - i∧i≤a.length∧fr=[(0,fvec a),(2,.val (.string ⟨#[]⟩)),(3,.slc 8 1 0 a.length),(9,fvec a),(10,.val (.int .i64 (a.length:Nat))),(11,.val (.int .i64 (i:Nat)))]∧
  hp=[(8,⟨9,true,.seq 1 (((a.map tQ).map sel).take i++List.replicate (a.length - i) (.val (.string .empty)))⟩)]) a.length ?_ ?_ ?_
 ·kernel_rfl
 ·exact⟨0,rfl,Nat.zero_le _,rfl,rfl⟩
 rintro m _ _ ⟨i,rfl,hi,rfl,rfl⟩
 have hlen:=fill_len (d:=SV.val (.string .empty)) hi hz
 by_cases hlt:i<a.length
 ·have t1:=dlt hlt
  have t2:=winc (i:=i) (by omega)
  have k1:=t_FracG (a.getD i 0) (Nat.le_trans (h i hlt) (by omega))
  refine SWx.of hE ?_
  conv=>whnf
  have e3:=fill_get (d:=SV.val (.string .empty)) (e:=SV.any) hlt hz
  (repeat((first|refine step_w1 rfl rfl ?_|refine And.intro (by first|decide|omega|(simp only[tl0,dlen,List.length_replicate,List.length_set,List.length_map,List.length_zipWith,List.length_take,List.length_append,List.length_cons,List.length_nil];omega)) ?_|refine g_c (by assumption) ?_|refine g_o (op_indexN (α:=Rat) (d:=0) rfl (ev_ok rfl) (ev_ok rfl) (tgt rfl) rfl (tgt rfl) rfl (by omega)) ?_|refine g_o (op_loadA rfl (ev_ok rfl) (tgt rfl) rfl (Nat.succ_ne_zero _) rfl) ?_|rw[t1]|rw[e3]|rw[t2]|rw[Int.toNat_natCast]|rw[Nat.zero_add]);conv=>whnf))
  refine⟨a.length - (i+1),fun k=>k,[0,2,3,9,10,11],[8],by omega,by kernel_rfl,i+1,rfl,hlt,rfl, ?_⟩
  rw[←fill_set (e:=.any) hlt hz,hget i hlt]
  rfl
 ·have t1:=dge hlt
  have hI:i=a.length:=by omega
  subst hI
  rw[fill_all hz]
  refine SWx_freezeM 3 8 (fun _ h=>h) (fun _=>rfl) rfl rfl (by simp) ?_
  refine SWx.of hE ?_
  conv=>whnf
  have h91:(ByteArray.mk #[91]).size=1:=rfl
  have h93:(ByteArray.mk #[93]).size=1:=rfl
  have hjs:(ByteArray.mk (Lib.join ((a.map tQ).map (·.data.toList)) [32]).toArray).size=(Lib.join ((a.map tQ).map (·.data.toList)) [32]).length:=by show(Lib.join ((a.map tQ).map (·.data.toList)) [32]).toArray.size=_;simp
  have o1:(ByteArray.mk #[91]).size+(ByteArray.mk (Lib.join ((a.map tQ).map (·.data.toList)) [32]).toArray).size≤9223372036854775807:=by omega
  have o2:(ByteArray.mk #[91]++ByteArray.mk (Lib.join ((a.map tQ).map (·.data.toList)) [32]).toArray).size+(ByteArray.mk #[93]).size≤9223372036854775807:=by rw[ByteArray.size_append];omega
  (repeat((first|refine step_w2 rfl rfl ?_|refine And.intro (by first|decide|omega|(simp only[tl0,dlen,List.length_replicate,List.length_set,List.length_map,List.length_zipWith,List.length_take,List.length_append,List.length_cons,List.length_nil];omega)) ?_|refine g_c (by assumption) ?_|rw[t1]);conv=>whnf));(first|exact Recast.refl _|exact Frz.recast (Recast.refl _) rfl|(refine Frz.one rfl rfl ?_;skip)|(refine Frz.tup ?_;skip))
end Go.Proofs.YtbopchpncgdaaaaGreatDoor
namespace Go.Proofs.YtbopchpncgdaaaaGreatDoor
open Go.Sx
set_option linter.unusedSimpArgs false
set_option linter.unusedVariables false
set_option maxRecDepth 100000
set_option maxHeartbeats 4000000
theorem m_rowV {r c:Nat} {a:List Rat} (h:OKM r c a) {i:Nat} (hi:i<r):CallOK Tryz.prog 86 [mA r c a,iv i] [] (fvec (rowL a c i)) [] []:=by
 obtain⟨t1,t2,t3⟩:=row_w (i:=i) (c:=c) (by have:=h.r;omega) h.c
 have hlt:=Nat.mul_le_mul_right c (show i+1≤r from hi)
 have hle:i*c≤(i+1)*c:=Nat.mul_le_mul_right c (by omega)
 rw[←h.n]at hlt
 have e1:(i+1)*c - i*c=c:=by rw[Nat.succ_mul];omega
 refine callV (Z:=[]) tabOK mixedOK Tryz.func86 rfl (by kernel_rfl) rfl rfl (by kernel_rfl) rfl ?_
 intro W0 w0 ρ0 hE
 conv=>whnf
 (repeat((first|refine step_i (by kernel_rfl) ?_|refine g_o (op_sliceM rfl (ev_ok rfl) (bound_spec rfl) (bound_spec rfl) (.inr ⟨Option.some_ne_none _,_,_,rfl,ev_ok rfl⟩) (tgt rfl) rfl (tgt rfl) rfl (by omega)) ?_|rw[t1]|rw[t3]|rw[t2]|rw[e1]|rw[Int.toNat_natCast]);conv=>whnf))
 (first|exact Recast.refl _|exact Frz.recast (Recast.refl _) rfl|(refine Frz.one rfl rfl ?_;skip)|(refine Frz.tup ?_;skip))
end Go.Proofs.YtbopchpncgdaaaaGreatDoor
namespace Go.Proofs.YtbopchpncgdaaaaGreatDoor
open Go.Sx
set_option linter.unusedSimpArgs false
set_option linter.unusedVariables false
set_option maxRecDepth 100000
set_option maxHeartbeats 4000000
theorem Sm_row {a:List Rat} {r c i A:Nat} (sa:Sm A a) (ha:a.length=r*c) (hi:i<r):Sm A (rowL a c i):=by
 intro k hk
 rw[rowL_len hi ha]at hk
 rw[rowL_get hk];exact el_sm sa ha hi hk
end Go.Proofs.YtbopchpncgdaaaaGreatDoor
namespace Go.Proofs.YtbopchpncgdaaaaGreatDoor
open Go.Sx
set_option linter.unusedSimpArgs false
set_option linter.unusedVariables false
set_option maxRecDepth 100000
set_option maxHeartbeats 4000000
theorem m_Of (r c:Nat) (l:List Int) (hr:r≤2048) (hc:c≤2048) (hl:l.length=r*c) (h:∀x∈l, -9223372036854775808≤x∧x<9223372036854775808):CallOK Tryz.prog 70 [iv r,iv c,ivec .i64 l] [] (.tup [mA r c (ofInts l),iv 0]) [] []:=by
 have hb:=Nat.mul_le_mul hr hc
 have k1:=v_Of l (by omega) (fun i hi=>h _ (getD_mem hi))
 have k0:=m_Check0 (a:=ofInts l) ⟨hr,hc,by simpa [ofInts]using hl⟩
 refine callV (Z:=[]) tabOK mixedOK Tryz.func70 rfl (by kernel_rfl) rfl rfl (by kernel_rfl) rfl ?_
 intro W0 w0 ρ0 hE
 conv=>whnf
 (repeat(first|(refine step_w2 rfl rfl ?_;conv=>whnf)|(refine g_c (by assumption) ?_;conv=>whnf)));(first|exact Recast.refl _|exact Frz.recast (Recast.refl _) rfl|(refine Frz.one rfl rfl ?_;skip)|(refine Frz.tup ?_;skip))
end Go.Proofs.YtbopchpncgdaaaaGreatDoor
namespace Go.Proofs.YtbopchpncgdaaaaGreatDoor
open Go.Sx
set_option linter.unusedSimpArgs false
set_option linter.unusedVariables false
set_option maxRecDepth 100000
set_option maxHeartbeats 4000000
def rowsL (r c:Nat) (a:List Rat):List (List Rat):=(List.range r).map (rowL a c)
def tM (r c:Nat) (a:List Rat):ByteArray:=⟨(Lib.join (((rowsL r c a).map tV).map (·.data.toList)) [32]).toArray⟩
theorem rowsL_get {r c i:Nat} {a:List Rat} (hi:i<r):(rowsL r c a).getD i []=rowL a c i:=by simp[rowsL,List.getD_eq_getElem?_getD,hi]
theorem rowsL_len (r c:Nat) (a:List Rat):(rowsL r c a).length=r:=by simp[rowsL]
theorem tV_size {a:List Rat} {B:Nat} (h:∀i,i<a.length→fs (a.getD i 0)≤B):(tV a).data.toList.length≤2+a.length*(2*B+5):=by
 have h1:=join_size ((a.map tQ).map (·.data.toList)) (2*B+4) (by
  intro x hx
  obtain⟨s,hs,rfl⟩:=List.mem_map.1 hx
  obtain⟨q,hq,rfl⟩:=List.mem_map.1 hs
  obtain⟨i,hi,rfl⟩:=mem_getD hq 0
  have h1:=tQ_size (a.getD i 0)
  have h2:=h i hi
  have:(tQ (a.getD i 0)).data.toList.length=(tQ (a.getD i 0)).size:=Array.length_toList
  show(tQ (a.getD i 0)).data.toList.length≤_
  omega)
 rw[List.length_map,List.length_map]at h1
 have e1: "[".toByteArray.data.toList.length=1:=by decide+kernel
 have e2: "]".toByteArray.data.toList.length=1:=by decide+kernel
 unfold tV
 rw[ByteArray.data_append,ByteArray.data_append,Array.toList_append,Array.toList_append,List.length_append,List.length_append]
 show "[".toByteArray.data.toList.length+(Lib.join ((a.map tQ).map (·.data.toList)) [32]).length+ "]".toByteArray.data.toList.length≤_
 rw[e1,e2]
 rw[show 2*B+4+1=2*B+5 from rfl]at h1
 omega
theorem rows_sm {r c B:Nat} {a:List Rat} (ha:a.length=r*c) (sa:Sm B a) {l:List Rat} (h:l∈rowsL r c a):l.length=c∧Sm B l:=by
 obtain⟨i,hi,rfl⟩:=List.mem_map.1 h
 have hi':=List.mem_range.1 hi
 exact⟨rowL_len hi' ha,Sm_row sa ha hi'⟩
theorem tM_join {r c B:Nat} {a:List Rat} (ha:OKM r c a) (sa:Sm B a) (hB:B≤1000000):(Lib.join (((rowsL r c a).map tV).map (·.data.toList)) [32]).length≤140737488355328:=by
 refine Nat.le_trans (join_size _ (2+2048*(2*B+5)) ?_) ?_
 ·intro x hx
  obtain⟨s,hs,rfl⟩:=List.mem_map.1 hx
  obtain⟨l,hl,rfl⟩:=List.mem_map.1 hs
  obtain⟨h1,h2⟩:=rows_sm ha.n sa hl
  refine Nat.le_trans (tV_size h2) ?_
  have:=Nat.mul_le_mul_right (2*B+5) (show l.length≤2048 by rw[h1];exact ha.c)
  omega
 ·rw[List.length_map,List.length_map,rowsL_len]
  have:=Nat.mul_le_mul_right (2+2048*(2*B+5)+1) ha.r
  omega
theorem app_snocS {l:List ByteArray} {i:Nat} {d:ByteArray} (h:i<l.length):(⟨9,true,.seq 1 ((l.take (i+1)).map sel)⟩:Blk)=⟨9,true,.seq 1 (List.take i ((l.take i).map sel)++List.take 1 (List.drop 0 [sel (l.getD i d)]))⟩:=by
 have hl:((l.take i).map sel).length=i:=by rw[List.length_map,List.length_take];omega
 have e:l.take (i+1)=l.take i++[l.getD i d]:=by rw[List.take_add_one,List.getD_eq_getElem?_getD,List.getElem?_eq_getElem h];rfl
 rw[e,List.map_append,List.take_of_length_le (l:=(l.take i).map sel) (by omega)];rfl
abbrev sblkM (l:List ByteArray):Blk:=⟨9,true,.seq 1 (l.map sel)⟩
theorem m_Text {r c B:Nat} {a:List Rat} (ha:OKM r c a) (sa:Sm B a) (hB:B≤1000000):CallOK Tryz.prog 28 [mA r c a] [] (.val (.string (tM r c a))) [] []:=by
 have k0:=m_Check0 ha
 have hr:=ha.r
 have la:=rowsL_len r c a
 have hz:((rowsL r c a).map tV).length=r:=by rw[List.length_map,rowsL_len]
 have kj:=t_Join ((rowsL r c a).map tV) (by omega) (tM_join ha sa hB)
 refine callF (Z:=[1]) tabOK mixedOK Tryz.func28 rfl (by kernel_rfl) (by first|rfl|(simp[keylessL,keyless,keylessL_map, *];done)) (by first|rfl|(simp[keylessL,keyless,keylessL_map, *];done)) (by kernel_rfl) rfl ?_
 intro w0 ρ0 hE
 conv=>whnf
 (repeat((first|refine step_w2 rfl rfl ?_|refine g_c (by assumption) ?_|rw[bne_self_eq_false]|refine g_o (op_loadA rfl (ev_ok rfl) (tgt rfl) rfl (Nat.succ_ne_zero _) rfl) ?_|refine g_o (op_fieldA rfl (ev_ok rfl) (tgt rfl) rfl rfl (Nat.succ_ne_zero _) rfl) ?_);conv=>whnf))
 refine SWx_adopt (t:=3) (k:=2001) (s:=1) (blk:=sblkM []) rfl rfl rfl ?_
 refine SW_loopS hE (fun k=>k) [1,3,9,10] [2001] (fun m fr hp=>∃i:Nat,m=r - i∧i≤r∧fr=[(1,ptrA (mC r c a)),(3,.slc 2001 1 0 i),(9,iv r),(10,iv (i:Nat))]∧hp=[(2001,sblkM (((rowsL r c a).map tV).take i))]) r ?_ ?_ ?_
 ·kernel_rfl
 ·exact⟨0,rfl,Nat.zero_le _,rfl,rfl⟩
 rintro m _ _ ⟨i,rfl,hi,rfl,rfl⟩
 have hlt0:((((rowsL r c a).map tV).take i).map sel).length=i:=by rw[List.length_map,List.length_take];omega
 by_cases hlt:i<r
 ·have t1:=dlt hlt
  have t2:=winc (i:=i) (by omega)
  have o1:=m_rowV ha hlt
  have l1:=rowL_len hlt ha.n
  have o2:=t_VecG (rowL a c i) B (by have:=ha.c;omega) (Sm_row sa ha.n hlt) (by omega)
  have hget:((rowsL r c a).map tV).getD i ByteArray.empty=tV (rowL a c i):=by rw[map_get (d:=[]) (by rw[rowsL_len];exact hlt),rowsL_get hlt]
  have e1:=app_snocS (l:=(rowsL r c a).map tV) (d:=ByteArray.empty) (i:=i) (by omega)
  rw[hget]at e1
  refine SWx.of hE ?_
  conv=>whnf
  (repeat((first|refine step_w1 rfl rfl ?_|refine step_oA (by first|omega|decide|(simp only[tl0,dlen,List.length_replicate,List.length_set,List.length_map,List.length_zipWith,List.length_take,List.length_append,List.length_cons,List.length_nil];omega)) ?_|refine g_c (by assumption) ?_|refine g_o (op_loadA rfl (ev_ok rfl) (tgt rfl) rfl (Nat.succ_ne_zero _) rfl) ?_|rw[t1]|rw[t2]);conv=>whnf))
  refine⟨r - (i+1),renBy [(19,2001)],[1,3,9,10],[19],by omega,by kernel_rfl,i+1,rfl,hlt,rfl, ?_⟩
  rw[sblkM,e1];rfl
 ·have t1:=dge hlt
  obtain rfl:i=r:=by omega
  rw[List.take_of_length_le (by omega)]
  refine SWx_freezeM 3 2001 (fun _ h=>h) (fun _=>rfl) rfl rfl hz.symm ?_
  refine SWx.of hE ?_
  conv=>whnf
  (repeat(first|(refine step_w2 rfl rfl ?_;conv=>whnf)|(refine g_c (by assumption) ?_;conv=>whnf)|(rw[t1];conv=>whnf)));(first|exact Recast.refl _|exact Frz.recast (Recast.refl _) rfl|(refine Frz.one rfl rfl ?_;skip)|(refine Frz.tup ?_;skip))
end Go.Proofs.YtbopchpncgdaaaaGreatDoor
namespace Go.Sx
set_option linter.unusedSimpArgs false
set_option linter.unusedVariables false
def ag3 {α β γ:Type} (f:α→SV) (g:β→SV) (h:γ→SV) (p:α×β×γ):SV:=.agg [f p.1,g p.2.1,h p.2.2]
end Go.Sx
namespace Go.Proofs.YtbopchpncgdaaaaGreatDoor
open Go.Sx
set_option linter.unusedSimpArgs false
set_option linter.unusedVariables false
set_option maxRecDepth 100000
set_option maxHeartbeats 4000000
abbrev MM:=Int×Int×List (Int×Int)
abbrev mQ:MM→SV:=ag3 (iel .u8) (iel .u8) (mvec 2 qA)
abbrev nilQ:MM:=(0,0,[])
def eQ (l:List (Int×Int)) (p:Nat):Rat:=qV (l.getD p (0,0))
def someL (l:List (Int×Int)) (n:Nat):List Rat:=(List.range n).map (eQ l)
theorem someL_len (l:List (Int×Int)) (n:Nat):(someL l n).length=n:=by simp[someL]
theorem someL_get {l:List (Int×Int)} {n p:Nat} (h:p<n):(someL l n).getD p 0=eQ l p:=by simp[someL,List.getD_eq_getElem?_getD,h]
theorem qOK_at {l:List (Int×Int)} (h:∀q∈l,qOK q) (p:Nat):qOK (l.getD p (0,0)):=by
 by_cases hp:p<l.length
 ·exact h _ (getD_mem hp)
 ·rw[List.getD_eq_getElem?_getD,List.getElem?_eq_none (by omega)];exact⟨⟨by decide,by decide⟩,by decide,by decide⟩
theorem someL_zero {l:List (Int×Int)} {n i:Nat} (h:l.length≤i):someL l n=(someL l n).take i++List.replicate (n - i) 0:=by
 apply List.ext_getElem
 ·rw[List.length_append,List.length_take,someL_len,List.length_replicate];omega
 ·intro j h1 h2
  rw[someL_len]at h1
  rw[List.getElem_append]
  split
  ·simp
  ·rename_i h3
   rw[List.length_take,someL_len]at h3
   simp only[List.getElem_replicate,someL,List.getElem_map,List.getElem_range,eQ]
   rw[List.getD_eq_getElem?_getD,List.getElem?_eq_none (by omega)];decide+kernel
end Go.Proofs.YtbopchpncgdaaaaGreatDoor
namespace Go.Proofs.YtbopchpncgdaaaaGreatDoor
open Go.Sx
set_option linter.unusedSimpArgs false
set_option linter.unusedVariables false
set_option maxRecDepth 100000
set_option maxHeartbeats 4000000
theorem detZ_congr {n:Nat} {A B:Mz} (h:∀i k,i<n→k<n→A i k=B i k):detZ n A=detZ n B:=by
 apply cast_inj
 rw[detZ_cast,detZ_cast]
 exact det_congr fun i k hi hk=>by unfold toR;rw[h i k hi hk]
def swapZ (A:Mz) (i j:Nat):Mz:=fun p=>if p=i then A j else if p=j then A i else A p
theorem swapZ_cast (A:Mz) (i j:Nat):toR (swapZ A i j)=swapRow (toR A) i j:=by
 funext p q
 unfold toR swapZ swapRow
 by_cases h:p=i
 ·rw[if_pos h,if_pos h]
 ·rw[if_neg h,if_neg h]
  by_cases h2:p=j
  ·rw[if_pos h2,if_pos h2]
  ·rw[if_neg h2,if_neg h2]
theorem swapZ_self (A:Mz) (i:Nat):swapZ A i i=A:=by
 funext p;unfold swapZ
 by_cases h:p=i
 ·rw[if_pos h,h]
 ·rw[if_neg h,if_neg h]
theorem detZ_swap {n:Nat} (A:Mz) {i j:Nat} (hi:i<n) (hj:j<n) (hne:i≠j):detZ n (swapZ A i j)= - detZ n A:=by
 apply cast_inj
 rw[detZ_cast,swapZ_cast,(det_Alt n).swap _ hi hj hne,Rat.intCast_neg,detZ_cast]
theorem bmZ_swap (s:Nat) (A:Mz) (j p q:Nat):bmZ s (swapZ A s (s+j)) p q=swapZ (bmZ s A) 0 j p q:=by
 have e:∀p r,(∀a,a<s+1→swapZ A s (s+j) (at1 s p a)=A (at1 s r a))→bmZ s (swapZ A s (s+j)) p q=bmZ s A r q:=fun p r h=>detZ_congr fun a b ha _=>by rw[h a ha]
 unfold swapZ at e ⊢
 by_cases h:p=0
 ·subst h
  rw[if_pos rfl]
  refine e 0 j fun a ha=> ?_
  unfold at1
  by_cases g:a<s
  ·rw[if_pos g,if_pos g,if_neg (by omega),if_neg (by omega)]
  ·rw[if_neg g,if_neg g,if_pos (Nat.add_zero s)]
 ·rw[if_neg h]
  by_cases h2:p=j
  ·subst h2
   rw[if_pos rfl]
   refine e p 0 fun a ha=> ?_
   unfold at1
   by_cases g:a<s
   ·rw[if_pos g,if_pos g,if_neg (by omega),if_neg (by omega)]
   ·rw[if_neg g,if_neg g,if_neg (by omega),if_pos rfl,Nat.add_zero]
  ·rw[if_neg h2]
   refine e p p fun a ha=> ?_
   unfold at1
   by_cases g:a<s
   ·rw[if_pos g,if_neg (by omega),if_neg (by omega)]
   ·rw[if_neg g,if_neg (by omega),if_neg (by omega)]
theorem detZ_swap_lead (s:Nat) (A:Mz) (j:Nat):detZ s (swapZ A s (s+j))=detZ s A:=detZ_congr fun i k hi _=>by
 unfold swapZ;rw[if_neg (by omega),if_neg (by omega)]
end Go.Proofs.YtbopchpncgdaaaaGreatDoor
