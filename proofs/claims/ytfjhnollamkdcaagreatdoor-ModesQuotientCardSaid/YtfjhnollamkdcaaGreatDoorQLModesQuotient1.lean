/- The texts SxS, SxX, SxY, Ga, Gb, Gd, Hb, Hd, Ja, Nk, Nl, Mc, Ac, Jb, Ka, Kb, Kc, Kf, Kh, Km, Kn, Ko, Az, Ae, Qf, Ad, Qm, Qp, Qr, Qt, Am, Ap. -/
import Derived.Carry
import Derived.OpenShut
import Derived.Deep.Slices
import Derived.Lib.LaidTab
import Derived.Test.YtfjhnollamkdcaaGreatDoorQsA23
namespace Go.Sx
open Go.ChangeShapes
theorem trodAll_stays {H:Type} {enc:TypeId×Value→H} {P:Program} (hl:laidOutB P=true) {W W':World} (hb:RowKit.Below W.heap.size W W'):
  ∀(ts:List TypeId) (vs:List Value) (ds:List (DataW H)) (ps:List MemPlace),ts.all (fun t=>P.readableRec t&&decide (t<P.types.size))=true→DataW.TrodAll enc P W 0 (fun _=>true) true ts vs ds ps→(∀p∈ps,p.block<W.heap.size)→
   DataW.TrodAll enc P W' 0 (fun b=>decide (b<W.heap.size)) true ts vs ds ps
 |[],[],[],_,_,h,_=>h
 |t::ts,v::vs,d::ds,ps,hr,h,hlt=>by
  obtain⟨p,q,h1,h2,rfl⟩:=h
  simp only[List.all_cons,Bool.and_eq_true,decide_eq_true_eq]at hr
  exact⟨p,q,RowKit.Below.trod hl hr.1.1 hr.1.2 h1 hb (fun x hx=>hlt x (List.mem_append.2 (.inl hx))),trodAll_stays hl hb ts vs ds q hr.2 h2 (fun x hx=>hlt x (List.mem_append.2 (.inr hx))),rfl⟩
 |[],_::_,_,_,_,h,_=>h.elim
 |[],[],_::_,_,_,h,_=>h.elim
 |_::_,[],_,_,_,h,_=>h.elim
 |_::_,_::_,[],_,_,h,_=>h.elim
theorem law_post {H:Type} {enc:TypeId×Value→H} {P:Program} {f:Func} {s:ChangeSpec} {W W':World} {args:Array Value} {ds gs:List (DataW H)} {before:List MemPlace} {tb:TypeId}
  (hl:laidOutB P=true) (hr:f.params.toList.all (fun t=>P.readableRec t&&decide (t<P.types.size))=true) (hv:s.vars=[]) (hres:f.resultTypes= #[tb]) (htb:P.underlying tb=some .bool)
  (hW:DataW.Whole enc P f.params.toList s.vars false W args.toList ds gs before) (hfn:(s.fn H (ds++gs)).results=[.lit (.bool true)]∧(s.fn H (ds++gs)).args=ds∧(s.fn H (ds++gs)).vars=[])
  (hb:RowKit.Below W.heap.size W W'):s.post enc P f false true false false W args (.bool true) W':=by
 have hlt:=hW.lt
 have hW':=hW
 obtain⟨p,q,h1,h2,rfl,h3,h4⟩:=hW
 rw[hv]at h2
 obtain⟨rfl,rfl⟩:=trodVars_none h2
 rw[List.append_nil]at hlt
 refine⟨ds,[],p++[],[],p,[],hW', ?_, ?_, ?_,hb.frame _,fun h=>by cases h⟩
 ·rw[hfn.1,hres]
  exact trodAll_cons_mk (RowKit.shut_bool htb true) trodAll_mk0
 ·rw[hfn.2.1]
  exact trodAll_stays hl hb _ _ _ _ hr h1 hlt
 ·rw[hv,hfn.2.2]
  exact rfl
end Go.Sx
namespace Go.Sx
open Go.ChangeShapes Go.WideShapes
theorem tab_heap {P:Program} {W:World} {name:String} {k:IntKind} {zs:List Int} {g:Nat} (hg:P.globalNamed name=some g) (h:Lib.TabIs P W name k zs):∃ty fz,W.heap[g]? =some (.cells (zs.map fun x=>Value.int k x).toArray ty fz):=by
 unfold Lib.TabIs World.var? at h
 rw[hg]at h
 simp only[Option.bind_some]at h
 cases ho:W.heap[g]? with
 |none=>rw[ho]at h;cases h
 |some o=>
  rw[ho]at h
  cases o<;>simp_all
theorem law_runA {P:Program} {f:FuncId} {args:List SV} {W:World} (hf:FnOK P f) (h:CallOK P f args [] (.val (.bool true)) [] [])
  (hg:TabsW W) {z:List (List Value)} (hz:HasZ (allRho hg) args z):
  Calls P f (List.zipWith mkV args z).toArray W fun e w'=>e= .returned (.bool true)∧RowKit.Below W.heap.size W w':=by
 refine(h.calls hf hz ⟨(fun k b hb=>by cases hb),(fun k k' x x' b b' hb=>by cases hb),(fun b o hb=>hb),(fun k b x hb=>by cases hb),(fun k b hb=>by cases hb)⟩).mono ?_
 rintro e w' ⟨v,ρ',rfl,hp⟩
 refine⟨by rw[of_has_val hp.has], ?_⟩
 exact(hp.pres.mono (W':=fun _=>False) (fun b _ ⟨k,blk,t,hm,_⟩=>by cases hm)).below
section
variable {H:Type} {enc:TypeId×Value→H} {P:Program} {W:World} {hg:TabsW W}
theorem Opens.struct2 {t:TypeId} {f0 f1:Field} {α β:Type} {a:α→SV} {b:β→SV} {ga:α→Prop} {gb:β→Prop} (ht:P.underlying t=some (.struct #[f0,f1])) (o0:f0.offset=0) (o1:f1.offset=P.cellsOf f0.type) (hc:P.cellsOf t=P.cellsOf f0.type+P.cellsOf f1.type)
  (h0:Opens enc P hg f0.type a ga) (h1:Opens enc P hg f1.type b gb):Opens enc P hg t (ag2 a b) (fun p=>ga p.1∧gb p.2):=fun fuel cs x h=>by
 obtain⟨xs,n,rfl,_,hlen,hxl,hf⟩:=DataW.trod_struct ht h
 have hx0:xs.length=2:=hxl
 obtain⟨y0,y1,rfl⟩:∃y0 y1,xs=[y0,y1]:=by
  match xs,hx0 with
  |[y0,y1],_=>exact⟨y0,y1,rfl⟩
 have g0:=hf 0 f0 rfl
 have g1:=hf 1 f1 rfl
 obtain⟨p,p1,p2⟩:=h0 _ _ _ g0
 obtain⟨q,q1,q2⟩:=h1 _ _ _ g1
 refine⟨(p,q),⟨p1,q1⟩, ?_⟩
 simp only[ag2,HasC]
 refine⟨[_,_],by simp only[HasZ];exact⟨_,_,rfl,p2,_,_,rfl,q2,rfl⟩, ?_⟩
 simp only[List.flatten_cons,List.flatten_nil,List.append_nil,o0,o1,List.drop_zero]
 rw[List.take_of_length_le (l:=cs.drop _) (by rw[List.length_drop];omega),List.take_append_drop]
theorem mkV_one {c:SV} {v:Value} (h:c.isOne=true) (hv:v.cells.toList=[v]):mkV c v.cells.toList=v:=by rw[hv];simp[mkV,h]
theorem mkV_agg {c:SV} {v:Value} {cs:Array Value} (h:c.isOne=false) (hv:v= .agg cs):mkV c v.cells.toList=v:=by subst hv;simp[mkV,h,Value.cells]
end
end Go.Sx
namespace Go.Sx
theorem wf_u32 {x:Int} (h:(Lit.int .u32 x).wf=true):0≤x∧x<4294967296:=by
 simp[Lit.wf,IntKind.min,IntKind.max,IntKind.bits,IntKind.signed]at h;omega
theorem wf_u8 {x:Int} (h:(Lit.int .u8 x).wf=true):0≤x∧x<256:=by
 simp[Lit.wf,IntKind.min,IntKind.max,IntKind.bits,IntKind.signed]at h;omega
theorem wf_i64 {x:Int} (h:(Lit.int .i64 x).wf=true): -9223372036854775808≤x∧x<9223372036854775808:=by
 simp[Lit.wf,IntKind.min,IntKind.max,IntKind.bits,IntKind.signed]at h;omega
theorem laid_tail {P:Program} {W:World} {x:String×DataW Unit} {rest:List (String×DataW Unit)} (h:laidMet P (x::rest) W):laidMet P rest W:=by
 obtain⟨n,d⟩:=x
 obtain⟨ps,⟨g,t,cs,fuel,p,q,_,_,_,_,hr,rfl⟩,hn,hb⟩:=h
 exact⟨q,hr,(List.nodup_append.1 hn).2.1,fun b off hm=>hb b off (List.mem_append.2 (.inr hm))⟩
section
variable {α:Type} {p:α→Bool} {l:List α} {d:α}
end
theorem SWx_freezeF {E:Env} (t k:Nat) {c:Code} {K:Post'} {fr:List (Nat×SV)} {hp:List (Nat×Blk)} {ty:TypeId} {n:Nat} {qs:List Rat} (hW:∀b,¬E.W0 b) (ht:lk fr t=some (.slc k 5 0 n)) (hk:find hp k=some ⟨ty,true,.fracs qs⟩)
  (hn:n=qs.length) (hs:SWx E c K ((t,fvec qs)::fr) (setB hp k ⟨ty,true,.dead⟩)):SWx E c K fr hp:=by
 refine SWx_freeze t k (xs:=qs.map .frac) hW ht hk rfl rfl (keylessL_map (fun _=>rfl) qs) (by simp;omega) ?_
 rw[cutL_all (by simp;omega)]
 exact hs
end Go.Sx
namespace Go.Proofs.YtfjhnollamkdcaaGreatDoor
open Go.Sx
set_option linter.unusedSimpArgs false
set_option linter.unusedVariables false
set_option maxRecDepth 100000
set_option maxHeartbeats 4000000
theorem f_Sub (a b:Rat) (h:fs a+fs b≤1073741824):CallOK Tryz.prog 34 [.frac a,.frac b] [] (.frac (a - b)) [] []:=by
 have k1:=c_fNeg b
 have k2:=f_Add a (-b) (by rw[fs_neg];exact h)
 rw[←Rat.sub_eq_add_neg]at k2
 refine callV (Z:=[]) tabOK mixedOK Tryz.func34 rfl (by kernel_rfl) rfl rfl (by kernel_rfl) rfl ?_
 intro W0 w0 ρ0 hE
 conv=>whnf
 (repeat(first|(refine step_i (by kernel_rfl) ?_;conv=>whnf)|(refine g_c (by assumption) ?_;conv=>whnf)));(first|exact Recast.refl _|exact Frz.recast (Recast.refl _) rfl|(refine Frz.one rfl rfl ?_;skip)|(refine Frz.tup ?_;skip))
end Go.Proofs.YtfjhnollamkdcaaGreatDoor
namespace Go.Proofs.YtfjhnollamkdcaaGreatDoor
open Go.Sx
set_option linter.unusedSimpArgs false
set_option linter.unusedVariables false
set_option maxRecDepth 100000
set_option maxHeartbeats 4000000
def fitsF (n:Int):Int:=if n<0 then 1 else if n>2048 then 3 else 0
theorem v_fits (n:Int):CallOK Tryz.prog 220 [.val (.int .i64 n)] [] (.val (.int .i64 (fitsF n))) [] []:=by
 refine callV (Z:=[]) tabOK mixedOK Tryz.func220 rfl (by kernel_rfl) rfl rfl (by kernel_rfl) rfl ?_
 intro W0 w0 ρ0 hE
 conv=>whnf
 unfold fitsF
 by_cases h1:n<0
 ·have t1:decide (n<0)=true:=decide_eq_true h1
  rw[if_pos h1]
  (repeat(first|(refine step_w1 rfl rfl ?_;conv=>whnf)|(rw[t1];conv=>whnf)));(first|exact Recast.refl _|exact Frz.recast (Recast.refl _) rfl|(refine Frz.one rfl rfl ?_;skip)|(refine Frz.tup ?_;skip))
 ·have t1:decide (n<0)=false:=decide_eq_false h1
  rw[if_neg h1]
  by_cases h2:n>2048
  ·have t2:decide (n>2048)=true:=decide_eq_true h2
   rw[if_pos h2]
   (repeat((first|refine step_w1 rfl rfl ?_|refine step_w2 rfl rfl ?_|rw[t1]|rw[t2]);conv=>whnf));(first|exact Recast.refl _|exact Frz.recast (Recast.refl _) rfl|(refine Frz.one rfl rfl ?_;skip)|(refine Frz.tup ?_;skip))
  ·have t2:decide (n>2048)=false:=decide_eq_false h2
   rw[if_neg h2]
   (repeat(first|(refine step_w2 rfl rfl ?_;conv=>whnf)|(rw[t1];conv=>whnf)|(rw[t2];conv=>whnf)));(first|exact Recast.refl _|exact Frz.recast (Recast.refl _) rfl|(refine Frz.one rfl rfl ?_;skip)|(refine Frz.tup ?_;skip))
theorem v_each1 (F:Rat→Rat→Rat) (g:FuncId) (p:Pred) (a b:List Rat) (hab:a.length=b.length) (hl:a.length≤2048)
  (hf:∀i,i<a.length→CallOK Tryz.prog g ([]++([.frac (a.getD i 0),.frac (b.getD i 0)]++[.atom p])) [] (.frac (F (a.getD i 0) (b.getD i 0))) [] []):
  CallOK Tryz.prog 112 [fvec a,fvec b,.clo g [] [.atom p]] [] (.tup [fvec (List.zipWith F a b),.val (.int .i64 0)]) [] []:=by
 have k1:=v_alike [a,b] (by simp) (by simp;omega)
 rw[alike_two,if_neg (by omega),if_pos hab]at k1
 refine callF (Z:=[13]) tabOK mixedOK Tryz.func112 rfl (by kernel_rfl) (by first|rfl|(simp[keylessL,keyless,keylessL_map, *];done)) (by first|rfl|(simp[keylessL,keyless,keylessL_map, *];done)) (by kernel_rfl) rfl ?_
 intro w0 ρ0 hE
 conv=>whnf
 (repeat((first|refine step_w2 rfl rfl ?_|refine And.intro (by first|decide|omega|(simp only[tl0,dlen,List.length_replicate,List.length_set,List.length_map,List.length_zipWith,List.length_take,List.length_append,List.length_cons,List.length_nil];omega)) ?_|refine g_c (by assumption) ?_|rw[bne_self_eq_false]|refine g_o (op_lenM rfl rfl rfl (ev_ok rfl) (tgt rfl) rfl) ?_|rw[Int.toNat_natCast]);conv=>whnf))
 have hz:=zip_len (f:=F) rfl hab.symm
 refine SW_loopN hE (fun k=>k) [0,1,2,6,7,9,22,23] [20] (fun m fr hp=>∃i,m=a.length - i∧i≤a.length∧fr=[(0,fvec a),(1,fvec b),(2,.clo g [] [.atom p]),(6,.val (.slice none 0 0)),(7,.val (.int .i64 0)),(9,.slc 20 5 0 a.length),(22,.val (.int .i64 (a.length:Nat))),(23,.val (.int .i64 (i:Nat)))]∧
  hp=[(20,⟨49,true,.fracs ((List.zipWith F a b).take i++List.replicate (a.length - i) 0)⟩)]) a.length ?_ ?_ ?_
 ·kernel_rfl
 ·exact⟨0,rfl,Nat.zero_le _,rfl,rfl⟩
 rintro m _ _ ⟨i,rfl,hi,rfl,rfl⟩
 conv=>whnf
 have hlen:=fill_len (d:=(0:Rat)) hi hz
 by_cases hlt:i<a.length
 ·have t1:=dlt hlt
  have t2:=winc (i:=i) (by omega)
  have k2:=hf i hlt
  rw[←zip_get (f:=F) (d3:=0) hlt (by omega)]at k2
  (repeat((first|refine step_w1 rfl rfl ?_|refine step_i (by kernel_rfl) ?_|refine And.intro (by first|decide|omega|(simp only[tl0,dlen,List.length_replicate,List.length_set,List.length_map,List.length_zipWith,List.length_take,List.length_append,List.length_cons,List.length_nil];omega)) ?_|refine g_c (by assumption) ?_|refine g_o (op_indexN (α:=Rat) (d:=0) rfl (ev_ok rfl) (ev_ok rfl) (tgt rfl) rfl (tgt rfl) rfl (by omega)) ?_|refine g_o (op_loadA rfl (ev_ok rfl) (tgt rfl) rfl (Nat.succ_ne_zero _) rfl) ?_|rw[t1]|rw[t2]|rw[Int.toNat_natCast]|rw[Nat.zero_add]);conv=>whnf))
  refine⟨a.length - (i+1),fun k=>k,[0,1,2,6,7,9,22,23],[20],by omega,by kernel_rfl,i+1,rfl,hlt,rfl, ?_⟩
  rw[←fill_set (e:=0) hlt hz]
  rfl
 ·have t1:=dge hlt
  have hI:i=a.length:=by omega
  subst hI
  rw[fill_all hz]
  (repeat(first|(refine step_w2 rfl rfl ?_;conv=>whnf)|(rw[t1];conv=>whnf)))
  (first|exact Recast.refl _|exact Frz.recast (Recast.refl _) rfl|(refine Frz.one rfl rfl ?_;skip)|(refine Frz.tup ?_;(repeat(first|exact FrzC.keyless rfl|exact FrzL.nil|refine FrzL.cons ?_ ?_|(refine FrzC.fracs rfl ?_;(first|rfl|omega|(simp<;>fail)|(simp<;>omega)))))))
end Go.Proofs.YtfjhnollamkdcaaGreatDoor
namespace Go.Proofs.YtfjhnollamkdcaaGreatDoor
open Go.Sx
set_option linter.unusedSimpArgs false
set_option linter.unusedVariables false
set_option maxRecDepth 100000
set_option maxHeartbeats 4000000
abbrev vsub (a b:List Rat):List Rat:=List.zipWith (· - ·) a b
abbrev vscale (c:Rat) (a:List Rat):List Rat:=List.zipWith (fun x _=>c*x) a a
theorem v_Scale1 (c x y:Rat) (h:fs c+fs x≤1073741824):CallOK Tryz.prog 113 ([]++([.frac x,.frac y]++[ptrA [.frac c]])) [] (.frac (c*x)) [] []:=by
 have k1:=f_Mul c x h
 refine callV (Z:=[]) tabOK mixedOK Tryz.func113 rfl (by kernel_rfl) rfl rfl (by kernel_rfl) rfl ?_
 intro W0 w0 ρ0 hE
 conv=>whnf
 (repeat(first|(refine g_c (by assumption) ?_;conv=>whnf)|(refine g_o (op_loadA rfl (ev_ok rfl) (tgt rfl) rfl (Nat.succ_ne_zero _) rfl) ?_;conv=>whnf)));(first|exact Recast.refl _|exact Frz.recast (Recast.refl _) rfl|(refine Frz.one rfl rfl ?_;skip)|(refine Frz.tup ?_;skip))
theorem v_Scale (c:Rat) (a:List Rat) (hl:a.length≤2048) (h:∀i,i<a.length→fs c+fs (a.getD i 0)≤1073741824):CallOK Tryz.prog 47 [.frac c,fvec a] [] (.tup [fvec (vscale c a),.val (.int .i64 0)]) [] []:=by
 have k1:=v_each1 (fun x _=>c*x) 113 (ptrP [.frac c]) a a rfl hl (fun i hi=>v_Scale1 _ _ _ (h i hi))
 refine callV (Z:=[2]) tabOK mixedOK Tryz.func47 rfl (by kernel_rfl) rfl rfl (by kernel_rfl) rfl ?_
 intro W0 w0 ρ0 hE
 conv=>whnf
 (repeat(first|(refine g_c (by assumption) ?_;conv=>whnf)|(refine g_o (op_makeFunc rfl rfl rfl) ?_;conv=>whnf)));(first|exact Recast.refl _|exact Frz.recast (Recast.refl _) rfl|(refine Frz.one rfl rfl ?_;skip)|(refine Frz.tup ?_;skip))
theorem v_ZeroM (n:Nat) (hn:n≤2048) (K:Nat):CallOK Tryz.prog 202 [.val (.int .i64 (n:Nat))] [] (.tup [.slc K 5 0 n,.val (.int .i64 0)]) [(K,⟨49,true,.fracs (List.replicate n 0)⟩)] []:=by
 have k1:=v_fits n
 rw[fitsF,if_neg (by omega),if_neg (by omega)]at k1
 refine callK (Z:=[]) tabOK mixedOK Tryz.func202 rfl (by kernel_rfl) (args:=[.val (.int .i64 (n:Nat))]) (fk:=[]) (c:=.tup [.slc 11 5 0 n,.val (.int .i64 0)]) (new:=[(11,⟨49,true,.fracs (List.replicate n 0)⟩)]) (upd:=[]) (ShapeOK.of rfl rfl rfl rfl rfl rfl rfl rfl rfl rfl rfl) rfl (fun _=>K) NamesOK.one ?_
 intro W0 w0 ρ0 hE
 conv=>whnf
 (repeat((first|refine step_w2 rfl rfl ?_|refine And.intro (by first|decide|omega|(simp only[tl0,dlen,List.length_replicate,List.length_set,List.length_map,List.length_zipWith,List.length_take,List.length_append,List.length_cons,List.length_nil];omega)) ?_|refine g_c (by assumption) ?_|rw[Int.toNat_natCast]);conv=>whnf))
 exact⟨Recast.refl _,(fun k b hm=>by simp only[List.mem_singleton,Prod.mk.injEq]at hm;obtain⟨rfl,rfl⟩:=hm;rfl),(fun _ _ h=>by cases h)⟩
end Go.Proofs.YtfjhnollamkdcaaGreatDoor
namespace Go.Proofs.YtfjhnollamkdcaaGreatDoor
open Go.Sx
set_option linter.unusedSimpArgs false
set_option linter.unusedVariables false
set_option maxRecDepth 100000
set_option maxHeartbeats 4000000
abbrev qA:Int×Int→SV:=ag2 (iel .i64) (iel .u32)
def qV (q:Int×Int):Rat:=(q.1:Rat)/((if q.2<1 then 1 else q.2:Int):Rat)
def qOK (q:Int×Int):Prop:=(-9223372036854775808≤q.1∧q.1<9223372036854775808)∧(0≤q.2∧q.2<4294967296)
theorem fs_qV {q:Int×Int} (h:qOK q):fs (qV q)≤130:=by
 have h1:=fs_div (q.1:Rat) ((if q.2<1 then 1 else q.2:Int):Rat)
 have h2:=fs_int h.1.1 h.1.2
 have h3:fs ((if q.2<1 then 1 else q.2:Int):Rat)≤65:=fs_int (by have:=h.2;split<;>omega) (by have:=h.2;split<;>omega)
 unfold qV
 omega
theorem c_QOf (q:Int×Int) (h:qOK q):CallOK Tryz.prog 19 [qA q] [] (.frac (qV q)) [] []:=by
 have hd:(if q.2<1 then 1 else q.2)≠0:=by have:=h.2;split<;>omega
 have e1:(if (1:Int)>q.2 then 1 else q.2)=(if q.2<1 then 1 else q.2):=rfl
 have e2:IntKind.i64.wrap (if (1:Int)>q.2 then 1 else q.2)=(if q.2<1 then 1 else q.2):=wrap_i64 (by have:=h.2;split<;>omega) (by have:=h.2;split<;>omega)
 have g2:=fs_int h.1.1 h.1.2
 have g3:fs ((if q.2<1 then 1 else q.2:Int):Rat)≤65:=fs_int (by have:=h.2;split<;>omega) (by have:=h.2;split<;>omega)
 have k1:=c_fOf natBig q.1 (if q.2<1 then 1 else q.2) (by unfold fs at g2 g3;omega) h.1.1 h.1.2 (by have:=h.2;split<;>omega) (by have:=h.2;split<;>omega) hd
 refine callV (Z:=[]) tabOK mixedOK Tryz.func19 rfl (by kernel_rfl) rfl rfl (by kernel_rfl) rfl ?_
 intro W0 w0 ρ0 hE
 conv=>whnf
 (repeat(first|(refine g_c (by assumption) ?_;conv=>whnf)|(rw[e2];conv=>whnf)));(first|exact Recast.refl _|exact Frz.recast (Recast.refl _) rfl|(refine Frz.one rfl rfl ?_;skip)|(refine Frz.tup ?_;skip))
theorem app_snoc {α:Type} {l:List α} {i:Nat} {d:α} (h:i<l.length):(l.take i).take i++(([l.getD i d]:List α).drop 0).take 1=l.take (i+1):=by
 have e:l.take (i+1)=l.take i++[l.getD i d]:=by rw[List.take_add_one,List.getD_eq_getElem?_getD,List.getElem?_eq_getElem h];rfl
 rw[List.take_take,Nat.min_self,e];rfl
end Go.Proofs.YtfjhnollamkdcaaGreatDoor
namespace Go.Proofs.YtfjhnollamkdcaaGreatDoor
open Go.Sx
set_option linter.unusedSimpArgs false
set_option linter.unusedVariables false
set_option maxRecDepth 100000
set_option maxHeartbeats 4000000
theorem Sm_scale {c:Rat} {a:List Rat} {A C:Nat} (hc:fs c≤C) (ha:Sm A a):Sm (C+A) (vscale c a):=by
 intro i hi
 rw[List.length_zipWith]at hi
 rw[zip_get (d1:=0) (d2:=0) (by omega) (by omega)]
 have h1:=fs_mul c (a.getD i 0)
 have h2:=ha i (by omega)
 omega
abbrev QWf (l:List (Int×Int)):Prop:=l.length≤maxLen∧∀x∈l,((Lit.int .i64 x.1).wf=true)∧((Lit.int .u32 x.2).wf=true)
theorem qOK_of {l:List (Int×Int)} (w:l.length≤maxLen∧∀x∈l,((Lit.int .i64 x.1).wf=true)∧((Lit.int .u32 x.2).wf=true)):∀q∈l,qOK q:=fun q hq=>⟨wf_i64 (w.2 q hq).1,wf_u32 (w.2 q hq).2⟩
theorem qOK_one {q:Int×Int} (w:((Lit.int .i64 q.1).wf=true)∧((Lit.int .u32 q.2).wf=true)):qOK q:=⟨wf_i64 w.1,wf_u32 w.2⟩
theorem Sm_le {A B:Nat} {l:List Rat} (h:A≤B) (ha:Sm A l):Sm B l:=fun i hi=>Nat.le_trans (ha i hi) h
section
variable {a b z:List Rat} {n i:Nat} {c:Rat}
theorem get_sub (ha:a.length=n) (hb:b.length=n) (hi:i<n):(vsub a b).getD i 0=a.getD i 0 - b.getD i 0:=zip_get (by omega) (by omega)
theorem get_scale (ha:a.length=n) (hi:i<n):(vscale c a).getD i 0=c*a.getD i 0:=zip_get (d2:=0) (by omega) (by omega)
theorem get_zero (hi:i<n):(List.replicate n (0:Rat)).getD i 0=0:=by simp[List.getD_eq_getElem?_getD,hi]
end
end Go.Proofs.YtfjhnollamkdcaaGreatDoor
namespace Go.Proofs.YtfjhnollamkdcaaGreatDoor
open Go.Sx
set_option linter.unusedSimpArgs false
set_option linter.unusedVariables false
set_option maxRecDepth 100000
set_option maxHeartbeats 4000000
theorem sum_fs {f:Nat→Rat} {B:Nat}:∀n,(∀i,i<n→fs (f i)≤B)→fs (sumR n f)≤2+n*B
 |0,_=>by rw[sumR,fs_zero];omega
 |n+1,h=>by
  have h1:=sum_fs n (fun i hi=>h i (by omega))
  have h2:=h n (by omega)
  have:=fs_add (sumR n f) (f n)
  rw[sumR,Nat.succ_mul];omega
end Go.Proofs.YtfjhnollamkdcaaGreatDoor
namespace Go.Proofs.YtfjhnollamkdcaaGreatDoor
open Go.Sx
set_option linter.unusedSimpArgs false
set_option linter.unusedVariables false
set_option maxRecDepth 100000
set_option maxHeartbeats 4000000
theorem kvL_len (M:Nat→List Rat) (sp:List Nat) (m k:Nat):(kvL M sp m k).length=m:=kvS_len M sp m k _
section
variable {r c:Nat} {w:Mx} {sp:List Nat} {M:Nat→List Rat}
end
end Go.Proofs.YtfjhnollamkdcaaGreatDoor
namespace Go.Proofs.YtfjhnollamkdcaaGreatDoor
open Go.Sx
set_option linter.unusedSimpArgs false
set_option linter.unusedVariables false
set_option maxRecDepth 100000
set_option maxHeartbeats 4000000
theorem kvS_congr {M N:Nat→List Rat} {sp:List Nat} {m k:Nat}:∀i,(∀j,j<i→(M j).getD k 0=(N j).getD k 0)→kvS M sp m k i=kvS N sp m k i
 |0,_=>rfl
 |i+1,h=>by rw[kvS,kvS,kvS_congr i fun j hj=>h j (by omega),h i (by omega)]
theorem KL_eq {r c:Nat} {W:Mx} {s:St} {a:List Rat} {M:Nat→List Rat} (h:Inv r W c s) (hW:∀i q,i<r→q<c→W i q=el a c i q) (hM:∀j,j<r→∀k,k<c→(M j).getD k 0=s.w j k):(freeF s.piv c).map (kvL M s.piv c)=KL r c a:=by
 obtain⟨h1,h2⟩:=h.pivL hW
 have hl:=h.len
 rw[h1]at hl ⊢
 refine List.map_congr_left fun k hk=> ?_
 obtain⟨hk,_⟩:=mem_free.1 hk
 exact kvS_congr _ fun j hj=>by rw[hM j (by omega) k hk,h2 j k (by omega) hk,rwM_get hk]
section
variable {r c:Nat} {a:List Rat} {i k:Nat}
theorem KL_vlen (hi:i<(KL r c a).length):((KL r c a).getD i []).length=c:=by rw[KL_get hi];exact kvL_len ..
theorem KL_val (hi:i<(KL r c a).length) {q:Nat} (hq:q<c):((KL r c a).getD i []).getD q 0=0∨((KL r c a).getD i []).getD q 0=1∨∃j k,j<r∧k<c∧((KL r c a).getD i []).getD q 0= - RW r c a j k:=by
 rw[KL_get hi]
 rw[KL_len]at hi
 obtain⟨h1,h2⟩:=free_get hi
 have h:=RW_re r c a
 rw[kvL_get h h1 h2 (Nat.le_refl c) (fun j _=>rwM_get h1) hq]
 by_cases hm:q∈pivL r c a
 ·obtain⟨j,hj,rfl⟩:=mem_getDN.1 hm
  exact .inr (.inr ⟨j,_,by have:=h.len;omega,h1,kv_piv h h2 hj⟩)
 ·by_cases e:q=(freeF (pivL r c a) c).getD i 0
  ·subst e;exact .inr (.inl (kv_self h h2))
  ·exact .inl (kv_other hm e)
end
section
variable {r c:Nat} {W:Mx} {s:St} {a b:List Rat} (hi:Inv r W c s) (hW:∀i q,i<r→q<c→W i q=el a c i q) (hb:∀i,i<r→W i c=b.getD i 0)
include hi hW hb
end
end Go.Proofs.YtfjhnollamkdcaaGreatDoor
namespace Go.Proofs.YtfjhnollamkdcaaGreatDoor
open Go.Sx
set_option linter.unusedSimpArgs false
set_option linter.unusedVariables false
set_option maxRecDepth 100000
set_option maxHeartbeats 4000000
theorem Iner.null {n m z p:Nat} {A:Mx} (h:Iner n A m z p) {y:Nat→Rat} (hy:∃i,i<n∧y i≠0) (h0:qf n A y=0):p<n∧m<n:=by
 have hs:=h.sum
 constructor
 ·refine Nat.lt_of_not_le fun g=> ?_
  have:=posK_all ((h.pos n).2 g) hy
  rw[h0]at this
  exact absurd this (by decide)
 ·refine Nat.lt_of_not_le fun g=> ?_
  have:=posK_all ((h.neg n).2 g) hy
  rw[qf_smul,h0]at this
  grind
end Go.Proofs.YtfjhnollamkdcaaGreatDoor
namespace Go.Proofs.YtfjhnollamkdcaaGreatDoor
open Go.Sx
set_option linter.unusedSimpArgs false
set_option linter.unusedVariables false
set_option maxRecDepth 100000
set_option maxHeartbeats 4000000
theorem Iner.ray {n m z p:Nat} {A M:Mx} {x:Nat→Rat} (hM:PosX n M) (hx:∃i,i<n∧x i≠0) (h:Iner n (pcl A M (qf n A x/qf n M x)) m z p):1≤m+z∧1≤z+p:=by
 have h0:=hM x hx
 have:=h.null hx (by
  rw[qf_pcl,Rat.div_def]
  have:qf n M x*(qf n M x)⁻¹=1:=Rat.mul_inv_cancel _ (by grind)
  grind)
 have h2:=h.sum
 omega
theorem ray_ker {n:Nat} {A M:Mx} {x:Nat→Rat} {t:Rat} (hM:PosX n M) (hx:∃i,i<n∧x i≠0) (hk:Ker n n (pcl A M t) x):qf n A x/qf n M x=t:=by
 have h0:=hM x hx
 have h1:qf n (pcl A M t) x=0:=by rw[qf_bf,bf_ker hk]
 rw[qf_pcl]at h1
 rw[Rat.div_def,show qf n A x=t*qf n M x by grind]
 have:qf n M x*(qf n M x)⁻¹=1:=Rat.mul_inv_cancel _ (by grind)
 grind
theorem qf_times (n:Nat) (A:Mx) (c:Rat) (x:Nat→Rat):qf n A (fun i=>c*x i)=c*c*qf n A x:=by
 unfold qf
 rw[←sum_smul]
 refine sum_congr n fun i _=> ?_
 rw[←sum_smul]
 exact sum_congr n fun k _=>by grind
theorem ray_times {n:Nat} {A M:Mx} {c:Rat} {x:Nat→Rat} (hc:c≠0):qf n A (fun i=>c*x i)/qf n M (fun i=>c*x i)=qf n A x/qf n M x:=by
 rw[qf_times,qf_times,Rat.div_def,Rat.div_def,Rat.inv_mul_rev,Rat.inv_mul_rev]
 have:c*c⁻¹=1:=Rat.mul_inv_cancel _ hc
 grind
end Go.Proofs.YtfjhnollamkdcaaGreatDoor
namespace Go.Proofs.YtfjhnollamkdcaaGreatDoor
open Go.Sx
set_option linter.unusedSimpArgs false
set_option linter.unusedVariables false
set_option maxRecDepth 100000
set_option maxHeartbeats 4000000
theorem form_sum {r c:Nat} {a v w:List Rat} (hv:v.length=r):mform r c a v w=sumR r fun i=>sumR c fun k=>v.getD i 0*el a c i k*w.getD k 0:=by
 rw[mform,vdot_sum hv mapply_len]
 exact sum_congr r fun i hi=>by rw[mapply_get hi,sum_mulL];exact sum_congr c fun k _=>by grind
theorem set_el {a:List Rat} {n i k j l:Nat} {q:Rat} (ha:a.length=n*n) (hi:i<n) (hk:k<n) (hj:j<n) (hl:l<n):el (a.set (i*n+k) q) n j l=if i=j∧k=l then q else el a n j l:=by
 have h1:=idx_lt hi hk
 have h2:=idx_lt hj hl
 simp only[el,List.getD_eq_getElem?_getD,List.getElem?_set]
 by_cases e:i*n+k=j*n+l
 ·have e1:=congrArg (·/n) e
  have e2:=congrArg (· % n) e
  simp only[idx_div hk,idx_div hl,idx_mod hk,idx_mod hl]at e1 e2
  subst e1 e2
  simp[ha,h1]
 ·rw[if_neg e,if_neg (by rintro⟨rfl,rfl⟩;exact e rfl)]
theorem SymM_set {a:List Rat} {n i k:Nat} {q:Rat} (ha:a.length=n*n) (h:SymM n a) (hi:i<n) (hk:k<n):SymM n ((a.set (i*n+k) q).set (k*n+i) q):=by
 intro j l hj hl
 have hb:(a.set (i*n+k) q).length=n*n:=by rw[List.length_set,ha]
 rw[set_el hb hk hi hj hl,set_el hb hk hi hl hj,set_el ha hi hk hj hl,set_el ha hi hk hl hj]
 by_cases e1:k=j∧i=l
 ·rw[if_pos e1];split
  ·rfl
  ·rw[if_pos ⟨e1.2,e1.1⟩]
 ·rw[if_neg e1]
  by_cases e2:k=l∧i=j
  ·rw[if_pos e2,if_pos ⟨e2.2,e2.1⟩]
  ·rw[if_neg e2,if_neg (fun h=>e2 ⟨h.2,h.1⟩),if_neg (fun h=>e1 ⟨h.2,h.1⟩)];exact h j l hj hl
theorem Sm_set {a:List Rat} {B p:Nat} {q:Rat} (h:Sm B a) (hq:fs q≤B):Sm B (a.set p q):=by
 intro i hi
 rw[List.length_set]at hi
 rw[List.getD_eq_getElem?_getD,List.getElem?_set]
 by_cases e:p=i
 ·subst e;simp[hi];exact hq
 ·rw[if_neg e,←List.getD_eq_getElem?_getD];exact h i hi
end Go.Proofs.YtfjhnollamkdcaaGreatDoor
namespace Go.Proofs.YtfjhnollamkdcaaGreatDoor
open Go.Sx
set_option linter.unusedSimpArgs false
set_option linter.unusedVariables false
set_option maxRecDepth 100000
set_option maxHeartbeats 4000000
theorem m_all2 {r c s t:Nat} {a b:List Rat} (ha:OKM r c a) (hb:OKM s t b):CallOK Tryz.prog 109 [mvec 3 mB [((r:Int),(c:Int),a),((s:Int),(t:Int),b)]] [] (iv 0) [] []:=by
 have:=m_all [((r:Int),(c:Int),a),((s:Int),(t:Int),b)] (by simp) (by
  intro m hm
  have h1:=ha.small;have h2:=hb.small
  simp only[List.mem_cons,List.not_mem_nil,or_false]at hm
  rcases hm with rfl|rfl
  ·show a.length<_;omega
  ·show b.length<_;omega)
 rwa [allF,if_neg (by rw[check_ok ha.r ha.c ha.n];decide),allF,if_neg (by rw[check_ok hb.r hb.c hb.n];decide),allF]at this
end Go.Proofs.YtfjhnollamkdcaaGreatDoor
namespace Go.Sx
set_option linter.unusedSimpArgs false
set_option linter.unusedVariables false
section
variable {P:Program} {o:Oper} {ft:List (Nat×SV)} {fk:List (Nat×Blk)}
end
end Go.Sx
namespace Go.Proofs.YtfjhnollamkdcaaGreatDoor
open Go.Sx
set_option linter.unusedSimpArgs false
set_option linter.unusedVariables false
set_option maxRecDepth 100000
set_option maxHeartbeats 4000000
theorem m_Make3 {r c:Nat} (hr:r≤2048) (hc:c≤2048) (F:Nat→Nat→Rat) (g:FuncId) (p q s:Pred)
  (hf:∀i k,i<r→k<c→CallOK Tryz.prog g ([]++([iv (i:Nat),iv (k:Nat)]++[.atom p,.atom q,.atom s])) [] (.frac (F i k)) [] []):
  CallOK Tryz.prog 60 [iv r,iv c,.clo g [] [.atom p,.atom q,.atom s]] [] (.tup [mA r c (mk r c F),iv 0]) [] []:=by
 have k1:=m_sides r c
 rw[sides_of (by omega)]at k1
 have hz:(mk r c F).length=r*c:=mk_len ..
 have hrc:r*c≤2048*2048:=Nat.mul_le_mul hr hc
 have t1:IntKind.i64.wrap ((r:Int)*(c:Int))=((r*c:Nat):Int):=by rw[←Int.natCast_mul,wrap_i64 (by omega) (by omega)]
 refine callF (Z:=[]) tabOK mixedOK Tryz.func60 rfl (by kernel_rfl) (by first|rfl|(simp[keylessL,keyless,keylessL_map, *];done)) (by first|rfl|(simp[keylessL,keyless,keylessL_map, *];done)) (by kernel_rfl) rfl ?_
 intro w0 ρ0 hE
 conv=>whnf
 (repeat((first|refine step_w2 rfl rfl ?_|refine step_oA (by first|omega|decide|(simp only[tl0,dlen,List.length_replicate,List.length_set,List.length_map,List.length_zipWith,List.length_take,List.length_append,List.length_cons,List.length_nil];omega)) ?_|refine g_c (by assumption) ?_|rw[bne_self_eq_false]|refine⟨_,op_eqNilF rfl (ev_ok rfl) (ev_ok rfl) Tryz.underlying118, ?_⟩|rw[t1]|rw[Int.toNat_natCast]);conv=>whnf))
 refine SW_loopN hE (fun k=>k) [0,1,2,6,9,30,31] [6,9,25] (fun m fr hp=>∃i:Nat,m=r - i∧i≤r∧fr=[(0,iv r),(1,iv c),(2,.clo g [] [.atom p,.atom q,.atom s]),(6,.ptr 6 0 0 0),(9,.ptr 9 0 0 0),(30,iv r),(31,iv (i:Nat))]∧
  hp=[(6,zM),(9,bM r c 25),(25,fblk ((mk r c F).take (i*c)++List.replicate (r*c - i*c) 0))]) r ?_ ?_ ?_
 ·kernel_rfl
 ·exact⟨0,rfl,Nat.zero_le _,rfl,by rw[Nat.zero_mul,List.take_zero];rfl⟩
 rintro m _ _ ⟨i,rfl,hi,rfl,rfl⟩
 conv=>whnf
 by_cases hlt:i<r
 ·have t2:=dlt hlt
  have t3:=winc (i:=i) (by omega)
  have hic:(i+1)*c≤r*c:=Nat.mul_le_mul_right c hlt
  rw[Nat.succ_mul]at hic
  have hlen:=fill_len (d:=(0:Rat)) (show i*c≤r*c by omega) hz
  have o1:=m_rowM (a:=(mk r c F).take (i*c)++List.replicate (r*c - i*c) 0) ⟨hr,hc,hlen⟩ hlt 25
  (repeat(first|(refine step_w1 rfl rfl ?_;conv=>whnf)|(refine g_c1 (by assumption) rfl ?_;conv=>whnf)|(rw[t2];conv=>whnf)))
  refine SW_loopN hE (fun k=>k) [0,1,2,6,9,10,11,30,31,37,38] [6,9,25] (fun m fr hp=>∃k:Nat,m=c - k∧k≤c∧fr=[(0,iv r),(1,iv c),(2,.clo g [] [.atom p,.atom q,.atom s]),(6,.ptr 6 0 0 0),(9,.ptr 9 0 0 0),(10,iv (i:Nat)),(11,.slc 25 5 (i*c) c),(30,iv r),(31,iv (i:Nat)),(37,iv c),(38,iv (k:Nat))]∧
   hp=[(6,zM),(9,bM r c 25),(25,fblk ((mk r c F).take (i*c+k)++List.replicate (r*c - (i*c+k)) 0))]) c ?_ ?_ ?_
  ·kernel_rfl
  ·exact⟨0,rfl,Nat.zero_le _,rfl,rfl⟩
  rintro m _ _ ⟨k,rfl,hk,rfl,rfl⟩
  conv=>whnf
  by_cases hlk:k<c
  ·have t4:=dlt hlk
   have t5:=winc (i:=k) (by omega)
   have hlen:=fill_len (d:=(0:Rat)) (show i*c+k≤r*c by omega) hz
   have o2:=hf i k hlt hlk
   rw[←mk_el (f:=F) hlt hlk]at o2
   (repeat((first|refine step_w1 rfl rfl ?_|refine step_oL (by first|omega|decide|(simp only[tl0,dlen,List.length_replicate,List.length_set,List.length_map,List.length_zipWith,List.length_take,List.length_append,List.length_cons,List.length_nil];omega)) ?_|refine step_oA (by first|omega|decide|(simp only[tl0,dlen,List.length_replicate,List.length_set,List.length_map,List.length_zipWith,List.length_take,List.length_append,List.length_cons,List.length_nil];omega)) ?_|refine g_c (by assumption) ?_|rw[t4]|rw[t5]|rw[Int.toNat_natCast]);conv=>whnf))
   refine⟨c - (k+1),fun k=>k,[0,1,2,6,9,10,11,30,31,37,38],[6,9,25],by omega,by kernel_rfl,k+1,rfl,hlk,rfl, ?_⟩
   rw[show i*c+(k+1)=i*c+k+1 from rfl,fblk,←fill_set (e:=0) (show i*c+k<r*c by omega) hz]
   rfl
  ·have t4:=dge hlk
   obtain rfl:k=c:=by omega
   (repeat(first|(refine step_w2 rfl rfl ?_;conv=>whnf)|(rw[t4];conv=>whnf)|(rw[t3];conv=>whnf)))
   refine⟨r - (i+1),fun k=>k,[0,1,2,6,9,30,31],[6,9,25],by omega,by kernel_rfl,i+1,rfl,hlt,rfl, ?_⟩
   rw[Nat.succ_mul]
   rfl
 ·have t2:=dge hlt
  obtain rfl:i=r:=by omega
  rw[fill_all hz]
  (repeat(first|(refine step_w2 rfl rfl ?_;conv=>whnf)|(rw[t2];conv=>whnf)))
  (first|exact Recast.refl _|exact Frz.recast (Recast.refl _) rfl|(refine Frz.one rfl rfl ?_;skip)|(refine Frz.tup ?_;(repeat(first|exact FrzC.keyless rfl|exact FrzL.nil|refine FrzL.cons ?_ ?_|(refine FrzC.fracs rfl ?_;(first|rfl|omega|(simp<;>fail)|(simp<;>omega)))|refine FrzC.agg ?_))))
end Go.Proofs.YtfjhnollamkdcaaGreatDoor
namespace Go.Proofs.YtfjhnollamkdcaaGreatDoor
open Go.Sx
set_option linter.unusedSimpArgs false
set_option linter.unusedVariables false
set_option maxRecDepth 100000
set_option maxHeartbeats 4000000
theorem zip_mk {F:Rat→Rat→Rat} {r c:Nat} {a b:List Rat} (ha:a.length=r*c) (hb:b.length=r*c):mk r c (fun i k=>F (el a c i k) (el b c i k))=List.zipWith F a b:=
 mk_ext (zip_len ha hb) fun i k hi hk=>(zip_get (by rw[ha];exact idx_lt hi hk) (by rw[hb];exact idx_lt hi hk)).symm
theorem m_each0 (F:Rat→Rat→Rat) (g:FuncId) {r c:Nat} {a b:List Rat} (ha:OKM r c a) (hb:OKM r c b)
  (hf:∀i k,i<r→k<c→CallOK Tryz.prog g ([]++([.frac (el a c i k),.frac (el b c i k)]++[])) [] (.frac (F (el a c i k) (el b c i k))) [] []):
  CallOK Tryz.prog 98 [mA r c a,mA r c b,.clo g [] []] [] (.tup [mA r c (List.zipWith F a b),iv 0]) [] []:=by
 have k1:=m_all2 ha hb
 have kc:∀i k,i<r→k<c→CallOK Tryz.prog 159 ([]++([iv (i:Nat),iv (k:Nat)]++[ptrA [.clo g [] []],ptrA (mC r c a),ptrA (mC r c b)])) [] (.frac (F (el a c i k) (el b c i k))) [] []:=by
  intro i k hi hk
  have o1:=m_at ha hi hk
  have o2:=m_at hb hi hk
  have o3:=hf i k hi hk
  refine callV (Z:=[]) tabOK mixedOK Tryz.func159 rfl (by kernel_rfl) rfl rfl (by kernel_rfl) rfl ?_
  intro W0 w0 ρ0 hE
  conv=>whnf
  (repeat(first|(refine step_i (by kernel_rfl) ?_;conv=>whnf)|(refine g_c (by assumption) ?_;conv=>whnf)|(refine g_o (op_loadA rfl (ev_ok rfl) (tgt rfl) rfl (Nat.succ_ne_zero _) rfl) ?_;conv=>whnf)));(first|exact Recast.refl _|exact Frz.recast (Recast.refl _) rfl|(refine Frz.one rfl rfl ?_;skip)|(refine Frz.tup ?_;skip))
 have k2:=m_Make3 ha.r ha.c _ 159 (ptrP [.clo g [] []]) (ptrP (mC r c a)) (ptrP (mC r c b)) kc
 rw[zip_mk ha.n hb.n]at k2
 refine callV (Z:=[3,4,5,11]) tabOK mixedOK Tryz.func98 rfl (by kernel_rfl) rfl rfl (by kernel_rfl) rfl ?_
 intro W0 w0 ρ0 hE
 conv=>whnf
 (repeat((first|refine step_w1 rfl rfl ?_|refine step_w2 rfl rfl ?_|refine g_c (by assumption) ?_|refine g_o (op_pickF rfl (ev_ok rfl) (ev_ok rfl)) ?_|rw[bne_self_eq_false]|refine g_o (op_loadA rfl (ev_ok rfl) (tgt rfl) rfl (Nat.succ_ne_zero _) rfl) ?_|refine g_o (op_fieldA rfl (ev_ok rfl) (tgt rfl) rfl rfl (Nat.succ_ne_zero _) rfl) ?_|refine g_o (op_makeFunc rfl rfl rfl) ?_);conv=>whnf));(first|exact Recast.refl _|exact Frz.recast (Recast.refl _) rfl|(refine Frz.one rfl rfl ?_;skip)|(refine Frz.tup ?_;skip))
theorem m_each1 (F:Rat→Rat→Rat) (g:FuncId) (p:Pred) {r c:Nat} {a b:List Rat} (ha:OKM r c a) (hb:OKM r c b)
  (hf:∀i k,i<r→k<c→CallOK Tryz.prog g ([]++([.frac (el a c i k),.frac (el b c i k)]++[.atom p])) [] (.frac (F (el a c i k) (el b c i k))) [] []):
  CallOK Tryz.prog 98 [mA r c a,mA r c b,.clo g [] [.atom p]] [] (.tup [mA r c (List.zipWith F a b),iv 0]) [] []:=by
 have k1:=m_all2 ha hb
 have kc:∀i k,i<r→k<c→CallOK Tryz.prog 159 ([]++([iv (i:Nat),iv (k:Nat)]++[ptrA [.clo g [] [.atom p]],ptrA (mC r c a),ptrA (mC r c b)])) [] (.frac (F (el a c i k) (el b c i k))) [] []:=by
  intro i k hi hk
  have o1:=m_at ha hi hk
  have o2:=m_at hb hi hk
  have o3:=hf i k hi hk
  refine callV (Z:=[]) tabOK mixedOK Tryz.func159 rfl (by kernel_rfl) rfl rfl (by kernel_rfl) rfl ?_
  intro W0 w0 ρ0 hE
  conv=>whnf
  (repeat(first|(refine step_i (by kernel_rfl) ?_;conv=>whnf)|(refine g_c (by assumption) ?_;conv=>whnf)|(refine g_o (op_loadA rfl (ev_ok rfl) (tgt rfl) rfl (Nat.succ_ne_zero _) rfl) ?_;conv=>whnf)));(first|exact Recast.refl _|exact Frz.recast (Recast.refl _) rfl|(refine Frz.one rfl rfl ?_;skip)|(refine Frz.tup ?_;skip))
 have k2:=m_Make3 ha.r ha.c _ 159 (ptrP [.clo g [] [.atom p]]) (ptrP (mC r c a)) (ptrP (mC r c b)) kc
 rw[zip_mk ha.n hb.n]at k2
 refine callV (Z:=[3,4,5,11]) tabOK mixedOK Tryz.func98 rfl (by kernel_rfl) rfl rfl (by kernel_rfl) rfl ?_
 intro W0 w0 ρ0 hE
 conv=>whnf
 (repeat((first|refine step_w1 rfl rfl ?_|refine step_w2 rfl rfl ?_|refine g_c (by assumption) ?_|refine g_o (op_pickF rfl (ev_ok rfl) (ev_ok rfl)) ?_|rw[bne_self_eq_false]|refine g_o (op_loadA rfl (ev_ok rfl) (tgt rfl) rfl (Nat.succ_ne_zero _) rfl) ?_|refine g_o (op_fieldA rfl (ev_ok rfl) (tgt rfl) rfl rfl (Nat.succ_ne_zero _) rfl) ?_|refine g_o (op_makeFunc rfl rfl rfl) ?_);conv=>whnf));(first|exact Recast.refl _|exact Frz.recast (Recast.refl _) rfl|(refine Frz.one rfl rfl ?_;skip)|(refine Frz.tup ?_;skip))
theorem el_add {r c A B:Nat} {a b:List Rat} (sa:Sm A a) (sb:Sm B b) (ha:OKM r c a) (hb:OKM r c b) {i k:Nat} (hi:i<r) (hk:k<c):fs (el a c i k)+fs (el b c i k)≤A+B:=
 Nat.add_le_add (el_sm sa ha.n hi hk) (el_sm sb hb.n hi hk)
theorem m_Sub {r c A B:Nat} {a b:List Rat} (ha:OKM r c a) (hb:OKM r c b) (sa:Sm A a) (sb:Sm B b) (h:A+B≤1073741824):CallOK Tryz.prog 42 [mA r c a,mA r c b] [] (.tup [mA r c (vsub a b),iv 0]) [] []:=by
 have k1:=m_each0 (· - ·) 34 ha hb (fun i k hi hk=>f_Sub _ _ (Nat.le_trans (el_add sa sb ha hb hi hk) h))
 refine callV (Z:=[]) tabOK mixedOK Tryz.func42 rfl (by kernel_rfl) rfl rfl (by kernel_rfl) rfl ?_
 intro W0 w0 ρ0 hE
 conv=>whnf
 (repeat(first|(refine g_c (by assumption) ?_;conv=>whnf)));(first|exact Recast.refl _|exact Frz.recast (Recast.refl _) rfl|(refine Frz.one rfl rfl ?_;skip)|(refine Frz.tup ?_;skip))
theorem m_Scale1 (c x y:Rat) (h:fs c+fs x≤1073741824):CallOK Tryz.prog 99 ([]++([.frac x,.frac y]++[ptrA [.frac c]])) [] (.frac (c*x)) [] []:=by
 have k1:=f_Mul c x h
 refine callV (Z:=[]) tabOK mixedOK Tryz.func99 rfl (by kernel_rfl) rfl rfl (by kernel_rfl) rfl ?_
 intro W0 w0 ρ0 hE
 conv=>whnf
 (repeat(first|(refine g_c (by assumption) ?_;conv=>whnf)|(refine g_o (op_loadA rfl (ev_ok rfl) (tgt rfl) rfl (Nat.succ_ne_zero _) rfl) ?_;conv=>whnf)));(first|exact Recast.refl _|exact Frz.recast (Recast.refl _) rfl|(refine Frz.one rfl rfl ?_;skip)|(refine Frz.tup ?_;skip))
theorem m_Scale {r c A C:Nat} {q:Rat} {a:List Rat} (ha:OKM r c a) (hq:fs q≤C) (sa:Sm A a) (h:C+A≤1073741824):CallOK Tryz.prog 39 [.frac q,mA r c a] [] (.tup [mA r c (vscale q a),iv 0]) [] []:=by
 have k1:=m_each1 (fun x _=>q*x) 99 (ptrP [.frac q]) ha ha (fun i k hi hk=>m_Scale1 _ _ _ (by have:=el_sm sa ha.n hi hk;omega))
 refine callV (Z:=[2]) tabOK mixedOK Tryz.func39 rfl (by kernel_rfl) rfl rfl (by kernel_rfl) rfl ?_
 intro W0 w0 ρ0 hE
 conv=>whnf
 (repeat(first|(refine g_c (by assumption) ?_;conv=>whnf)|(refine g_o (op_makeFunc rfl rfl rfl) ?_;conv=>whnf)));(first|exact Recast.refl _|exact Frz.recast (Recast.refl _) rfl|(refine Frz.one rfl rfl ?_;skip)|(refine Frz.tup ?_;skip))
end Go.Proofs.YtfjhnollamkdcaaGreatDoor
namespace Go.Sx
set_option linter.unusedSimpArgs false
set_option linter.unusedVariables false
def ag3 {α β γ:Type} (f:α→SV) (g:β→SV) (h:γ→SV) (p:α×β×γ):SV:=.agg [f p.1,g p.2.1,h p.2.2]
end Go.Sx
namespace Go.Proofs.YtfjhnollamkdcaaGreatDoor
open Go.Sx
set_option linter.unusedSimpArgs false
set_option linter.unusedVariables false
set_option maxRecDepth 100000
set_option maxHeartbeats 4000000
abbrev MM:=Int×Int×List (Int×Int)
abbrev mQ:MM→SV:=ag3 (iel .u8) (iel .u8) (mvec 2 qA)
def mOK (m:MM):Prop:=(0≤m.1∧m.1<256)∧(0≤m.2.1∧m.2.1<256)∧m.2.2.length≤maxLen∧∀q∈m.2.2,qOK q
def eQ (l:List (Int×Int)) (p:Nat):Rat:=qV (l.getD p (0,0))
def someL (l:List (Int×Int)) (n:Nat):List Rat:=(List.range n).map (eQ l)
theorem someL_len (l:List (Int×Int)) (n:Nat):(someL l n).length=n:=by simp[someL]
theorem someL_get {l:List (Int×Int)} {n p:Nat} (h:p<n):(someL l n).getD p 0=eQ l p:=by simp[someL,List.getD_eq_getElem?_getD,h]
theorem qOK_at {l:List (Int×Int)} (h:∀q∈l,qOK q) (p:Nat):qOK (l.getD p (0,0)):=by
 by_cases hp:p<l.length
 ·exact h _ (getD_mem hp)
 ·rw[List.getD_eq_getElem?_getD,List.getElem?_eq_none (by omega)];exact⟨⟨by decide,by decide⟩,by decide,by decide⟩
theorem Sm_some {l:List (Int×Int)} (h:∀q∈l,qOK q) (n:Nat):Sm 130 (someL l n):=by
 intro p hp
 rw[someL_len]at hp
 rw[someL_get hp];exact fs_qV (qOK_at h p)
theorem wrap_u8 {n:Int} (h0:0≤n) (h:n<256):IntKind.u8.wrap n=n:=by
 simp[IntKind.wrap,IntKind.bits,IntKind.signed];omega
theorem app_one {α:Type} {l:List α} {i:Nat} {d:α} (h:i<l.length):l.take (i+1)=(l.take i).take i++(([l.getD i d]:List α).drop 0).take 1:=(app_snoc h).symm
theorem c_Some (m:MM) (hm:mOK m) {r c:Nat} (hr:r≤12) (hc:c≤12):CallOK Tryz.prog 22 [mQ m,iv r,iv c] [] (mA r c (someL m.2.2 (r*c))) [] []:=by
 obtain⟨A,B,l⟩:=m
 obtain⟨_,_,hl,hq⟩:=hm
 replace hl:l.length≤maxLen:=hl
 have hz:=someL_len l (r*c)
 have hN:r*c≤12*12:=Nat.mul_le_mul hr hc
 have t0:IntKind.i64.wrap ((r:Int)*(c:Int))=((r*c:Nat):Int):=by rw[←Int.natCast_mul,wrap_i64 (by omega) (by omega)]
 generalize r*c=N at*
 refine callF (Z:=[3]) tabOK mixedOK Tryz.func22 rfl (by kernel_rfl) (by first|rfl|(simp[keylessL,keyless,keylessL_map, *];done)) (by first|rfl|(simp[keylessL,keyless,keylessL_map, *];done)) (by kernel_rfl) rfl ?_
 intro w0 ρ0 hE
 conv=>whnf
 skip
 refine SWx_adoptB (j:=7) (k:=2001) (s:=5) (p:=2) (blk:=fblk []) rfl rfl rfl rfl rfl ?_
 refine SW_loopS hE (fun k=>k) [1,2,3,6,7,8] [6,7,2001] (fun m fr hp=>∃i:Nat,m=N - i∧i≤N∧fr=[(1,iv r),(2,iv c),(3,ptrA [iel .u8 A,iel .u8 B,mvec 2 qA l]),(6,.ptr 6 0 0 0),(7,.ptr 7 0 0 0),(8,iv (i:Nat))]∧
  hp=[(6,zM),(7,⟨30,true,.one [iv r,iv c,.slc 2001 5 0 i]⟩),(2001,fblk ((someL l N).take i))]) N ?_ ?_ ?_
 ·kernel_rfl
 ·exact⟨0,rfl,Nat.zero_le _,rfl,rfl⟩
 rintro m _ _ ⟨i,rfl,hi,rfl,rfl⟩
 have hlt0:((someL l N).take i).length=i:=by rw[List.length_take];omega
 by_cases hlt:i<N
 ·have t1:=dlt hlt
  have t2:=winc (i:=i) (by omega)
  have o1:=c_QOf (l.getD i (0,0)) (qOK_at hq i)
  rw[show qV (l.getD i (0,0))=(someL l N).getD i 0 from(someL_get hlt).symm]at o1
  have e1:=app_one (d:=(0:Rat)) (show i<(someL l N).length by omega)
  refine SWx.of hE ?_
  conv=>whnf
  by_cases hil:i<l.length
  ·have t3:=dlt hil
   (repeat((first|refine step_w1 rfl rfl ?_|refine step_i (by kernel_rfl) ?_|refine step_oA (by first|omega|decide|(simp only[tl0,dlen,List.length_replicate,List.length_set,List.length_map,List.length_zipWith,List.length_take,List.length_append,List.length_cons,List.length_nil];omega)) ?_|refine g_c (by assumption) ?_|refine g_o (op_lenM rfl rfl rfl (ev_ok rfl) (tgt rfl) rfl) ?_|refine g_o (op_loadA rfl (ev_ok rfl) (tgt rfl) rfl (Nat.succ_ne_zero _) rfl) ?_|refine g_o (op_indexN (α:=Int×Int) (d:=(0,0)) rfl (ev_ok rfl) (ev_ok rfl) (tgt rfl) rfl (tgt rfl) rfl (by omega)) ?_|refine g_o (op_fieldA rfl (ev_ok rfl) (tgt rfl) rfl rfl (Nat.succ_ne_zero _) rfl) ?_|rw[t0]|rw[t1]|rw[t3]|rw[t2]|rw[Nat.zero_add]);conv=>whnf))
   refine⟨N - (i+1),renBy [(36,2001)],[1,2,3,6,7,8],[6,7,36],by omega,by kernel_rfl,i+1,rfl,hlt,rfl, ?_⟩
   rw[e1];rfl
  ·have t3:=dge hil
   rw[show l.getD i (0,0)=(0,0)from by rw[List.getD_eq_getElem?_getD,List.getElem?_eq_none (by omega)];rfl]at o1
   (repeat((first|refine step_w1 rfl rfl ?_|refine step_w2 rfl rfl ?_|refine step_i (by kernel_rfl) ?_|refine step_oA (by first|omega|decide|(simp only[tl0,dlen,List.length_replicate,List.length_set,List.length_map,List.length_zipWith,List.length_take,List.length_append,List.length_cons,List.length_nil];omega)) ?_|refine g_c (by assumption) ?_|refine g_o (op_lenM rfl rfl rfl (ev_ok rfl) (tgt rfl) rfl) ?_|refine g_o (op_loadA rfl (ev_ok rfl) (tgt rfl) rfl (Nat.succ_ne_zero _) rfl) ?_|refine g_o (op_fieldA rfl (ev_ok rfl) (tgt rfl) rfl rfl (Nat.succ_ne_zero _) rfl) ?_|rw[t0]|rw[t1]|rw[t3]|rw[t2]|rw[Nat.zero_add]);conv=>whnf))
   refine⟨N - (i+1),renBy [(36,2001)],[1,2,3,6,7,8],[6,7,36],by omega,by kernel_rfl,i+1,rfl,hlt,rfl, ?_⟩
   rw[e1];rfl
 ·have t1:=dge hlt
  obtain rfl:i=N:=by omega
  rw[List.take_of_length_le (by omega)]
  refine SWx.of hE ?_
  conv=>whnf
  (repeat(first|(refine step_w2 rfl rfl ?_;conv=>whnf)|(rw[t0];conv=>whnf)|(rw[t1];conv=>whnf)))
  (first|exact Recast.refl _|exact Frz.recast (Recast.refl _) rfl|(refine Frz.one rfl rfl ?_;(repeat(first|exact FrzC.keyless rfl|exact FrzL.nil|refine FrzL.cons ?_ ?_|(refine FrzC.fracs rfl ?_;(first|rfl|omega|(simp<;>fail)|(simp<;>omega)))|refine FrzC.agg ?_)))|(refine Frz.tup ?_;skip))
theorem someL_zero {l:List (Int×Int)} {n i:Nat} (h:l.length≤i):someL l n=(someL l n).take i++List.replicate (n - i) 0:=by
 apply List.ext_getElem
 ·rw[List.length_append,List.length_take,someL_len,List.length_replicate];omega
 ·intro j h1 h2
  rw[someL_len]at h1
  rw[List.getElem_append]
  split
  ·simp
  ·rename_i h3
   rw[List.length_take,someL_len]at h3
   simp only[List.getElem_replicate,someL,List.getElem_map,List.getElem_range,eQ]
   rw[List.getD_eq_getElem?_getD,List.getElem?_eq_none (by omega)];decide+kernel
end Go.Proofs.YtfjhnollamkdcaaGreatDoor
namespace Go.Proofs.YtfjhnollamkdcaaGreatDoor
open Go.Sx
set_option linter.unusedSimpArgs false
set_option linter.unusedVariables false
set_option maxRecDepth 100000
set_option maxHeartbeats 8000000
theorem OKM_zip {F:Rat→Rat→Rat} {r c:Nat} {a b:List Rat} (ha:OKM r c a) (hb:OKM r c b):OKM r c (List.zipWith F a b):=⟨ha.r,ha.c,zip_len ha.n hb.n⟩
end Go.Proofs.YtfjhnollamkdcaaGreatDoor
namespace Go.Proofs.YtfjhnollamkdcaaGreatDoor
open Go.Sx
set_option linter.unusedSimpArgs false
set_option linter.unusedVariables false
set_option maxRecDepth 100000
set_option maxHeartbeats 8000000
theorem u8_mod (x:Int) (h:0≤x∧x<256) (m:Int) (hm:0<m∧m<256):IntKind.u8.wrap (x.tmod m)=x.tmod m∧IntKind.i64.wrap (x.tmod m)=((x % m).toNat:Nat):=by
 have h1:=Int.emod_nonneg x (show m≠0 by omega)
 have h2:=Int.emod_lt_of_pos x hm.1
 rw[Int.tmod_eq_emod_of_nonneg h.1]
 constructor
 ·exact wrap_u8 h1 (by omega)
 ·rw[wrap_i64 (by omega) (by omega)];omega
end Go.Proofs.YtfjhnollamkdcaaGreatDoor
namespace Go.Proofs.YtfjhnollamkdcaaGreatDoor
open Go.Sx
set_option linter.unusedSimpArgs false
set_option linter.unusedVariables false
set_option maxRecDepth 100000
set_option maxHeartbeats 8000000
def symK (l:List (Int×Int)) (n i:Nat):Nat→Nat→List Rat→List Rat
 |0,_,a=>a
 |m+1,t,a=>symK l n i m (t+1) (if t<l.length then(a.set (i*n+(n - (m+1))) (qV (l.getD t (0,0)))).set ((n - (m+1))*n+i) (qV (l.getD t (0,0)))else a)
def symO (l:List (Int×Int)) (n:Nat):Nat→Nat→List Rat→List Rat
 |0,_,a=>a
 |m+1,t,a=>symO l n m (t+(m+1)) (symK l n (n - (m+1)) (m+1) t a)
def symL (l:List (Int×Int)) (n:Nat):List Rat:=symO l n n 0 (List.replicate (n*n) 0)
def SymOK (n:Nat) (a:List Rat):Prop:=a.length=n*n∧SymM n a∧Sm 130 a
theorem symK_ok {l:List (Int×Int)} {n i:Nat} (hq:∀q∈l,qOK q) (hi:i<n):∀m t a,m≤n→SymOK n a→SymOK n (symK l n i m t a)
 |0,_,a,_,h=>h
 |m+1,t,a,hm,h=>by
  rw[symK]
  refine symK_ok hq hi m (t+1) _ (by omega) ?_
  by_cases ht:t<l.length
  ·rw[if_pos ht]
   obtain⟨h1,h2,h3⟩:=h
   have fq:fs (qV (l.getD t (0,0)))≤130:=fs_qV (qOK_at hq t)
   exact⟨by rw[List.length_set,List.length_set,h1],SymM_set h1 h2 hi (by omega),Sm_set (Sm_set h3 fq) fq⟩
  ·rw[if_neg ht];exact h
theorem symO_ok {l:List (Int×Int)} {n:Nat} (hq:∀q∈l,qOK q):∀m t a,m≤n→SymOK n a→SymOK n (symO l n m t a)
 |0,_,a,_,h=>h
 |m+1,t,a,hm,h=>by
  rw[symO]
  exact symO_ok hq m _ _ (by omega) (symK_ok hq (by omega) (m+1) t a hm h)
theorem symL_ok {l:List (Int×Int)} (n:Nat) (hq:∀q∈l,qOK q):SymOK n (symL l n):=
 symO_ok hq n 0 _ (Nat.le_refl _) ⟨by simp,(fun i k hi hk=>by rw[el,el,get_zero (idx_lt hi hk),get_zero (idx_lt hk hi)]),Sm_le (by decide) (Sm_zero _)⟩
theorem c_Symm (l:List (Int×Int)) (hl:l.length≤maxLen) (hq:∀q∈l,qOK q) {n:Nat} (hn:n≤12):CallOK Tryz.prog 56 [iv n,mvec 2 qA l] [] (mA n n (symL l n)) [] []:=by
 have hnn:n*n≤12*12:=Nat.mul_le_mul hn hn
 have t0:IntKind.i64.wrap ((n:Int)*(n:Int))=((n*n:Nat):Int):=by rw[←Int.natCast_mul,wrap_i64 (by omega) (by omega)]
 have hlen:=(symL_ok n hq).1
 refine callF (Z:=[]) tabOK mixedOK Tryz.func56 rfl (by kernel_rfl) (by first|rfl|(simp[keylessL,keyless,keylessL_map, *];done)) (by first|rfl|(simp[keylessL,keyless,keylessL_map, *];done)) (by kernel_rfl) rfl ?_
 intro w0 ρ0 hE
 conv=>whnf
 (repeat(first|(refine And.intro (by first|decide|omega|(simp only[tl0,dlen,List.length_replicate,List.length_set,List.length_map,List.length_zipWith,List.length_take,List.length_append,List.length_cons,List.length_nil];omega)) ?_;conv=>whnf)|(rw[t0];conv=>whnf)|(rw[Int.toNat_natCast];conv=>whnf)))
 refine SW_loopN hE (fun k=>k) [0,1,4,5,6,7] [4,5,14] (fun m fr hp=>∃(i t:Nat) (a:List Rat),m=n - i∧i≤n∧t≤i*12∧a.length=n*n∧symO l n (n - i) t a=symL l n∧
  fr=[(0,iv n),(1,mvec 2 qA l),(4,.ptr 4 0 0 0),(5,.ptr 5 0 0 0),(6,iv (t:Nat)),(7,iv (i:Nat))]∧hp=[(4,zM),(5,bM n n 14),(14,fblk a)]) n ?_ ?_ ?_
 ·kernel_rfl
 ·exact⟨0,0,_,rfl,Nat.zero_le _,Nat.zero_le _,by simp,rfl,rfl,rfl⟩
 rintro m _ _ ⟨i,t,a,rfl,hi,ht,ha,hS,rfl,rfl⟩
 conv=>whnf
 by_cases hlt:i<n
 ·have t1:=dlt hlt
  have t2:=winc (i:=i) (by omega)
  have e1:n - i=(n - (i+1))+1:=by omega
  have e2:n - ((n - (i+1))+1)=i:=by omega
  rw[e1,symO,e2,←e1]at hS
  (repeat(first|(refine step_w1 rfl rfl ?_;conv=>whnf)|(rw[t1];conv=>whnf)))
  refine SW_loopN hE (fun k=>k) [0,1,4,5,6,7,8] [4,5,14] (fun m fr hp=>∃(k t:Nat) (a:List Rat),m=n - k∧i≤k∧k≤n∧t≤i*12+k∧a.length=n*n∧symO l n (n - (i+1)) (t+(n - k)) (symK l n i (n - k) t a)=symL l n∧
   fr=[(0,iv n),(1,mvec 2 qA l),(4,.ptr 4 0 0 0),(5,.ptr 5 0 0 0),(6,iv (t:Nat)),(7,iv (i:Nat)),(8,iv (k:Nat))]∧hp=[(4,zM),(5,bM n n 14),(14,fblk a)]) (n - i) ?_ ?_ ?_
  ·kernel_rfl
  ·exact⟨i,t,a,rfl,Nat.le_refl _,hi,by omega,ha,hS,rfl,rfl⟩
  clear hS ht ha
  rintro m _ _ ⟨k,t,a,rfl,hik,hk,ht,ha,hS,rfl,rfl⟩
  conv=>whnf
  by_cases hlk:k<n
  ·have t3:=dlt hlk
   have t4:=winc (i:=k) (by omega)
   have t5:=winc (i:=t) (by omega)
   have e3:n - k=(n - (k+1))+1:=by omega
   have e4:n - ((n - (k+1))+1)=k:=by omega
   have e5:t+(n - k)=t+1+(n - (k+1)):=by omega
   rw[e5,e3,symK,e4]at hS
   by_cases htl:t<l.length
   ·have t6:=dlt htl
    have o1:=c_QOf (l.getD t (0,0)) (qOK_at hq t)
    rw[if_pos htl]at hS
    obtain⟨w1,w2⟩:=idx_w (i:=i) (k:=k) (c:=n) (by omega) (by omega) (by omega)
    obtain⟨w3,w4⟩:=idx_w (i:=k) (k:=i) (c:=n) (by omega) (by omega) (by omega)
    have b1:=idx_lt hlt hlk
    have b2:=idx_lt hlk hlt
    (repeat((first|refine step_w1 rfl rfl ?_|refine step_i (by kernel_rfl) ?_|refine And.intro (by first|decide|omega|(simp only[tl0,dlen,List.length_replicate,List.length_set,List.length_map,List.length_zipWith,List.length_take,List.length_append,List.length_cons,List.length_nil];omega)) ?_|refine g_c (by assumption) ?_|refine g_o (op_lenM rfl rfl rfl (ev_ok rfl) (tgt rfl) rfl) ?_|refine g_o (op_loadA rfl (ev_ok rfl) (tgt rfl) rfl (Nat.succ_ne_zero _) rfl) ?_|refine g_o (op_indexN (α:=Int×Int) (d:=(0,0)) rfl (ev_ok rfl) (ev_ok rfl) (tgt rfl) rfl (tgt rfl) rfl (by omega)) ?_|rw[t3]|rw[t6]|rw[w1]|rw[w2]|rw[w3]|rw[w4]|rw[t5]|rw[t4]|rw[Int.toNat_natCast]|rw[Nat.zero_add]);conv=>whnf))
    refine⟨n - (k+1),fun k=>k,[0,1,4,5,6,7,8],[4,5,14],by omega,by kernel_rfl,k+1,t+1,_,rfl,by omega,hlk,by omega, ?_,hS,rfl,rfl⟩
    rw[List.length_set,List.length_set,ha]
   ·have t6:=dge htl
    rw[if_neg htl]at hS
    (repeat((first|refine step_w1 rfl rfl ?_|refine step_w2 rfl rfl ?_|refine g_o (op_lenM rfl rfl rfl (ev_ok rfl) (tgt rfl) rfl) ?_|rw[t3]|rw[t6]|rw[t5]|rw[t4]);conv=>whnf))
    exact⟨n - (k+1),fun k=>k,[0,1,4,5,6,7,8],[4,5,14],by omega,by kernel_rfl,k+1,t+1,a,rfl,by omega,hlk,by omega,ha,hS,rfl,rfl⟩
  ·have t3:=dge hlk
   obtain rfl:k=n:=by omega
   rw[Nat.sub_self,symK]at hS
   (repeat(first|(refine step_w2 rfl rfl ?_;conv=>whnf)|(rw[t3];conv=>whnf)|(rw[t2];conv=>whnf)))
   exact⟨k - (i+1),fun k=>k,[0,1,4,5,6,7],[4,5,14],by omega,by kernel_rfl,i+1,t,a,rfl,hlt,by omega,ha,hS,rfl,rfl⟩
 ·have t1:=dge hlt
  obtain rfl:i=n:=by omega
  rw[Nat.sub_self,symO]at hS
  subst hS
  (repeat(first|(refine step_w2 rfl rfl ?_;conv=>whnf)|(rw[t1];conv=>whnf)))
  (first|exact Recast.refl _|exact Frz.recast (Recast.refl _) rfl|(refine Frz.one rfl rfl ?_;(repeat(first|exact FrzC.keyless rfl|exact FrzL.nil|refine FrzL.cons ?_ ?_|(refine FrzC.fracs rfl ?_;(first|rfl|omega|(simp<;>fail)|(simp<;>omega)))|refine FrzC.agg ?_)))|(refine Frz.tup ?_;skip))
end Go.Proofs.YtfjhnollamkdcaaGreatDoor
namespace Go.Proofs.YtfjhnollamkdcaaGreatDoor
open Go.Sx
set_option linter.unusedSimpArgs false
set_option linter.unusedVariables false
set_option maxRecDepth 100000
set_option maxHeartbeats 8000000
def plusL (l:List (Int×Int)) (n:Nat):List Rat:=mk n n fun i k=>delta i k+sumR n fun p=>eQ l (p*n+i)*eQ l (p*n+k)
theorem plus_el {l:List (Int×Int)} {n i k:Nat} (hi:i<n) (hk:k<n):el (plusL l n) n i k=delta i k+sumR n fun p=>eQ l (p*n+i)*eQ l (p*n+k):=mk_el hi hk
theorem plus_sym (l:List (Int×Int)) (n:Nat):SymM n (plusL l n):=fun i k hi hk=>by
 rw[plus_el hi hk,plus_el hk hi]
 congr 1
 ·unfold delta
  by_cases e:i=k
  ·rw[if_pos e,if_pos e.symm]
  ·rw[if_neg e,if_neg (Ne.symm e)]
 ·exact sum_congr n fun p _=>Rat.mul_comm ..
theorem qf_delta (n:Nat) (x:Nat→Rat):qf n delta x=sumR n fun i=>x i*x i:=sum_congr n fun i hi=>by
 rw[sum_one (j:=i) n hi fun k _ hne=>by unfold delta;rw[if_neg (Ne.symm hne)];grind]
 unfold delta;rw[if_pos rfl];grind
theorem qf_gram (n:Nat) (b:Mx) (x:Nat→Rat):qf n (fun i k=>sumR n fun p=>b p i*b p k) x=sumR n fun p=>(sumR n fun i=>b p i*x i)*sumR n fun i=>b p i*x i:=by
 unfold qf
 rw[sum_congr n (g:=fun i=>sumR n fun p=>x i*(b p i*sumR n fun k=>b p k*x k)) fun i _=>by
  rw[sum_congr n (g:=fun k=>sumR n fun p=>x i*(b p i*(b p k*x k))) fun k _=>by
   rw[sum_mulL,sum_mulR];exact sum_congr n fun p _=>by grind]
  rw[sum_swap]
  exact sum_congr n fun p _=>by rw[sum_mulL,sum_mulL]]
 rw[sum_swap]
 refine sum_congr n fun p _=> ?_
 rw[sum_mulR]
 exact sum_congr n fun i _=>by grind
theorem plus_qf (l:List (Int×Int)) (n:Nat) (x:Nat→Rat):qf n (el (plusL l n) n) x=sumR n (fun i=>x i*x i)+sumR n fun p=>(sumR n fun i=>eQ l (p*n+i)*x i)*sumR n fun i=>eQ l (p*n+i)*x i:=by
 rw[qf_congrA (B:=fun i k=>delta i k+sumR n fun p=>eQ l (p*n+i)*eQ l (p*n+k)) fun i k hi hk=>plus_el hi hk,qf_add,qf_delta,qf_gram n fun p i=>eQ l (p*n+i)]
theorem plus_one (l:List (Int×Int)) (n:Nat) (x:Nat→Rat):sumR n (fun i=>x i*x i)≤qf n (el (plusL l n) n) x:=by
 rw[plus_qf]
 have:=sum_nn (n:=n) (f:=fun p=>(sumR n fun i=>eQ l (p*n+i)*x i)*sumR n fun i=>eQ l (p*n+i)*x i) fun p _=>sq_nn _
 grind
theorem plus_pos (l:List (Int×Int)) (n:Nat):PosX n (el (plusL l n) n):=fun x ⟨i,hi,hx⟩=>by
 have h1:=plus_one l n x
 have h2:=sum_pos (n:=n) (f:=fun i=>x i*x i) (fun i _=>sq_nn _) ⟨i,hi,sq_pos hx⟩
 grind
theorem plus_sm {l:List (Int×Int)} {n:Nat} (hq:∀q∈l,qOK q) (hn:n≤5):Sm 1304 (plusL l n):=Sm_mk fun i k _ _=>by
 have h1:=sum_fs (f:=fun p=>eQ l (p*n+i)*eQ l (p*n+k)) (B:=260) n fun p _=>by
  have g1:=fs_qV (qOK_at hq (p*n+i))
  have g2:=fs_qV (qOK_at hq (p*n+k))
  have g3:=fs_mul (eQ l (p*n+i)) (eQ l (p*n+k))
  unfold eQ at g3 ⊢
  omega
 have h2:=fs_add (delta i k) (sumR n fun p=>eQ l (p*n+i)*eQ l (p*n+k))
 have h3:fs (delta i k)≤2:=by unfold delta;split<;>decide+kernel
 omega
end Go.Proofs.YtfjhnollamkdcaaGreatDoor
namespace Go.Proofs.YtfjhnollamkdcaaGreatDoor
open Go.Sx
set_option linter.unusedSimpArgs false
set_option linter.unusedVariables false
set_option maxRecDepth 100000
set_option maxHeartbeats 40000000
theorem dlt_eq {i k:Nat}:(((i:Nat):Int)==((k:Nat):Int))=decide (i=k):=by
 by_cases e:i=k
 ·subst e;rw[decide_eq_true rfl];exact beq_self_eq_true _
 ·rw[decide_eq_false e];exact beq_eq_false_iff_ne.2 (by omega)
theorem c_Plus (l:List (Int×Int)) (hl:l.length≤maxLen) (hq:∀q∈l,qOK q) {n:Nat} (hn:n≤5):CallOK Tryz.prog 23 [iv n,mvec 2 qA l] [] (mA n n (plusL l n)) [] []:=by
 have h00:(0:Int)≤0∧(0:Int)<256:=by decide
 have k0:=c_Some (0,0,l) ⟨h00,h00,hl,hq⟩ (r:=n) (c:=n) (by omega) (by omega)
 replace k0:CallOK Tryz.prog 22 [mQ (0,0,l),iv n,iv n] [] (mA n n (someL l (n*n))) [] []:=k0
 have lX:=someL_len l (n*n)
 have hX:∀p i,p<n→i<n→(someL l (n*n)).getD (p*n+i) 0=eQ l (p*n+i):=fun p i hp hi=>someL_get (idx_lt hp hi)
 have hP:(plusL l n).length=n*n:=mk_len ..
 have hPe:∀i k,i<n→k<n→(plusL l n).getD (i*n+k) 0=delta i k+sumR n fun p=>eQ l (p*n+i)*eQ l (p*n+k):=fun i k hi hk=>plus_el hi hk
 have hfe:∀p,fs (eQ l p)≤130:=fun p=>fs_qV (qOK_at hq p)
 have hnn:n*n≤5*5:=Nat.mul_le_mul hn hn
 generalize someL l (n*n)=X at*
 generalize plusL l n=P at*
 generalize eQ l=w at*
 refine callF (Z:=[]) tabOK mixedOK Tryz.func23 rfl (by kernel_rfl) (by first|rfl|(simp[keylessL,keyless,keylessL_map, *];done)) (by first|rfl|(simp[keylessL,keyless,keylessL_map, *];done)) (by kernel_rfl) rfl ?_
 intro w0 ρ0 hE
 conv=>whnf
 (repeat(first|(refine g_c (by assumption) ?_;conv=>whnf)))
 refine SWx_adoptB (j:=6) (k:=2001) (s:=5) (p:=2) (blk:=fblk []) rfl rfl rfl rfl rfl ?_
 refine SW_loopS hE (fun k=>k) [0,4,5,6,7] [4,5,6,2001] (fun m fr hp=>∃i:Nat,m=n - i∧i≤n∧fr=[(0,iv n),(4,.ptr 4 0 0 0),(5,.ptr 5 0 0 0),(6,.ptr 6 0 0 0),(7,iv (i:Nat))]∧
  hp=[(4,zM),(5,⟨30,true,.one (mC n n X)⟩),(6,⟨30,true,.one [iv n,iv n,.slc 2001 5 0 (i*n)]⟩),(2001,fblk (P.take (i*n)))]) n ?_ ?_ ?_
 ·kernel_rfl
 ·exact⟨0,rfl,Nat.zero_le _,rfl,by rw[Nat.zero_mul];rfl⟩
 rintro m _ _ ⟨i,rfl,hi,rfl,rfl⟩
 by_cases hlt:i<n
 ·have t1:=dlt hlt
  have t2:=winc (i:=i) (by omega)
  refine SWx.of hE ?_
  conv=>whnf
  (repeat(first|(refine tst_tt t1 ?_;conv=>whnf)|(rw[t1];conv=>whnf)))
  refine SW_loopS hE (fun k=>k) [0,4,5,6,7,8] [4,5,6,2001] (fun m fr hp=>∃k:Nat,m=n - k∧k≤n∧fr=[(0,iv n),(4,.ptr 4 0 0 0),(5,.ptr 5 0 0 0),(6,.ptr 6 0 0 0),(7,iv (i:Nat)),(8,iv (k:Nat))]∧
   hp=[(4,zM),(5,⟨30,true,.one (mC n n X)⟩),(6,⟨30,true,.one [iv n,iv n,.slc 2001 5 0 (i*n+k)]⟩),(2001,fblk (P.take (i*n+k)))]) n ?_ ?_ ?_
  ·kernel_rfl
  ·exact⟨0,rfl,Nat.zero_le _,rfl,rfl⟩
  rintro m _ _ ⟨k,rfl,hk,rfl,rfl⟩
  by_cases hlk:k<n
  ·have t3:=dlt hlk
   have t4:=winc (i:=k) (by omega)
   have hin:=idx_lt hlt hlk
   have hlt0:(P.take (i*n+k)).length=i*n+k:=by rw[List.length_take];omega
   have hv:=hPe i k hlt hlk
   have e1:=app_one (d:=(0:Rat)) (show i*n+k<P.length by omega)
   rw[hv]at e1
   have c1:CallOK Tryz.prog 26 [iv 1] [] (.frac 1) [] []:=c_fInt 1 (by decide) (by decide)
   have hd:delta i k=if i=k then 1 else 0:=rfl
   refine SWx.of hE ?_
   conv=>whnf
   have body:∀q,q≤n→True:=fun _ _=>trivial
   by_cases hik:i=k
   ·have t5:(((i:Nat):Int)==((k:Nat):Int))=true:=by rw[dlt_eq];exact decide_eq_true hik
    rw[if_pos hik]at hd
    (repeat((first|refine g_c (by assumption) ?_|refine tst_tt t3 ?_|refine tst_tt t5 ?_|rw[t3]|rw[t5]);conv=>whnf))
    refine SW_loopS hE (fun k=>k) [0,4,5,6,7,8,9,10] [4,5,6,9,2001] (fun m fr hp=>∃p:Nat,m=n - p∧p≤n∧fr=[(0,iv n),(4,.ptr 4 0 0 0),(5,.ptr 5 0 0 0),(6,.ptr 6 0 0 0),(7,iv (i:Nat)),(8,iv (k:Nat)),(9,.ptr 9 0 0 0),(10,iv (p:Nat))]∧
     hp=[(4,zM),(5,⟨30,true,.one (mC n n X)⟩),(6,⟨30,true,.one [iv n,iv n,.slc 2001 5 0 (i*n+k)]⟩),(9,⟨49,true,.one [.frac (delta i k+sumR p fun p=>w (p*n+i)*w (p*n+k))]⟩),(2001,fblk (P.take (i*n+k)))]) n ?_ ?_ ?_
    ·kernel_rfl
    ·exact⟨0,rfl,Nat.zero_le _,rfl,by rw[hd];simp only[sumR,Rat.add_zero];rfl⟩
    rintro m _ _ ⟨p,rfl,hp,rfl,rfl⟩
    by_cases hlp:p<n
    ·have t6:=dlt hlp
     have t7:=winc (i:=p) (by omega)
     obtain⟨w1,w2⟩:=idx_w (i:=p) (k:=i) (c:=n) (by omega) (by omega) (by omega)
     obtain⟨w3,w4⟩:=idx_w (i:=p) (k:=k) (c:=n) (by omega) (by omega) (by omega)
     have b1:=idx_lt hlp hlt
     have b2:=idx_lt hlp hlk
     have g1:=hX p i hlp hlt
     have g2:=hX p k hlp hlk
     have f1:=hfe (p*n+i)
     have f2:=hfe (p*n+k)
     have f3:=fs_mul (w (p*n+i)) (w (p*n+k))
     have hs:=sum_fs (f:=fun p=>w (p*n+i)*w (p*n+k)) (B:=260) p fun j _=>by
      have g1:=hfe (j*n+i)
      have g2:=hfe (j*n+k)
      have g3:=fs_mul (w (j*n+i)) (w (j*n+k))
      omega
     have hd2:fs (delta i k)≤2:=by unfold delta;split<;>decide+kernel
     have hs2:=fs_add (delta i k) (sumR p fun p=>w (p*n+i)*w (p*n+k))
     have m1:=x_Mul (w (p*n+i)) (w (p*n+k)) (by omega)
     have m2:=x_Add (delta i k+sumR p fun p=>w (p*n+i)*w (p*n+k)) (w (p*n+i)*w (p*n+k)) (by omega)
     rw[show delta i k+sumR p (fun p=>w (p*n+i)*w (p*n+k))+w (p*n+i)*w (p*n+k)=delta i k+sumR (p+1) (fun p=>w (p*n+i)*w (p*n+k))from by rw[sumR];exact Rat.add_assoc ..]at m2
     clear hs hs2 hd2 f1 f2 f3
     refine SWx.of hE ?_
     conv=>whnf
     (repeat((first|refine step_i (by kernel_rfl) ?_|refine g_c (by assumption) ?_|refine tst_tt t6 ?_|refine g_o (op_loadA rfl (ev_ok rfl) (tgt rfl) rfl (Nat.succ_ne_zero _) rfl) ?_|refine g_o (op_indexM (α:=Rat) (d:=0) rfl (ev_ok rfl) (ev_ok rfl) (tgt rfl) rfl (tgt rfl) rfl (by omega)) ?_|rw[t6]|rw[w1]|rw[w2]|rw[w4]|rw[g1]|rw[g2]|rw[t7]|rw[Int.toNat_natCast]|rw[Nat.zero_add]);conv=>whnf))
     exact⟨n - (p+1),fun k=>k,[0,4,5,6,7,8,9,10],[4,5,6,9,2001],by omega,by kernel_rfl,p+1,rfl,hlp,rfl,rfl⟩
    ·have t6:=dge hlp
     obtain rfl:p=n:=by omega
     refine SWx.of hE ?_
     conv=>whnf
     (repeat((first|refine step_oA (by first|omega|decide|(simp only[tl0,dlen,List.length_replicate,List.length_set,List.length_map,List.length_zipWith,List.length_take,List.length_append,List.length_cons,List.length_nil];omega)) ?_|refine tst_ff t6 ?_|rw[t6]|rw[t4]|rw[Nat.zero_add]);conv=>whnf))
     refine⟨p - (k+1),renBy [(64,2001)],[0,4,5,6,7,8],[4,5,6,64],by omega,by kernel_rfl,k+1,rfl,hlk,rfl, ?_⟩
     rw[show i*p+(k+1)=i*p+k+1 from rfl,e1];rfl
   ·have t5:(((i:Nat):Int)==((k:Nat):Int))=false:=by rw[dlt_eq];exact decide_eq_false hik
    rw[if_neg hik]at hd
    (repeat((first|refine tst_tt t3 ?_|refine tst_ff t5 ?_|rw[t3]|rw[t5]);conv=>whnf))
    refine SW_loopS hE (fun k=>k) [0,4,5,6,7,8,9,10] [4,5,6,9,2001] (fun m fr hp=>∃p:Nat,m=n - p∧p≤n∧fr=[(0,iv n),(4,.ptr 4 0 0 0),(5,.ptr 5 0 0 0),(6,.ptr 6 0 0 0),(7,iv (i:Nat)),(8,iv (k:Nat)),(9,.ptr 9 0 0 0),(10,iv (p:Nat))]∧
     hp=[(4,zM),(5,⟨30,true,.one (mC n n X)⟩),(6,⟨30,true,.one [iv n,iv n,.slc 2001 5 0 (i*n+k)]⟩),(9,⟨49,true,.one [.frac (delta i k+sumR p fun p=>w (p*n+i)*w (p*n+k))]⟩),(2001,fblk (P.take (i*n+k)))]) n ?_ ?_ ?_
    ·kernel_rfl
    ·exact⟨0,rfl,Nat.zero_le _,rfl,by rw[hd];simp only[sumR,Rat.add_zero];rfl⟩
    rintro m _ _ ⟨p,rfl,hp,rfl,rfl⟩
    by_cases hlp:p<n
    ·have t6:=dlt hlp
     have t7:=winc (i:=p) (by omega)
     obtain⟨w1,w2⟩:=idx_w (i:=p) (k:=i) (c:=n) (by omega) (by omega) (by omega)
     obtain⟨w3,w4⟩:=idx_w (i:=p) (k:=k) (c:=n) (by omega) (by omega) (by omega)
     have b1:=idx_lt hlp hlt
     have b2:=idx_lt hlp hlk
     have g1:=hX p i hlp hlt
     have g2:=hX p k hlp hlk
     have f1:=hfe (p*n+i)
     have f2:=hfe (p*n+k)
     have f3:=fs_mul (w (p*n+i)) (w (p*n+k))
     have hs:=sum_fs (f:=fun p=>w (p*n+i)*w (p*n+k)) (B:=260) p fun j _=>by
      have g1:=hfe (j*n+i)
      have g2:=hfe (j*n+k)
      have g3:=fs_mul (w (j*n+i)) (w (j*n+k))
      omega
     have hd2:fs (delta i k)≤2:=by unfold delta;split<;>decide+kernel
     have hs2:=fs_add (delta i k) (sumR p fun p=>w (p*n+i)*w (p*n+k))
     have m1:=x_Mul (w (p*n+i)) (w (p*n+k)) (by omega)
     have m2:=x_Add (delta i k+sumR p fun p=>w (p*n+i)*w (p*n+k)) (w (p*n+i)*w (p*n+k)) (by omega)
     rw[show delta i k+sumR p (fun p=>w (p*n+i)*w (p*n+k))+w (p*n+i)*w (p*n+k)=delta i k+sumR (p+1) (fun p=>w (p*n+i)*w (p*n+k))from by rw[sumR];exact Rat.add_assoc ..]at m2
     clear hs hs2 hd2 f1 f2 f3
     refine SWx.of hE ?_
     conv=>whnf
     (repeat((first|refine step_i (by kernel_rfl) ?_|refine g_c (by assumption) ?_|refine tst_tt t6 ?_|refine g_o (op_loadA rfl (ev_ok rfl) (tgt rfl) rfl (Nat.succ_ne_zero _) rfl) ?_|refine g_o (op_indexM (α:=Rat) (d:=0) rfl (ev_ok rfl) (ev_ok rfl) (tgt rfl) rfl (tgt rfl) rfl (by omega)) ?_|rw[t6]|rw[w1]|rw[w2]|rw[w4]|rw[g1]|rw[g2]|rw[t7]|rw[Int.toNat_natCast]|rw[Nat.zero_add]);conv=>whnf))
     exact⟨n - (p+1),fun k=>k,[0,4,5,6,7,8,9,10],[4,5,6,9,2001],by omega,by kernel_rfl,p+1,rfl,hlp,rfl,rfl⟩
    ·have t6:=dge hlp
     obtain rfl:p=n:=by omega
     refine SWx.of hE ?_
     conv=>whnf
     (repeat((first|refine step_oA (by first|omega|decide|(simp only[tl0,dlen,List.length_replicate,List.length_set,List.length_map,List.length_zipWith,List.length_take,List.length_append,List.length_cons,List.length_nil];omega)) ?_|refine tst_ff t6 ?_|rw[t6]|rw[t4]|rw[Nat.zero_add]);conv=>whnf))
     refine⟨p - (k+1),renBy [(64,2001)],[0,4,5,6,7,8],[4,5,6,64],by omega,by kernel_rfl,k+1,rfl,hlk,rfl, ?_⟩
     rw[show i*p+(k+1)=i*p+k+1 from rfl,e1];rfl
  ·have t3:=dge hlk
   obtain rfl:k=n:=by omega
   refine SWx.of hE ?_
   conv=>whnf
   (repeat(first|(refine tst_ff t3 ?_;conv=>whnf)|(rw[t3];conv=>whnf)|(rw[t2];conv=>whnf)))
   exact⟨k - (i+1),fun k=>k,[0,4,5,6,7],[4,5,6,2001],by omega,by kernel_rfl,i+1,rfl,hlt,rfl,by rw[Nat.succ_mul];rfl⟩
 ·have t1:=dge hlt
  obtain rfl:i=n:=by omega
  rw[List.take_of_length_le (by omega)]
  refine SWx.of hE ?_
  conv=>whnf
  (repeat(first|(refine tst_ff t1 ?_;conv=>whnf)))
  (first|exact Recast.refl _|exact Frz.recast (Recast.refl _) rfl|(refine Frz.one rfl rfl ?_;(repeat(first|exact FrzC.keyless rfl|exact FrzL.nil|refine FrzL.cons ?_ ?_|(refine FrzC.fracs rfl ?_;(first|rfl|omega|(simp<;>fail)|(simp<;>omega)))|refine FrzC.agg ?_)))|(refine Frz.tup ?_;skip))
end Go.Proofs.YtfjhnollamkdcaaGreatDoor
namespace Go.Sx
set_option linter.unusedSimpArgs false
set_option linter.unusedVariables false
set_option maxRecDepth 100000
set_option maxHeartbeats 4000000
theorem runs_list2 {E:Env} {ops:Array Oper} {l2:List Oper} {Q:Exit→Act→World→Prop}:∀(l:List Oper) (fr:List (Nat×SV)) (hp:List (Nat×Blk)) (recs:List Rec) (fr':List (Nat×SV)) (hp':List (Nat×Blk)),Runs E ops l fr hp recs fr' hp'→
  (∀a w,RR E (fn fr' hp') a w→wpListIn (fen E.ro) 0 E.P ops Q l2 a w)→∀a w,RR E (fn fr hp) a w→wpListIn (fen E.ro) 0 E.P ops Q (l++l2) a w
 |[],fr,hp,recs,fr',hp',h,hQ,a,w,hR=>by
  obtain⟨_,rfl,rfl⟩:=h
  exact hQ a w hR
 |o::l,fr,hp,recs,fr',hp',h,hQ,a,w,hR=>by
  obtain⟨rc,rest,rfl,_,_,_,⟨_,_,hs⟩,h2⟩:=h
  have ih:=runs_list2 l _ _ _ _ _ h2 hQ
  have:=hs (fn fr hp) (fun _ _=>rfl) (fun _ _=>rfl) a w hR
  rw[List.cons_append]
  unfold wpListIn
  split
  ·rename_i hw
   rw[if_pos hw]at this
   refine goes_wpIn (goes_mono ?_ this)
   intro a' w' hR'
   rw[fn_lay]at hR'
   exact ih a' w' hR'
  ·rename_i hw
   rw[if_neg hw,fn_lay]at this
   exact⟨fun _ _=>trivial,ih _ _ this⟩
theorem SWx_cut {E:Env} (hE:E.OK) (n:Nat) {id:Nat} {ops:Array Oper} {K:Post'} {fr:List (Nat×SV)} {hp:List (Nat×Blk)}
  (h:lex E ops.toList (ops.toList.take n) fr hp [] fun fr1 hp1 _=>∃fr2 hp2,(∀a w,RR E (fn fr1 hp1) a w→RR E (fn fr2 hp2) a w)∧lex E ops.toList (ops.toList.drop n) fr2 hp2 [] fun fr3 hp3 _=>K .normal fr3 hp3):SWx E (.region id ops false) K fr hp:=⟨by
 intro a w hR
 obtain⟨recs,fr1,hp1,h1,fr2,hp2,hRR,h2⟩:=lex_runs hE.tab _ _ _ _ h
 obtain⟨recs2,fr3,hp3,h3,h4⟩:=lex_runs hE.tab _ _ _ _ h2
 have e2:=runs_list (Q:=liftQ E K) _ _ _ _ _ _ h3 (fun a w hR=>⟨fr3,hp3,h4,hR⟩)
 have e1:=runs_list2 (Q:=liftQ E K) (l2:=ops.toList.drop n) _ _ _ _ _ _ h1 (fun a w hR=>by simpa using e2 a w (hRR a w hR)) a w hR
 rw[List.take_append_drop]at e1
 exact wpIn_region_list (by simpa using e1)⟩
end Go.Sx
namespace Go.Proofs.YtfjhnollamkdcaaGreatDoor
open Go.Sx
set_option linter.unusedSimpArgs false
set_option linter.unusedVariables false
set_option maxRecDepth 100000
set_option maxHeartbeats 8000000
section
variable {n B C:Nat} {a m:List Rat} (h:Pen n B C a m)
include h
end
theorem pen_law {l b:List (Int×Int)} {n:Nat} (hl:∀q∈l,qOK q) (hb:∀q∈b,qOK q) (hn:n≤5):Pen n 130 1304 (symL l n) (plusL b n):=
 ⟨hn,(symL_ok n hl).1,mk_len ..,(symL_ok n hl).2.1,plus_sym b n,plus_pos b n,(symL_ok n hl).2.2,plus_sm hb hn⟩
end Go.Proofs.YtfjhnollamkdcaaGreatDoor
namespace Go.Proofs.YtfjhnollamkdcaaGreatDoor
open Go.Sx
set_option linter.unusedSimpArgs false
set_option linter.unusedVariables false
set_option maxRecDepth 100000
set_option maxHeartbeats 40000000
theorem rM_len (r:Nat) (M:Nat→List Rat):((List.range r).map M).length=r:=by simp
theorem rM_get {r i:Nat} {M:Nat→List Rat} (h:i<r):((List.range r).map M).getD i []=M i:=by simp[List.getD_eq_getElem?_getD,h]
end Go.Proofs.YtfjhnollamkdcaaGreatDoor
namespace Go.Proofs.YtfjhnollamkdcaaGreatDoor
open Go.Sx
set_option linter.unusedSimpArgs false
set_option linter.unusedVariables false
set_option maxRecDepth 100000
set_option maxHeartbeats 40000000
theorem s_Index (l:List Int) (x:Int) (hl:l.length<1099511627776):∃n:Int,decide (0≤n)=decide (x∈l)∧CallOK Tryz.prog 201 [ivec .i64 l,iv x] [] (iv n) [] []:=by
 by_cases h:∃j,j<l.length∧l.getD j 0=x∧∀i,i<j→l.getD i 0≠x
 ·obtain⟨j,hj,hx,hb⟩:=h
  have hm:x∈l:=by rw[←hx,List.getD_eq_getElem?_getD,List.getElem?_eq_getElem hj];exact List.getElem_mem hj
  refine⟨j,by rw[decide_eq_true (Int.natCast_nonneg j),decide_eq_true hm], ?_⟩
  refine callV (Z:=[]) tabOK mixedOK Tryz.func201 rfl (by kernel_rfl) rfl rfl (by kernel_rfl) rfl ?_
  intro W0 w0 ρ0 hE
  conv=>whnf
  (repeat(first|(refine g_o (op_lenM rfl rfl rfl (ev_ok rfl) (tgt rfl) rfl) ?_;conv=>whnf)))
  refine SW_loopN hE (fun k=>k) [0,1,7,8] [] (fun m fr hp=>∃i:Nat,m=l.length - i∧i≤j∧fr=[(0,ivec .i64 l),(1,iv x),(7,iv l.length),(8,iv i)]∧hp=[]) l.length ?_ ?_ ?_
  ·kernel_rfl
  ·exact⟨0,rfl,Nat.zero_le _,rfl,rfl⟩
  rintro m _ _ ⟨i,rfl,hi,rfl,rfl⟩
  have t1:=dlt (show i<l.length by omega)
  have t2:=winc (i:=i) (by omega)
  conv=>whnf
  by_cases e:i=j
  ·subst e
   have t3:decide (x=l.getD i 0)=true:=decide_eq_true hx.symm
   (repeat((first|refine tst_tt t1 ?_|refine tst_tt t3 ?_|refine g_o (op_loadA rfl (ev_ok rfl) (tgt rfl) rfl (Nat.succ_ne_zero _) rfl) ?_|refine g_o (op_indexN (α:=Int) (d:=0) rfl (ev_ok rfl) (ev_ok rfl) (tgt rfl) rfl (tgt rfl) rfl (by omega)) ?_);conv=>whnf));(first|exact Recast.refl _|exact Frz.recast (Recast.refl _) rfl|(refine Frz.one rfl rfl ?_;skip)|(refine Frz.tup ?_;skip))
  ·have t3:decide (x=l.getD i 0)=false:=decide_eq_false fun g=>hb i (by omega) g.symm
   (repeat((first|refine tst_tt t1 ?_|refine tst_ff t3 ?_|refine g_o (op_loadA rfl (ev_ok rfl) (tgt rfl) rfl (Nat.succ_ne_zero _) rfl) ?_|refine g_o (op_indexN (α:=Int) (d:=0) rfl (ev_ok rfl) (ev_ok rfl) (tgt rfl) rfl (tgt rfl) rfl (by omega)) ?_|rw[t1]|rw[t2]);conv=>whnf))
   exact⟨l.length - (i+1),fun k=>k,[0,1,7,8],[],by omega,by kernel_rfl,i+1,rfl,by omega,rfl,rfl⟩
 ·have hno:∀j,j<l.length→l.getD j 0≠x:=by
   intro j
   induction j using Nat.strongRecOn with
   |ind j ih=>
    intro hj hx
    exact h ⟨j,hj,hx,fun i hi=>ih i hi (by omega)⟩
  have hm:x∉l:=fun hm=>by
   obtain⟨j,hj,e⟩:=List.getElem_of_mem hm
   exact hno j hj (by rw[List.getD_eq_getElem?_getD,List.getElem?_eq_getElem hj];exact e)
  refine⟨-1,by rw[decide_eq_false hm];rfl, ?_⟩
  refine callV (Z:=[]) tabOK mixedOK Tryz.func201 rfl (by kernel_rfl) rfl rfl (by kernel_rfl) rfl ?_
  intro W0 w0 ρ0 hE
  conv=>whnf
  (repeat(first|(refine g_o (op_lenM rfl rfl rfl (ev_ok rfl) (tgt rfl) rfl) ?_;conv=>whnf)))
  refine SW_loopN hE (fun k=>k) [0,1,7,8] [] (fun m fr hp=>∃i:Nat,m=l.length - i∧i≤l.length∧fr=[(0,ivec .i64 l),(1,iv x),(7,iv l.length),(8,iv i)]∧hp=[]) l.length ?_ ?_ ?_
  ·kernel_rfl
  ·exact⟨0,rfl,Nat.zero_le _,rfl,rfl⟩
  rintro m _ _ ⟨i,rfl,hi,rfl,rfl⟩
  conv=>whnf
  by_cases hlt:i<l.length
  ·have t1:=dlt hlt
   have t2:=winc (i:=i) (by omega)
   have t3:decide (x=l.getD i 0)=false:=decide_eq_false fun g=>hno i hlt g.symm
   (repeat((first|refine tst_tt t1 ?_|refine tst_ff t3 ?_|refine g_o (op_loadA rfl (ev_ok rfl) (tgt rfl) rfl (Nat.succ_ne_zero _) rfl) ?_|refine g_o (op_indexN (α:=Int) (d:=0) rfl (ev_ok rfl) (ev_ok rfl) (tgt rfl) rfl (tgt rfl) rfl (by omega)) ?_|rw[t1]|rw[t2]);conv=>whnf))
   exact⟨l.length - (i+1),fun k=>k,[0,1,7,8],[],by omega,by kernel_rfl,i+1,rfl,hlt,rfl,rfl⟩
  ·have t1:=dge hlt
   (repeat(first|(refine tst_ff t1 ?_;conv=>whnf)));(first|exact Recast.refl _|exact Frz.recast (Recast.refl _) rfl|(refine Frz.one rfl rfl ?_;skip)|(refine Frz.tup ?_;skip))
theorem s_Contains (l:List Int) (x:Int) (hl:l.length<1099511627776):CallOK Tryz.prog 165 [ivec .i64 l,iv x] [] (.val (.bool (decide (x∈l)))) [] []:=by
 obtain⟨n,hn,k1⟩:=s_Index l x hl
 rw[←hn]
 refine callV (Z:=[]) tabOK mixedOK Tryz.func165 rfl (by kernel_rfl) rfl rfl (by kernel_rfl) rfl ?_
 intro W0 w0 ρ0 hE
 conv=>whnf
 (repeat(first|(refine g_c (by assumption) ?_;conv=>whnf)));(first|exact Recast.refl _|exact Frz.recast (Recast.refl _) rfl|(refine Frz.one rfl rfl ?_;skip)|(refine Frz.tup ?_;skip))
theorem v_UnitM (n i:Nat) (hn:n≤2048) (hi:i<n) (K:Nat):CallOK Tryz.prog 166 [iv (n:Nat),iv (i:Nat)] [] (.tup [.slc K 5 0 n,iv 0]) [(K,⟨49,true,.fracs ((List.replicate n 0).set i 1)⟩)] []:=by
 have k1:=v_ZeroM n hn 1001
 have k2:CallOK Tryz.prog 26 [iv 1] [] (.frac 1) [] []:=c_fInt 1 (by decide) (by decide)
 have t1:decide ((i:Int)<0)=false:=decide_eq_false (by omega)
 have t2:decide ((i:Int)≥(n:Int))=false:=decide_eq_false (by omega)
 refine callK (Z:=[]) tabOK mixedOK Tryz.func166 rfl (by kernel_rfl) (args:=[iv (n:Nat),iv (i:Nat)]) (fk:=[]) (c:=.tup [.slc 1001 5 0 n,iv 0]) (new:=[(1001,⟨49,true,.fracs ((List.replicate n 0).set i 1)⟩)]) (upd:=[]) (ShapeOK.of rfl rfl rfl rfl rfl rfl rfl rfl rfl rfl rfl) rfl (fun _=>K) NamesOK.one ?_
 intro W0 w0 ρ0 hE
 conv=>whnf
 (repeat((first|refine step_w1 rfl rfl ?_|refine step_w2 rfl rfl ?_|refine step_oL (by first|omega|decide|(simp only[tl0,dlen,List.length_replicate,List.length_set,List.length_map,List.length_zipWith,List.length_take,List.length_append,List.length_cons,List.length_nil];omega)) ?_|refine step_oA (by first|omega|decide|(simp only[tl0,dlen,List.length_replicate,List.length_set,List.length_map,List.length_zipWith,List.length_take,List.length_append,List.length_cons,List.length_nil];omega)) ?_|refine g_c (by assumption) ?_|refine g_cn (by assumption) rfl ?_|refine g_o (op_pickF rfl (ev_ok rfl) (ev_ok rfl)) ?_|rw[bne_self_eq_false]|refine tst_ff t2 ?_|rw[Int.toNat_natCast]|rw[Nat.zero_add]);conv=>whnf))
 exact⟨Recast.refl _,get_cons rfl get_nil,get_nil⟩
theorem freeF_len (sp:List Nat) (k:Nat):(freeF sp k).length≤k:=by
 have:=List.length_filter_le (fun q=>decide (q∉sp)) (List.range k)
 simpa [freeF]using this
theorem mem_ofN {sp:List Nat} {k:Nat}:((k:Int)∈sp.map ofN)↔k∈sp:=by
 simp only[List.mem_map]
 constructor
 ·rintro⟨a,ha,h⟩;rw[←Int.ofNat_inj.1 (show(a:Int)=(k:Int)from h)];exact ha
 ·intro h;exact⟨k,h,rfl⟩
abbrev vblk (l:List (List Rat)):Blk:=⟨67,true,.seq 1 (l.map fvec)⟩
theorem vblk_snoc (l:List (List Rat)) (v:List Rat):vblk (l++[v])=⟨67,true,.seq 1 (List.take l.length (l.map fvec)++List.take 1 (List.drop 0 [fvec v]))⟩:=by
 rw[List.take_of_length_le (by rw[List.length_map];exact Nat.le_refl _),vblk,List.map_append];rfl
theorem e_kernel {r m c:Nat} {M:Nat→List Rat} {sp:List Nat} {d:Rat} (hM:∀i,i<r→(M i).length=c) (hr:r≤2048) (hm:m≤2048) (hmc:m≤c) (hp:sp.length≤r) (hsp:∀j,j<sp.length→sp.getD j 0<m):
  CallOK Tryz.prog 117 [wkA r m c M (sp.map ofN) d] [] (mvec 1 fvec ((freeF sp m).map (kvL M sp m))) [] []:=by
 have hpl:(sp.map ofN).length=sp.length:=List.length_map _
 have hrl:=rM_len r M
 refine callF (Z:=[100011]) tabOK mixedOK Tryz.func117 rfl (by kernel_rfl) (by first|rfl|(simp[keylessL,keyless,keylessL_map, *];done)) (by first|rfl|(simp[keylessL,keyless,keylessL_map, *];done)) (by kernel_rfl) rfl ?_
 intro w0 ρ0 hE
 conv=>whnf
 (repeat(first|(refine g_o (op_loadA rfl (ev_ok rfl) (tgt rfl) rfl (Nat.succ_ne_zero _) rfl) ?_;conv=>whnf)|(refine g_o (op_fieldA rfl (ev_ok rfl) (tgt rfl) rfl rfl (Nat.succ_ne_zero _) rfl) ?_;conv=>whnf)|(refine g_o (op_nilCheckA rfl (ev_ok rfl)) ?_;conv=>whnf)))
 refine SWx_adopt (t:=2) (k:=2001) (s:=1) (blk:=vblk []) rfl rfl rfl ?_
 refine SW_loopN hE (fun k=>k) [0,2,11,12] [2001] (fun m' fr hp=>∃k n:Nat,m'=m - k∧k≤m∧n=(freeF sp k).length∧fr=[(0,wkA r m c M (sp.map ofN) d),(2,.slc 2001 1 0 n),(11,iv m),(12,iv k)]∧hp=[(2001,vblk ((freeF sp k).map (kvL M sp m)))]) m ?_ ?_ ?_
 ·kernel_rfl
 ·exact⟨0,0,rfl,Nat.zero_le _,rfl,rfl,rfl⟩
 rintro m' _ _ ⟨k,n,rfl,hk,hn,rfl,rfl⟩
 conv=>whnf
 by_cases hlt:k<m
 ·have t1:=dlt hlt
  have t2:=winc (i:=k) (by omega)
  have k1:=s_Contains (sp.map ofN) k (by rw[hpl];omega)
  have hfs:=freeF_succ sp k
  by_cases hin:k∈sp
  ·have t3:decide ((k:Int)∈sp.map ofN)=true:=decide_eq_true (mem_ofN.2 hin)
   rw[if_pos hin,List.append_nil]at hfs
   rw[t3]at k1
   (repeat((first|refine step_w1 rfl rfl ?_|refine g_c (by assumption) ?_|refine tst_tt t1 ?_|refine g_o (op_loadA rfl (ev_ok rfl) (tgt rfl) rfl (Nat.succ_ne_zero _) rfl) ?_|refine g_o (op_fieldA rfl (ev_ok rfl) (tgt rfl) rfl rfl (Nat.succ_ne_zero _) rfl) ?_|refine g_o (op_nilCheckA rfl (ev_ok rfl)) ?_|rw[t1]|rw[t2]);conv=>whnf))
   exact⟨m - (k+1),fun q=>q,[0,2,11,12],[2001],by omega,by kernel_rfl,k+1,n,rfl,hlt,by rw[hfs];exact hn,rfl,by rw[hfs];rfl⟩
  ·have t3:decide ((k:Int)∈sp.map ofN)=false:=decide_eq_false fun h=>hin (mem_ofN.1 h)
   rw[if_neg hin]at hfs
   rw[t3]at k1
   have k2:=v_UnitM m k hm hlt 2002
   have hnl:((freeF sp k).map (kvL M sp m)).length=n:=by rw[List.length_map];exact hn.symm
   have hnm:n≤m:=by rw[hn];exact Nat.le_trans (freeF_len sp k) hk
   have hsn:=vblk_snoc ((freeF sp k).map (kvL M sp m)) (kvL M sp m k)
   rw[hnl]at hsn
   have hs2:(freeF sp (k+1)).map (kvL M sp m)=(freeF sp k).map (kvL M sp m)++[kvL M sp m k]:=by rw[hfs,List.map_append];rfl
   rw[←hs2]at hsn
   have hn2:n+1=(freeF sp (k+1)).length:=by rw[hfs,List.length_append,←hn];rfl
   (repeat((first|refine step_w2 rfl rfl ?_|refine g_c (by assumption) ?_|refine g_cn (by assumption) rfl ?_|refine tst_tt t1 ?_|refine g_o (op_lenM rfl rfl rfl (ev_ok rfl) (tgt rfl) rfl) ?_|refine g_o (op_loadA rfl (ev_ok rfl) (tgt rfl) rfl (Nat.succ_ne_zero _) rfl) ?_|refine g_o (op_fieldA rfl (ev_ok rfl) (tgt rfl) rfl rfl (Nat.succ_ne_zero _) rfl) ?_|refine g_o (op_nilCheckA rfl (ev_ok rfl)) ?_|rw[t1]);conv=>whnf))
   refine SW_loopN hE (fun k=>k) [0,2,3,4,11,12,33,34,35] [2001,2002] (fun m' fr hp=>∃i:Nat,m'=sp.length - i∧i≤sp.length∧fr=[(0,wkA r m c M (sp.map ofN) d),(2,.slc 2001 1 0 n),(3,iv k),(4,.slc 2002 5 0 m),(11,iv m),(12,iv k),(33,ivec .i64 (sp.map ofN)),(34,iv sp.length),(35,iv i)]∧
    hp=[(2001,vblk ((freeF sp k).map (kvL M sp m))),(2002,fblk (kvS M sp m k i))]) sp.length ?_ ?_ ?_
   ·kernel_rfl
   ·exact⟨0,rfl,Nat.zero_le _,by rw[←hpl];rfl,rfl⟩
   rintro m' _ _ ⟨i,rfl,hi,rfl,rfl⟩
   conv=>whnf
   by_cases hip:i<sp.length
   ·have t4:=dlt hip
    have t5:=winc (i:=i) (by omega)
    have g1:(sp.map ofN).getD i 0=((sp.getD i 0:Nat):Int):=by simp[List.getD_eq_getElem?_getD,hip]
    have g2:=rM_get (M:=M) (show i<r by omega)
    have g3:=hM i (by omega)
    have g4:=hsp i hip
    have g5:=kvS_len M sp m k i
    have k3:=c_fNeg ((M i).getD k 0)
    clear k1 k2
    (repeat((first|refine step_oL (by first|omega|decide|(simp only[tl0,dlen,List.length_replicate,List.length_set,List.length_map,List.length_zipWith,List.length_take,List.length_append,List.length_cons,List.length_nil];omega)) ?_|refine step_oA (by first|omega|decide|(simp only[tl0,dlen,List.length_replicate,List.length_set,List.length_map,List.length_zipWith,List.length_take,List.length_append,List.length_cons,List.length_nil];omega)) ?_|refine g_c (by assumption) ?_|refine tst_tt t4 ?_|refine g_o (op_indexN (α:=Rat) (d:=0) rfl (ev_ok rfl) (ev_ok rfl) (tgt rfl) rfl (tgt rfl) rfl (by omega)) ?_|refine g_o (op_loadA rfl (ev_ok rfl) (tgt rfl) rfl (Nat.succ_ne_zero _) rfl) ?_|refine g_o (op_indexN (α:=Int) (d:=0) rfl (ev_ok rfl) (ev_ok rfl) (tgt rfl) rfl (tgt rfl) rfl (by omega)) ?_|refine g_o (op_indexN (α:=List Rat) (d:=[]) rfl (ev_ok rfl) (ev_ok rfl) (tgt rfl) rfl (tgt rfl) rfl (by omega)) ?_|refine g_o (op_fieldA rfl (ev_ok rfl) (tgt rfl) rfl rfl (Nat.succ_ne_zero _) rfl) ?_|refine g_o (op_nilCheckA rfl (ev_ok rfl)) ?_|rw[t4]|rw[t5]|rw[g1]|rw[g2]|rw[Int.toNat_natCast]|rw[Nat.zero_add]);conv=>whnf))
    exact⟨sp.length - (i+1),fun q=>q,[0,2,3,4,11,12,33,34,35],[2001,2002],by omega,by kernel_rfl,i+1,rfl,hip,rfl,rfl⟩
   ·have t4:=dge hip
    obtain rfl:i=sp.length:=by omega
    clear k1 k2
    (repeat(first|(refine tst_ff t4 ?_;conv=>whnf)|(rw[t4];conv=>whnf)))
    refine SWx_freezeF 4 2002 (fun _ h=>h) rfl rfl (kvS_len M sp m k _).symm ?_
    refine SWx_go hE ?_
    conv=>whnf
    (repeat(first|(refine step_oA (by first|omega|decide|(simp only[tl0,dlen,List.length_replicate,List.length_set,List.length_map,List.length_zipWith,List.length_take,List.length_append,List.length_cons,List.length_nil];omega)) ?_;conv=>whnf)|(rw[t2];conv=>whnf)))
    refine⟨m - (k+1),renBy [(58,2001)],[0,2,11,12],[58],by omega,by kernel_rfl,k+1,n+1,rfl,hlt,hn2,rfl, ?_⟩
    rw[hsn];rfl
 ·have t1:=dge hlt
  obtain rfl:k=m:=by omega
  have hnl:((freeF sp k).map (kvL M sp k)).length=n:=by rw[List.length_map];exact hn.symm
  (repeat(first|(refine tst_ff t1 ?_;conv=>whnf)));(first|exact Recast.refl _|exact Frz.recast (Recast.refl _) rfl|(refine Frz.one rfl rfl ?_;(repeat(first|(refine FrzC.seq rfl (by first|rfl|(apply keylessL_map;intro _;rfl)) ?_;(first|rfl|omega|(simp<;>fail)|(simp<;>omega))))))|(refine Frz.tup ?_;skip))
end Go.Proofs.YtfjhnollamkdcaaGreatDoor
namespace Go.Proofs.YtfjhnollamkdcaaGreatDoor
open Go.Sx
set_option linter.unusedSimpArgs false
set_option linter.unusedVariables false
set_option maxRecDepth 100000
set_option maxHeartbeats 40000000
theorem freezeZ {E:Env} (t:Nat) (ts ks:List Nat) {fr:List (Nat×SV)} {hp:List (Nat×Blk)} {m:Nat} (hW:∀b,¬E.W0 b) (ht:lk fr t=some (.ptr 1001 0 0 0)) (h1:find hp 1001=some (wzB m))
  (hn1:normOKf ks fr ts=true) (hn2:normOKh ks hp ks=true) (hn3:(injOK (fun k=>k) ks&&fixOK (fun k=>k) ks E.fx)=true) (hb:bigN ks=true) (hE:E.OK):
  ∀a w,RR E (fn fr hp) a w→RR E (fn ((t,wkA 0 m 0 (fun _=>[]) [] 1)::normF (fun k=>k) ((t,wkA 0 m 0 (fun _=>[]) [] 1)::fr) ts) (pickH hp ks)) a w:=by
 intro a w hR
 have hbig:∀k∈ks,k<1000:=fun k hk=>by simpa [Nat.blt_eq]using List.all_eq_true.1 hb k hk
 have r4:=freezeP_RR t 1001 hW ht rfl rfl (retell_RR h1 (fun _ z hz=>has_wz z hz) hR)
 generalize hq:setB _ 1001 _=HH at r4
 have hfind:∀k∈ks,find HH k=find hp k:=fun k hk=>by
  have:=hbig k hk
  rw[←hq,find_setB,if_neg (by omega),find_ne (by omega)]
 have hno:normOK E.fx (fun k=>k) (t::ts) ks ((t,wkA 0 m 0 (fun _=>[]) [] 1)::fr) HH=true:=by
  refine normOK_of ?_ (by rw[normOKh_find hfind];exact hn2) hn3
  rw[normOKf]
  simp only[lk,Nat.beq_refl]
  rw[normOKf_put hn1];rfl
 have r5:=norm_RR hE hno r4
 rw[normH_id,pickH_find hfind]at r5
 rw[normF]at r5
 simp only[lk,Nat.beq_refl]at r5
 exact r5
theorem red0 (W:Mx):∀c,redF 0 c ⟨W,[],1⟩=⟨W,[],1⟩
 |0=>rfl
 |c+1=>by rw[redF_succ,red0 W c];rfl
theorem redS_zero {c:Nat} {W:Mx} {s:St} (hs:redS 0 c W=s):s.piv=[]∧s.d=1:=by
 have h:=red_agree 0 W c
 rw[show red2F 0 c ⟨W,[],1⟩=s from hs,red0]at h
 exact⟨h.piv,h.d⟩
theorem redS_inv (r c:Nat) (W:Mx) {s:St} (hs:redS r c W=s):s.piv.length≤r∧∀j,j<s.piv.length→s.piv.getD j 0<c:=by
 have h:=red_agree r W c
 rw[show red2F r c ⟨W,[],1⟩=s from hs]at h
 have hi:=Inv.red (r:=r) (W:=W) c
 exact⟨h.le,fun j hj=>by rw[h.piv]at hj ⊢;exact hi.lt j hj⟩
theorem e_Kernel {r c A:Nat} {a:List Rat} (ha:OKM r c a) (hr:r≤6) (hc:c≤40) (sa:Sm A a) (h2:2≤A) (hA:4096*A≤4398046511104) {s:St} (hs:redS r c (aug0 c a)=s):
  CallOK Tryz.prog 48 [mA r c a] [] (.tup [mvec 1 fvec ((freeF s.piv c).map (kvL (rowsM (c+0) s.w) s.piv c)),iv 0]) [] []:=by
 have k1:=m_Check0 ha
 have hbd:=aug0_bd ha sa
 obtain⟨hl1,hl2⟩:=redS_inv r c _ hs
 have k4:=e_kernel (r:=r) (m:=c) (c:=c+0) (M:=rowsM (c+0) s.w) (sp:=s.piv) (d:=s.d) (fun i _=>rwL_len _ _) (by omega) (by omega) (by omega) hl1 hl2
 refine callF (Z:=[1,100004]) tabOK mixedOK Tryz.func48 rfl (by kernel_rfl) (by first|rfl|(simp[keylessL,keyless,keylessL_map, *];done)) (by first|rfl|(simp[keylessL,keyless,keylessL_map, *];done)) (by kernel_rfl) rfl ?_
 intro w0 ρ0 hE
 conv=>whnf
 (repeat((first|refine step_w2 rfl rfl ?_|refine g_c (by assumption) ?_|rw[bne_self_eq_false]|refine g_o (op_loadA rfl (ev_ok rfl) (tgt rfl) rfl (Nat.succ_ne_zero _) rfl) ?_);conv=>whnf))
 rcases(show r=0∨1≤r by omega)with e0|e0
 ·subst e0
  obtain⟨hp0,hd0⟩:=redS_zero hs
  have kz:=e_begunZ0 (c:=c) 0 a 115 ha
  have k3:=e_reduceZ c (by omega)
  rw[hp0,hd0]at k4;rw[hp0]
  refine SWx_cut hE 3 ?_
  conv=>whnf
  (repeat(first|(refine g_cn (by assumption) rfl ?_;conv=>whnf)|(refine g_o (op_loadA rfl (ev_ok rfl) (tgt rfl) rfl (Nat.succ_ne_zero _) rfl) ?_;conv=>whnf)|(refine g_cv k3 (by repeat(first|exact WkH.nil|refine WkH.cons rfl ?_ ?_|exact WkBlk.same (fun h=>h)|exact WkBlk.same ff_imp|exact WkBlk.same (fun _=>rfl)|refine WkBlk.one (fun h=>h) ?_|refine WkBlk.one ff_imp ?_|exact WL.refl|refine WL.eq ?_|refine WL.any rfl ?_|exact WkBlk.dead)) nil_upd ?_;conv=>whnf)))
  refine⟨_,_,freezeZ 12 [1,2,3] [] (fun _ h=>h) rfl rfl (by kernel_rfl) (by kernel_rfl) (by kernel_rfl) rfl hE, ?_⟩
  conv=>whnf
  (repeat(first|(refine g_c (by assumption) ?_;conv=>whnf)));(first|exact Recast.refl _|exact Frz.recast (Recast.refl _) rfl|(refine Frz.one rfl rfl ?_;skip)|(refine Frz.tup ?_;skip))
 ·have k2:=e_begun0 (r:=r) 0 a (fun _ _=>0) 115 hr e0 ha hc (by omega) (fun i k hi hk=>absurd hk (Nat.not_lt_zero _))
  have k3:=e_reduceW (r:=r) c (c+0) A (aug0 c a) s hr e0 (Nat.le_add_right _ _) (by omega) hbd h2 hA hs
  have hpl:(s.piv.map ofN).length=s.piv.length:=List.length_map _
  rcases(show r=1∨r=2∨r=3∨r=4∨r=5∨r=6 by omega)with e1|e1|e1|e1|e1|e1
  all_goals
   rw[e1]at k2 k3 k4
   rw[e1]
   refine SWx_cut hE 3 ?_
   conv=>whnf
   (repeat((first|refine g_o (op_loadA rfl (ev_ok rfl) (tgt rfl) rfl (Nat.succ_ne_zero _) rfl) ?_|refine⟨[],_,_,[],k2,nil_fk,(by repeat(first|exact nil_new|refine new_cons rfl ?_)),nil_upd, ?_⟩|refine⟨hpH _ _ _ _,_,_,_,k3,(by repeat(first|exact get_nil|refine get_cons rfl ?_)),(by repeat(first|exact nil_new|refine new_cons rfl ?_)),updB_spec rfl rfl, ?_⟩|rw[Nat.zero_add]);conv=>whnf))
   refine⟨_,_,freezeW (M:=rowsM _ s.w) 12 [1,2,3] [] (fun _ h=>h) rfl rfl rfl rfl (by intro j hj;rcases(show j=0∨j=1∨j=2∨j=3∨j=4∨j=5 by omega)with e|e|e|e|e|e<;>first|omega|(subst e;exact⟨rfl,(rwL_len _ _).symm⟩)) hpl.symm (by kernel_rfl) (by kernel_rfl) (by kernel_rfl) rfl (by decide) hE, ?_⟩
   conv=>whnf
   (repeat(first|(refine g_c (by assumption) ?_;conv=>whnf)));(first|exact Recast.refl _|exact Frz.recast (Recast.refl _) rfl|(refine Frz.one rfl rfl ?_;skip)|(refine Frz.tup ?_;skip))
end Go.Proofs.YtfjhnollamkdcaaGreatDoor
namespace Go.Proofs.YtfjhnollamkdcaaGreatDoor
open Go.Sx
set_option linter.unusedSimpArgs false
set_option linter.unusedVariables false
set_option maxRecDepth 100000
set_option maxHeartbeats 40000000
theorem redS_Inv (r c:Nat) (W:Mx):Inv r W c (redS r c W):=(Inv.red (r:=r) (W:=W) c).agree (red_agree r W c)
theorem aug_lt {r c:Nat} {a:List Rat} {b:Mx}:∀i q,i<r→q<c→augW a c b i q=el a c i q:=fun i q _ hq=>by unfold augW;rw[if_pos hq]
section
variable {r c A:Nat} {a:List Rat} (ha:OKM r c a) (hr:r≤6) (hc:c≤40) (sa:Sm A a) (h2:2≤A) (hA:4096*A≤4398046511104)
include ha hr sa h2
theorem RW_siz:∀i q,i<r→q<c→fs (RW r c a i q)≤4096*A:=fun i q hi hq=>by
 have h:=(redS_siz (r:=r) (m:=c) (aug0_bd ha sa) h2 hr (Nat.le_refl c)).1 i q hi hq
 rwa [((redS_Inv r c (aug0 c a)).pivL aug_lt).2 i q hi hq]at h
theorem KL_sm {i:Nat} (hi:i<(KL r c a).length):Sm (4096*A) ((KL r c a).getD i []):=by
 intro q hq
 rw[KL_vlen hi]at hq
 rcases KL_val hi hq with h|h|⟨j,k,hj,hk,h⟩
 ·rw[h,fs_zero];omega
 ·rw[h,fs_one];omega
 ·rw[h,fs_neg];exact RW_siz ha hr sa h2 j k hj hk
omit sa h2
include hc sa h2 hA
theorem e_KernelS:CallOK Tryz.prog 48 [mA r c a] [] (.tup [mvec 1 fvec (KL r c a),iv 0]) [] []:=by
 have k:=e_Kernel ha hr hc sa h2 hA rfl
 rwa [KL_eq (redS_Inv r c (aug0 c a)) aug_lt fun j _ k hk=>rwL_get (by omega)]at k
section
variable {b:List Rat} (hb:b.length=r) (sb:Sm A b)
include hb sb
end
end
end Go.Proofs.YtfjhnollamkdcaaGreatDoor
namespace Go.Proofs.YtfjhnollamkdcaaGreatDoor
open Go.Sx
set_option linter.unusedSimpArgs false
set_option linter.unusedVariables false
set_option maxRecDepth 100000
set_option maxHeartbeats 40000000
abbrev lQ:List (Int×Int)→SV:=mvec 2 qA
theorem c_few22 (ls:List (List (Int×Int))) (h:ls.length<1000) (hl:∀l∈ls,l.length≤maxLen):CallOK Tryz.prog 11 [mvec 1 lQ ls] [] (.val (.bool (ls.all fun l=>decide (l.length≤40)))) [] []:=by
 refine callV (Z:=[]) tabOK mixedOK Tryz.func11 rfl (by kernel_rfl) rfl rfl (by kernel_rfl) rfl ?_
 intro W0 w0 ρ0 hE
 conv=>whnf
 skip
 refine SW_loopN hE (fun k=>k) [0,3] [] (fun m fr hp=>∃i:Nat,m=ls.length - i∧i≤ls.length∧(∀j,j<i→decide ((ls.getD j []).length≤40)=true)∧fr=[(0,mvec 1 lQ ls),(3,iv (i:Nat))]∧hp=[]) ls.length ?_ ?_ ?_
 ·kernel_rfl
 ·exact⟨0,rfl,Nat.zero_le _,(fun j hj=>by omega),rfl,rfl⟩
 rintro m _ _ ⟨i,rfl,hi,hs,rfl,rfl⟩
 conv=>whnf
 by_cases hlt:i<ls.length
 ·have t1:=dlt hlt
  have t2:=winc (i:=i) (by omega)
  have hml:(ls.getD i []).length≤maxLen:=hl _ (getD_mem hlt)
  by_cases hL:(ls.getD i []).length≤40
  ·have t3:decide (((ls.getD i []).length:Int)>40)=false:=decide_eq_false (by omega)
   (repeat((first|refine tst_tt t1 ?_|refine tst_ff t3 ?_|refine g_o (op_lenM rfl rfl rfl (ev_ok rfl) (tgt rfl) rfl) ?_|refine g_o (op_loadA rfl (ev_ok rfl) (tgt rfl) rfl (Nat.succ_ne_zero _) rfl) ?_|refine g_o (op_indexN (α:=List (Int×Int)) (d:=[]) rfl (ev_ok rfl) (ev_ok rfl) (tgt rfl) rfl (tgt rfl) rfl (by omega)) ?_|rw[t1]|rw[t3]|rw[t2]);conv=>whnf))
   refine⟨ls.length - (i+1),fun k=>k,[0,3],[],by omega,by kernel_rfl,i+1,rfl,hlt, ?_,rfl,rfl⟩
   intro j hj
   by_cases hji:j=i
   ·rw[hji];exact decide_eq_true hL
   ·exact hs j (by omega)
  ·have t3:decide (((ls.getD i []).length:Int)>40)=true:=decide_eq_true (by omega)
   have e:(ls.all fun l=>decide (l.length≤40))=false:=all_no (d:=[]) hlt (decide_eq_false hL)
   rw[e]
   (repeat((first|refine tst_tt t1 ?_|refine tst_tt t3 ?_|refine g_o (op_lenM rfl rfl rfl (ev_ok rfl) (tgt rfl) rfl) ?_|refine g_o (op_loadA rfl (ev_ok rfl) (tgt rfl) rfl (Nat.succ_ne_zero _) rfl) ?_|refine g_o (op_indexN (α:=List (Int×Int)) (d:=[]) rfl (ev_ok rfl) (ev_ok rfl) (tgt rfl) rfl (tgt rfl) rfl (by omega)) ?_);conv=>whnf));(first|exact Recast.refl _|exact Frz.recast (Recast.refl _) rfl|(refine Frz.one rfl rfl ?_;skip)|(refine Frz.tup ?_;skip))
 ·have t1:=dge hlt
  obtain rfl:i=ls.length:=by omega
  have e:(ls.all fun l=>decide (l.length≤40))=true:=all_at [] hs
  rw[e]
  (repeat(first|(refine tst_ff t1 ?_;conv=>whnf)|(refine g_o (op_lenM rfl rfl rfl (ev_ok rfl) (tgt rfl) rfl) ?_;conv=>whnf)));(first|exact Recast.refl _|exact Frz.recast (Recast.refl _) rfl|(refine Frz.one rfl rfl ?_;skip)|(refine Frz.tup ?_;skip))
theorem c_pencil (l b:List (Int×Int)) (hl:l.length≤maxLen∧∀q∈l,qOK q) (hb:b.length≤maxLen∧∀q∈b,qOK q) {n:Nat} (hn:n≤5):
  CallOK Tryz.prog 13 [lQ l,lQ b,iv n] [] (.tup [mA n n (symL l n),mA n n (plusL b n)]) [] []:=by
 have k1:=c_Symm l hl.1 hl.2 (n:=n) (by omega)
 have k2:=c_Plus b hb.1 hb.2 hn
 refine callV (Z:=[]) tabOK mixedOK Tryz.func13 rfl (by kernel_rfl) rfl rfl (by kernel_rfl) rfl ?_
 intro W0 w0 ρ0 hE
 conv=>whnf
 (repeat(first|(refine g_c (by assumption) ?_;conv=>whnf)));(first|exact Recast.refl _|exact Frz.recast (Recast.refl _) rfl|(refine Frz.one rfl rfl ?_;skip)|(refine Frz.tup ?_;skip))
end Go.Proofs.YtfjhnollamkdcaaGreatDoor
namespace Go.Proofs.YtfjhnollamkdcaaGreatDoor
open Go.Sx
set_option linter.unusedSimpArgs false
set_option linter.unusedVariables false
set_option maxRecDepth 100000
set_option maxHeartbeats 40000000
section
variable {n B C D:Nat} {a m:List Rat} (h:Pen n B C a m)
include h
end
abbrev lOK (l:List (Int×Int)):Prop:=l.length≤maxLen∧∀q∈l,qOK q
end Go.Proofs.YtfjhnollamkdcaaGreatDoor
