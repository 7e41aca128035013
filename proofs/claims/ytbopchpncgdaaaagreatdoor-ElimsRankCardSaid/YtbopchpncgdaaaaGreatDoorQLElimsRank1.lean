/- The texts SxS, SxX, SxY, Ga, Hb, Hd, Ja, Ka, Kb, Kc, Kd, Kf, Kh, Kl, Km, Kn, Nc, Ng, Nh, Qr. -/
import Derived.Carry
import Derived.OpenShut
import Derived.Deep.Slices
import Derived.Lib.LaidTab
import Derived.Test.YtbopchpncgdaaaaGreatDoorQsB10
namespace Go.Sx
open Go.ChangeShapes
theorem trodAll_stays {H:Type} {enc:TypeId×Value→H} {P:Program} (hl:laidOutB P=true) {W W':World} (hb:RowKit.Below W.heap.size W W'):
  ∀(ts:List TypeId) (vs:List Value) (ds:List (DataW H)) (ps:List MemPlace),ts.all (fun t=>P.readableRec t&&decide (t<P.types.size))=true→DataW.TrodAll enc P W 0 (fun _=>true) true ts vs ds ps→(∀p∈ps,p.block<W.heap.size)→
   DataW.TrodAll enc P W' 0 (fun b=>decide (b<W.heap.size)) true ts vs ds ps
 |[],[],[],_,_,h,_=>h
 |t::ts,v::vs,d::ds,ps,hr,h,hlt=>by
  obtain⟨p,q,h1,h2,rfl⟩:=h
  simp only[List.all_cons,Bool.and_eq_true,decide_eq_true_eq]at hr
  exact⟨p,q,RowKit.Below.trod hl hr.1.1 hr.1.2 h1 hb (fun x hx=>hlt x (List.mem_append.2 (.inl hx))),trodAll_stays hl hb ts vs ds q hr.2 h2 (fun x hx=>hlt x (List.mem_append.2 (.inr hx))),rfl⟩
 |[],_::_,_,_,_,h,_=>h.elim
 |[],[],_::_,_,_,h,_=>h.elim
 |_::_,[],_,_,_,h,_=>h.elim
 |_::_,_::_,[],_,_,h,_=>h.elim
theorem law_post {H:Type} {enc:TypeId×Value→H} {P:Program} {f:Func} {s:ChangeSpec} {W W':World} {args:Array Value} {ds gs:List (DataW H)} {before:List MemPlace} {tb:TypeId}
  (hl:laidOutB P=true) (hr:f.params.toList.all (fun t=>P.readableRec t&&decide (t<P.types.size))=true) (hv:s.vars=[]) (hres:f.resultTypes= #[tb]) (htb:P.underlying tb=some .bool)
  (hW:DataW.Whole enc P f.params.toList s.vars false W args.toList ds gs before) (hfn:(s.fn H (ds++gs)).results=[.lit (.bool true)]∧(s.fn H (ds++gs)).args=ds∧(s.fn H (ds++gs)).vars=[])
  (hb:RowKit.Below W.heap.size W W'):s.post enc P f false true false false W args (.bool true) W':=by
 have hlt:=hW.lt
 have hW':=hW
 obtain⟨p,q,h1,h2,rfl,h3,h4⟩:=hW
 rw[hv]at h2
 obtain⟨rfl,rfl⟩:=trodVars_none h2
 rw[List.append_nil]at hlt
 refine⟨ds,[],p++[],[],p,[],hW', ?_, ?_, ?_,hb.frame _,fun h=>by cases h⟩
 ·rw[hfn.1,hres]
  exact trodAll_cons_mk (RowKit.shut_bool htb true) trodAll_mk0
 ·rw[hfn.2.1]
  exact trodAll_stays hl hb _ _ _ _ hr h1 hlt
 ·rw[hv,hfn.2.2]
  exact rfl
end Go.Sx
namespace Go.Sx
open Go.ChangeShapes Go.WideShapes
theorem tab_heap {P:Program} {W:World} {name:String} {k:IntKind} {zs:List Int} {g:Nat} (hg:P.globalNamed name=some g) (h:Lib.TabIs P W name k zs):∃ty fz,W.heap[g]? =some (.cells (zs.map fun x=>Value.int k x).toArray ty fz):=by
 unfold Lib.TabIs World.var? at h
 rw[hg]at h
 simp only[Option.bind_some]at h
 cases ho:W.heap[g]? with
 |none=>rw[ho]at h;cases h
 |some o=>
  rw[ho]at h
  cases o<;>simp_all
theorem law_runA {P:Program} {f:FuncId} {args:List SV} {W:World} (hf:FnOK P f) (h:CallOK P f args [] (.val (.bool true)) [] [])
  (hg:TabsW W) {z:List (List Value)} (hz:HasZ (allRho hg) args z):
  Calls P f (List.zipWith mkV args z).toArray W fun e w'=>e= .returned (.bool true)∧RowKit.Below W.heap.size W w':=by
 refine(h.calls hf hz ⟨(fun k b hb=>by cases hb),(fun k k' x x' b b' hb=>by cases hb),(fun b o hb=>hb),(fun k b x hb=>by cases hb),(fun k b hb=>by cases hb)⟩).mono ?_
 rintro e w' ⟨v,ρ',rfl,hp⟩
 refine⟨by rw[of_has_val hp.has], ?_⟩
 exact(hp.pres.mono (W':=fun _=>False) (fun b _ ⟨k,blk,t,hm,_⟩=>by cases hm)).below
section
variable {H:Type} {enc:TypeId×Value→H} {P:Program} {W:World} {hg:TabsW W}
theorem Opens.struct2 {t:TypeId} {f0 f1:Field} {α β:Type} {a:α→SV} {b:β→SV} {ga:α→Prop} {gb:β→Prop} (ht:P.underlying t=some (.struct #[f0,f1])) (o0:f0.offset=0) (o1:f1.offset=P.cellsOf f0.type) (hc:P.cellsOf t=P.cellsOf f0.type+P.cellsOf f1.type)
  (h0:Opens enc P hg f0.type a ga) (h1:Opens enc P hg f1.type b gb):Opens enc P hg t (ag2 a b) (fun p=>ga p.1∧gb p.2):=fun fuel cs x h=>by
 obtain⟨xs,n,rfl,_,hlen,hxl,hf⟩:=DataW.trod_struct ht h
 have hx0:xs.length=2:=hxl
 obtain⟨y0,y1,rfl⟩:∃y0 y1,xs=[y0,y1]:=by
  match xs,hx0 with
  |[y0,y1],_=>exact⟨y0,y1,rfl⟩
 have g0:=hf 0 f0 rfl
 have g1:=hf 1 f1 rfl
 obtain⟨p,p1,p2⟩:=h0 _ _ _ g0
 obtain⟨q,q1,q2⟩:=h1 _ _ _ g1
 refine⟨(p,q),⟨p1,q1⟩, ?_⟩
 simp only[ag2,HasC]
 refine⟨[_,_],by simp only[HasZ];exact⟨_,_,rfl,p2,_,_,rfl,q2,rfl⟩, ?_⟩
 simp only[List.flatten_cons,List.flatten_nil,List.append_nil,o0,o1,List.drop_zero]
 rw[List.take_of_length_le (l:=cs.drop _) (by rw[List.length_drop];omega),List.take_append_drop]
theorem mkV_one {c:SV} {v:Value} (h:c.isOne=true) (hv:v.cells.toList=[v]):mkV c v.cells.toList=v:=by rw[hv];simp[mkV,h]
theorem mkV_agg {c:SV} {v:Value} {cs:Array Value} (h:c.isOne=false) (hv:v= .agg cs):mkV c v.cells.toList=v:=by subst hv;simp[mkV,h,Value.cells]
end
end Go.Sx
namespace Go.Sx
theorem wf_u32 {x:Int} (h:(Lit.int .u32 x).wf=true):0≤x∧x<4294967296:=by
 simp[Lit.wf,IntKind.min,IntKind.max,IntKind.bits,IntKind.signed]at h;omega
theorem wf_u8 {x:Int} (h:(Lit.int .u8 x).wf=true):0≤x∧x<256:=by
 simp[Lit.wf,IntKind.min,IntKind.max,IntKind.bits,IntKind.signed]at h;omega
theorem wf_i64 {x:Int} (h:(Lit.int .i64 x).wf=true): -9223372036854775808≤x∧x<9223372036854775808:=by
 simp[Lit.wf,IntKind.min,IntKind.max,IntKind.bits,IntKind.signed]at h;omega
theorem laid_tail {P:Program} {W:World} {x:String×DataW Unit} {rest:List (String×DataW Unit)} (h:laidMet P (x::rest) W):laidMet P rest W:=by
 obtain⟨n,d⟩:=x
 obtain⟨ps,⟨g,t,cs,fuel,p,q,_,_,_,_,hr,rfl⟩,hn,hb⟩:=h
 exact⟨q,hr,(List.nodup_append.1 hn).2.1,fun b off hm=>hb b off (List.mem_append.2 (.inr hm))⟩
section
variable {α:Type} {p:α→Bool} {l:List α} {d:α}
end
end Go.Sx
namespace Go.Proofs.YtbopchpncgdaaaaGreatDoor
open Go.Sx
set_option linter.unusedSimpArgs false
set_option linter.unusedVariables false
set_option maxRecDepth 100000
set_option maxHeartbeats 4000000
theorem fs_add (a b:Rat):fs (a+b)≤fs a+fs b:=by have:=@fsz_add a b;unfold fs;omega
theorem f_Add (a b:Rat) (h:fs a+fs b≤1073741824):CallOK Tryz.prog 93 [.frac a,.frac b] [] (.frac (a+b)) [] []:=c_fAdd natBig a b (by unfold fs at h;omega)
theorem f_Mul (a b:Rat) (h:fs a+fs b≤1073741824):CallOK Tryz.prog 40 [.frac a,.frac b] [] (.frac (a*b)) [] []:=c_fMul natBig a b (by unfold fs at h;omega)
end Go.Proofs.YtbopchpncgdaaaaGreatDoor
namespace Go.Proofs.YtbopchpncgdaaaaGreatDoor
open Go.Sx
set_option linter.unusedSimpArgs false
set_option linter.unusedVariables false
set_option maxRecDepth 100000
set_option maxHeartbeats 4000000
theorem fs_qV {q:Int×Int} (h:qOK q):fs (qV q)≤130:=by
 have h1:=fs_div (q.1:Rat) ((if q.2<1 then 1 else q.2:Int):Rat)
 have h2:=fs_int h.1.1 h.1.2
 have h3:fs ((if q.2<1 then 1 else q.2:Int):Rat)≤65:=fs_int (by have:=h.2;split<;>omega) (by have:=h.2;split<;>omega)
 unfold qV
 omega
theorem app_snoc {α:Type} {l:List α} {i:Nat} {d:α} (h:i<l.length):(l.take i).take i++(([l.getD i d]:List α).drop 0).take 1=l.take (i+1):=by
 have e:l.take (i+1)=l.take i++[l.getD i d]:=by rw[List.take_add_one,List.getD_eq_getElem?_getD,List.getElem?_eq_getElem h];rfl
 rw[List.take_take,Nat.min_self,e];rfl
end Go.Proofs.YtbopchpncgdaaaaGreatDoor
namespace Go.Proofs.YtbopchpncgdaaaaGreatDoor
open Go.Sx
set_option linter.unusedSimpArgs false
set_option linter.unusedVariables false
set_option maxRecDepth 100000
set_option maxHeartbeats 4000000
theorem qOK_of {l:List (Int×Int)} (w:l.length≤maxLen∧∀x∈l,((Lit.int .i64 x.1).wf=true)∧((Lit.int .u32 x.2).wf=true)):∀q∈l,qOK q:=fun q hq=>⟨wf_i64 (w.2 q hq).1,wf_u32 (w.2 q hq).2⟩
section
variable {a b z:List Rat} {n i:Nat} {c:Rat}
end
end Go.Proofs.YtbopchpncgdaaaaGreatDoor
namespace Go.Proofs.YtbopchpncgdaaaaGreatDoor
open Go.Sx
set_option linter.unusedSimpArgs false
set_option linter.unusedVariables false
set_option maxRecDepth 100000
set_option maxHeartbeats 4000000
theorem sum_fs {f:Nat→Rat} {B:Nat}:∀n,(∀i,i<n→fs (f i)≤B)→fs (sumR n f)≤2+n*B
 |0,_=>by rw[sumR,fs_zero];omega
 |n+1,h=>by
  have h1:=sum_fs n (fun i hi=>h i (by omega))
  have h2:=h n (by omega)
  have:=fs_add (sumR n f) (f n)
  rw[sumR,Nat.succ_mul];omega
abbrev mturn (r c:Nat) (a:List Rat):List Rat:=mk c r fun i k=>el a c k i
end Go.Proofs.YtbopchpncgdaaaaGreatDoor
namespace Go.Proofs.YtbopchpncgdaaaaGreatDoor
open Go.Sx
set_option linter.unusedSimpArgs false
set_option linter.unusedVariables false
set_option maxRecDepth 100000
set_option maxHeartbeats 4000000
abbrev MV:=Int×Int×List Rat
abbrev mB (m:MV):SV:=mA m.1 m.2.1 m.2.2
def allF:List MV→Int
 |[]=>0
 |m::l=>if checkF m.1 m.2.1 m.2.2.length≠0 then checkF m.1 m.2.1 m.2.2.length else allF l
theorem drop_one {α:Type} {l:List α} {i:Nat} (d:α) (h:i<l.length):l.drop i=l.getD i d::l.drop (i+1):=by
 rw[List.drop_eq_getElem_cons h,List.getD_eq_getElem?_getD,List.getElem?_eq_getElem h];rfl
abbrev nilM:MV:=(0,0,[])
theorem m_all (l:List MV) (hl:l.length<1099511627776) (h:∀m∈l,m.2.2.length<1099511627776):CallOK Tryz.prog 95 [mvec 3 mB l] [] (iv (allF l)) [] []:=by
 refine callV (Z:=[]) tabOK mixedOK Tryz.func95 rfl (by kernel_rfl) rfl rfl (by kernel_rfl) rfl ?_
 intro W0 w0 ρ0 hE
 conv=>whnf
 (repeat(first|(refine g_o (op_lenM rfl rfl rfl (ev_ok rfl) (tgt rfl) rfl) ?_;conv=>whnf)))
 refine SW_loopN hE (fun k=>k) [0,6,7,8] [] (fun m fr hp=>∃i:Nat,m=l.length - i∧i≤l.length∧allF (l.drop i)=allF l∧fr=[(0,mvec 3 mB l),(6,mvec 3 mB l),(7,iv (l.length:Nat)),(8,iv (i:Nat))]∧hp=[]) l.length ?_ ?_ ?_
 ·kernel_rfl
 ·exact⟨0,rfl,Nat.zero_le _,rfl,rfl,rfl⟩
 rintro m _ _ ⟨i,rfl,hi,hs,rfl,rfl⟩
 conv=>whnf
 by_cases hlt:i<l.length
 ·have t1:=dlt hlt
  have t2:=winc (i:=i) (by omega)
  have k1:=m_Check (l.getD i nilM).1 (l.getD i nilM).2.1 (l.getD i nilM).2.2 (h _ (getD_mem hlt))
  rw[drop_one nilM hlt,allF]at hs
  by_cases hc:checkF (l.getD i nilM).1 (l.getD i nilM).2.1 (l.getD i nilM).2.2.length=0
  ·rw[if_neg (by omega)]at hs
   rw[hc]at k1
   (repeat((first|refine step_w1 rfl rfl ?_|refine step_w2 rfl rfl ?_|refine g_c (by assumption) ?_|rw[bne_self_eq_false]|refine g_o (op_loadA rfl (ev_ok rfl) (tgt rfl) rfl (Nat.succ_ne_zero _) rfl) ?_|refine g_o (op_indexN (α:=MV) (d:=nilM) rfl (ev_ok rfl) (ev_ok rfl) (tgt rfl) rfl (tgt rfl) rfl (by omega)) ?_|rw[t1]|rw[t2]);conv=>whnf))
   exact⟨l.length - (i+1),fun k=>k,[0,6,7,8],[],by omega,by kernel_rfl,i+1,rfl,hlt,hs,rfl,rfl⟩
  ·have t3:(checkF (l.getD i nilM).1 (l.getD i nilM).2.1 (l.getD i nilM).2.2.length != 0)=true:=bne_iff_ne.2 hc
   rw[if_pos hc]at hs
   rw[←hs]
   (repeat((first|refine step_w1 rfl rfl ?_|refine g_c (by assumption) ?_|refine g_o (op_loadA rfl (ev_ok rfl) (tgt rfl) rfl (Nat.succ_ne_zero _) rfl) ?_|refine g_o (op_indexN (α:=MV) (d:=nilM) rfl (ev_ok rfl) (ev_ok rfl) (tgt rfl) rfl (tgt rfl) rfl (by omega)) ?_|rw[t1]|rw[t3]);conv=>whnf));(first|exact Recast.refl _|exact Frz.recast (Recast.refl _) rfl|(refine Frz.one rfl rfl ?_;skip)|(refine Frz.tup ?_;skip))
 ·have t1:=dge hlt
  have hI:i=l.length:=by omega
  rw[hI,List.drop_length]at hs
  rw[←hs]
  (repeat(first|(refine step_w2 rfl rfl ?_;conv=>whnf)|(rw[t1];conv=>whnf)));(first|exact Recast.refl _|exact Frz.recast (Recast.refl _) rfl|(refine Frz.one rfl rfl ?_;skip)|(refine Frz.tup ?_;skip))
theorem m_all2 {r c s t:Nat} {a b:List Rat} (ha:OKM r c a) (hb:OKM s t b):CallOK Tryz.prog 95 [mvec 3 mB [((r:Int),(c:Int),a),((s:Int),(t:Int),b)]] [] (iv 0) [] []:=by
 have:=m_all [((r:Int),(c:Int),a),((s:Int),(t:Int),b)] (by simp) (by
  intro m hm
  have h1:=ha.small;have h2:=hb.small
  simp only[List.mem_cons,List.not_mem_nil,or_false]at hm
  rcases hm with rfl|rfl
  ·show a.length<_;omega
  ·show b.length<_;omega)
 rwa [allF,if_neg (by rw[check_ok ha.r ha.c ha.n];decide),allF,if_neg (by rw[check_ok hb.r hb.c hb.n];decide),allF]at this
end Go.Proofs.YtbopchpncgdaaaaGreatDoor
namespace Go.Sx
set_option linter.unusedSimpArgs false
set_option linter.unusedVariables false
section
variable {P:Program} {o:Oper} {ft:List (Nat×SV)} {fk:List (Nat×Blk)}
end
end Go.Sx
namespace Go.Proofs.YtbopchpncgdaaaaGreatDoor
open Go.Sx
set_option linter.unusedSimpArgs false
set_option linter.unusedVariables false
set_option maxRecDepth 100000
set_option maxHeartbeats 4000000
theorem m_Make1 {r c:Nat} (hr:r≤2048) (hc:c≤2048) (F:Nat→Nat→Rat) (g:FuncId) (p:Pred)
  (hf:∀i k,i<r→k<c→CallOK Tryz.prog g ([]++([iv (i:Nat),iv (k:Nat)]++[.atom p])) [] (.frac (F i k)) [] []):
  CallOK Tryz.prog 96 [iv r,iv c,.clo g [] [.atom p]] [] (.tup [mA r c (mk r c F),iv 0]) [] []:=by
 have k1:=m_sides r c
 rw[sides_of (by omega)]at k1
 have hz:(mk r c F).length=r*c:=mk_len ..
 have hrc:r*c≤2048*2048:=Nat.mul_le_mul hr hc
 have t1:IntKind.i64.wrap ((r:Int)*(c:Int))=((r*c:Nat):Int):=by rw[←Int.natCast_mul,wrap_i64 (by omega) (by omega)]
 refine callF (Z:=[]) tabOK mixedOK Tryz.func96 rfl (by kernel_rfl) (by first|rfl|(simp[keylessL,keyless,keylessL_map, *];done)) (by first|rfl|(simp[keylessL,keyless,keylessL_map, *];done)) (by kernel_rfl) rfl ?_
 intro w0 ρ0 hE
 conv=>whnf
 (repeat((first|refine step_w2 rfl rfl ?_|refine step_oA (by first|omega|decide|(simp only[tl0,dlen,List.length_replicate,List.length_set,List.length_map,List.length_zipWith,List.length_take,List.length_append,List.length_cons,List.length_nil];omega)) ?_|refine g_c (by assumption) ?_|rw[bne_self_eq_false]|refine⟨_,op_eqNilF rfl (ev_ok rfl) (ev_ok rfl) Tryz.underlying142, ?_⟩|rw[t1]|rw[Int.toNat_natCast]);conv=>whnf))
 refine SW_loopN hE (fun k=>k) [0,1,2,6,9,30,31] [6,9,25] (fun m fr hp=>∃i:Nat,m=r - i∧i≤r∧fr=[(0,iv r),(1,iv c),(2,.clo g [] [.atom p]),(6,.ptr 6 0 0 0),(9,.ptr 9 0 0 0),(30,iv r),(31,iv (i:Nat))]∧
  hp=[(6,zM),(9,bM r c 25),(25,fblk ((mk r c F).take (i*c)++List.replicate (r*c - i*c) 0))]) r ?_ ?_ ?_
 ·kernel_rfl
 ·exact⟨0,rfl,Nat.zero_le _,rfl,by rw[Nat.zero_mul,List.take_zero];rfl⟩
 rintro m _ _ ⟨i,rfl,hi,rfl,rfl⟩
 conv=>whnf
 by_cases hlt:i<r
 ·have t2:=dlt hlt
  have t3:=winc (i:=i) (by omega)
  have hic:(i+1)*c≤r*c:=Nat.mul_le_mul_right c hlt
  rw[Nat.succ_mul]at hic
  have hlen:=fill_len (d:=(0:Rat)) (show i*c≤r*c by omega) hz
  have o1:=m_rowM (a:=(mk r c F).take (i*c)++List.replicate (r*c - i*c) 0) ⟨hr,hc,hlen⟩ hlt 25
  (repeat(first|(refine step_w1 rfl rfl ?_;conv=>whnf)|(refine g_c1 (by assumption) rfl ?_;conv=>whnf)|(rw[t2];conv=>whnf)))
  refine SW_loopN hE (fun k=>k) [0,1,2,6,9,10,11,30,31,37,38] [6,9,25] (fun m fr hp=>∃k:Nat,m=c - k∧k≤c∧fr=[(0,iv r),(1,iv c),(2,.clo g [] [.atom p]),(6,.ptr 6 0 0 0),(9,.ptr 9 0 0 0),(10,iv (i:Nat)),(11,.slc 25 5 (i*c) c),(30,iv r),(31,iv (i:Nat)),(37,iv c),(38,iv (k:Nat))]∧
   hp=[(6,zM),(9,bM r c 25),(25,fblk ((mk r c F).take (i*c+k)++List.replicate (r*c - (i*c+k)) 0))]) c ?_ ?_ ?_
  ·kernel_rfl
  ·exact⟨0,rfl,Nat.zero_le _,rfl,rfl⟩
  rintro m _ _ ⟨k,rfl,hk,rfl,rfl⟩
  conv=>whnf
  by_cases hlk:k<c
  ·have t4:=dlt hlk
   have t5:=winc (i:=k) (by omega)
   have hlen:=fill_len (d:=(0:Rat)) (show i*c+k≤r*c by omega) hz
   have o2:=hf i k hlt hlk
   rw[←mk_el (f:=F) hlt hlk]at o2
   (repeat((first|refine step_w1 rfl rfl ?_|refine step_oL (by first|omega|decide|(simp only[tl0,dlen,List.length_replicate,List.length_set,List.length_map,List.length_zipWith,List.length_take,List.length_append,List.length_cons,List.length_nil];omega)) ?_|refine step_oA (by first|omega|decide|(simp only[tl0,dlen,List.length_replicate,List.length_set,List.length_map,List.length_zipWith,List.length_take,List.length_append,List.length_cons,List.length_nil];omega)) ?_|refine g_c (by assumption) ?_|rw[t4]|rw[t5]|rw[Int.toNat_natCast]);conv=>whnf))
   refine⟨c - (k+1),fun k=>k,[0,1,2,6,9,10,11,30,31,37,38],[6,9,25],by omega,by kernel_rfl,k+1,rfl,hlk,rfl, ?_⟩
   rw[show i*c+(k+1)=i*c+k+1 from rfl,fblk,←fill_set (e:=0) (show i*c+k<r*c by omega) hz]
   rfl
  ·have t4:=dge hlk
   obtain rfl:k=c:=by omega
   (repeat(first|(refine step_w2 rfl rfl ?_;conv=>whnf)|(rw[t4];conv=>whnf)|(rw[t3];conv=>whnf)))
   refine⟨r - (i+1),fun k=>k,[0,1,2,6,9,30,31],[6,9,25],by omega,by kernel_rfl,i+1,rfl,hlt,rfl, ?_⟩
   rw[Nat.succ_mul]
   rfl
 ·have t2:=dge hlt
  obtain rfl:i=r:=by omega
  rw[fill_all hz]
  (repeat(first|(refine step_w2 rfl rfl ?_;conv=>whnf)|(rw[t2];conv=>whnf)))
  (first|exact Recast.refl _|exact Frz.recast (Recast.refl _) rfl|(refine Frz.one rfl rfl ?_;skip)|(refine Frz.tup ?_;(repeat(first|exact FrzC.keyless rfl|exact FrzL.nil|refine FrzL.cons ?_ ?_|(refine FrzC.fracs rfl ?_;(first|rfl|omega|(simp<;>fail)|(simp<;>omega)))|refine FrzC.agg ?_))))
end Go.Proofs.YtbopchpncgdaaaaGreatDoor
namespace Go.Proofs.YtbopchpncgdaaaaGreatDoor
open Go.Sx
set_option linter.unusedSimpArgs false
set_option linter.unusedVariables false
set_option maxRecDepth 100000
set_option maxHeartbeats 4000000
theorem m_Turn1 {r c:Nat} {a:List Rat} (ha:OKM r c a) (i k:Nat) (hi:i<c) (hk:k<r):CallOK Tryz.prog 99 ([]++([iv (i:Nat),iv (k:Nat)]++[ptrA (mC r c a)])) [] (.frac (el a c k i)) [] []:=by
 have k1:=m_at ha hk hi
 refine callV (Z:=[]) tabOK mixedOK Tryz.func99 rfl (by kernel_rfl) rfl rfl (by kernel_rfl) rfl ?_
 intro W0 w0 ρ0 hE
 conv=>whnf
 (repeat(first|(refine g_c (by assumption) ?_;conv=>whnf)|(refine g_o (op_loadA rfl (ev_ok rfl) (tgt rfl) rfl (Nat.succ_ne_zero _) rfl) ?_;conv=>whnf)));(first|exact Recast.refl _|exact Frz.recast (Recast.refl _) rfl|(refine Frz.one rfl rfl ?_;skip)|(refine Frz.tup ?_;skip))
theorem m_Turn {r c:Nat} {a:List Rat} (ha:OKM r c a):CallOK Tryz.prog 39 [mA r c a] [] (.tup [mA c r (mturn r c a),iv 0]) [] []:=by
 have k0:=m_Check0 ha
 have k1:=m_Make1 ha.c ha.r _ 99 (ptrP (mC r c a)) (fun i k hi hk=>m_Turn1 ha i k hi hk)
 refine callV (Z:=[1]) tabOK mixedOK Tryz.func39 rfl (by kernel_rfl) rfl rfl (by kernel_rfl) rfl ?_
 intro W0 w0 ρ0 hE
 conv=>whnf
 (repeat((first|refine step_w2 rfl rfl ?_|refine g_c (by assumption) ?_|rw[bne_self_eq_false]|refine g_o (op_loadA rfl (ev_ok rfl) (tgt rfl) rfl (Nat.succ_ne_zero _) rfl) ?_|refine g_o (op_fieldA rfl (ev_ok rfl) (tgt rfl) rfl rfl (Nat.succ_ne_zero _) rfl) ?_|refine g_o (op_makeFunc rfl rfl rfl) ?_);conv=>whnf));(first|exact Recast.refl _|exact Frz.recast (Recast.refl _) rfl|(refine Frz.one rfl rfl ?_;skip)|(refine Frz.tup ?_;skip))
end Go.Proofs.YtbopchpncgdaaaaGreatDoor
namespace Go.Proofs.YtbopchpncgdaaaaGreatDoor
open Go.Sx
set_option linter.unusedSimpArgs false
set_option linter.unusedVariables false
set_option maxRecDepth 100000
set_option maxHeartbeats 4000000
theorem m_Mul1 {r s t A B S:Nat} {a b:List Rat} (ha:OKM r s a) (hb:OKM s t b) (sa:Sm A a) (sb:Sm B b) (hS:s≤S) (h:A+B+(2+S*(A+B))≤1073741824) (i k:Nat) (hi:i<r) (hk:k<t):
  CallOK Tryz.prog 97 ([]++([iv (i:Nat),iv (k:Nat)]++[ptrA (mC r s a),ptrA (mC s t b)])) [] (.frac (sumR s fun p=>el a s i p*el b t p k)) [] []:=by
 have hs:=ha.c
 refine callV (Z:=[]) tabOK mixedOK Tryz.func97 rfl (by kernel_rfl) rfl rfl (by kernel_rfl) rfl ?_
 intro W0 w0 ρ0 hE
 conv=>whnf
 (repeat(first|(refine g_o (op_loadA rfl (ev_ok rfl) (tgt rfl) rfl (Nat.succ_ne_zero _) rfl) ?_;conv=>whnf)|(refine g_o (op_fieldA rfl (ev_ok rfl) (tgt rfl) rfl rfl (Nat.succ_ne_zero _) rfl) ?_;conv=>whnf)))
 refine SW_loopN hE (fun k=>k) [0,1,2,3,6,7,11,12] [6,7] (fun m fr hp=>∃(p:Nat) (q:Rat),m=s - p∧p≤s∧q=sumR p (fun p=>el a s i p*el b t p k)∧fs q≤2+p*(A+B)∧fr=[(0,iv (i:Nat)),(1,iv (k:Nat)),(2,ptrA (mC r s a)),(3,ptrA (mC s t b)),(6,.ptr 6 0 0 0),(7,.ptr 7 0 0 0),(11,iv s),(12,iv (p:Nat))]∧hp=[(6,⟨53,true,.one [.frac 0]⟩),(7,⟨53,true,.one [.frac q]⟩)]) s ?_ ?_ ?_
 ·kernel_rfl
 ·exact⟨0,0,rfl,Nat.zero_le _,rfl,by rw[fs_zero];omega,rfl,rfl⟩
 rintro m _ _ ⟨p,q,rfl,hp,hq,hfs,rfl,rfl⟩
 conv=>whnf
 by_cases hlt:p<s
 ·have t1:=dlt hlt
  have t2:=winc (i:=p) (by omega)
  have o1:=m_at ha hi hlt
  have o2:=m_at hb hlt hk
  have b1:=el_sm sa ha.n hi hlt
  have b2:=el_sm sb hb.n hlt hk
  have b3:=fs_mul (el a s i p) (el b t p k)
  have b4:=Nat.mul_le_mul_right (A+B) (show p≤S by omega)
  have o3:=f_Mul (el a s i p) (el b t p k) (by omega)
  have o4:=f_Add q (el a s i p*el b t p k) (by omega)
  have b5:=fs_add q (el a s i p*el b t p k)
  have e1:sumR (p+1) (fun p=>el a s i p*el b t p k)=q+el a s i p*el b t p k:=by rw[hq];rfl
  have e2:fs (q+el a s i p*el b t p k)≤2+(p+1)*(A+B):=by rw[Nat.succ_mul];omega
  clear hq hfs b1 b2 b3 b4 b5
  generalize q+el a s i p*el b t p k=q1 at*
  (repeat((first|refine step_w1 rfl rfl ?_|refine step_i (by kernel_rfl) ?_|refine g_c (by assumption) ?_|refine g_o (op_loadA rfl (ev_ok rfl) (tgt rfl) rfl (Nat.succ_ne_zero _) rfl) ?_|rw[t1]|rw[t2]);conv=>whnf))
  exact⟨s - (p+1),fun k=>k,[0,1,2,3,6,7,11,12],[6,7],by omega,by kernel_rfl,p+1,q1,rfl,hlt,e1.symm,e2,rfl,rfl⟩
 ·have t1:=dge hlt
  have hP:p=s:=by omega
  subst hP
  rw[←hq]
  (repeat(first|(refine step_w2 rfl rfl ?_;conv=>whnf)|(rw[t1];conv=>whnf)));(first|exact Recast.refl _|exact Frz.recast (Recast.refl _) rfl|(refine Frz.one rfl rfl ?_;skip)|(refine Frz.tup ?_;skip))
theorem m_Mul {r s t A B:Nat} (S:Nat) {a b:List Rat} (ha:OKM r s a) (hb:OKM s t b) (sa:Sm A a) (sb:Sm B b) (hS:s≤S) (h:A+B+(2+S*(A+B))≤1073741824):
  CallOK Tryz.prog 38 [mA r s a,mA s t b] [] (.tup [mA r t (mmul r s t a b),iv 0]) [] []:=by
 have k0:=m_all2 ha hb
 have k1:=m_Make2 ha.r hb.c _ 97 (ptrP (mC r s a)) (ptrP (mC s t b)) (m_Mul1 ha hb sa sb hS h)
 refine callV (Z:=[2,3,9]) tabOK mixedOK Tryz.func38 rfl (by kernel_rfl) rfl rfl (by kernel_rfl) rfl ?_
 intro W0 w0 ρ0 hE
 conv=>whnf
 (repeat((first|refine step_w2 rfl rfl ?_|refine g_c (by assumption) ?_|rw[bne_self_eq_false]|refine g_o (op_loadA rfl (ev_ok rfl) (tgt rfl) rfl (Nat.succ_ne_zero _) rfl) ?_|refine g_o (op_fieldA rfl (ev_ok rfl) (tgt rfl) rfl rfl (Nat.succ_ne_zero _) rfl) ?_|refine g_o (op_makeFunc rfl rfl rfl) ?_);conv=>whnf));(first|exact Recast.refl _|exact Frz.recast (Recast.refl _) rfl|(refine Frz.one rfl rfl ?_;skip)|(refine Frz.tup ?_;skip))
theorem Sm_mul {r s t A B S:Nat} {a b:List Rat} (ha:a.length=r*s) (hb:b.length=s*t) (sa:Sm A a) (sb:Sm B b) (hS:s≤S):Sm (2+S*(A+B)) (mmul r s t a b):=
 Sm_mk fun i k hi hk=>by
  have h1:=sum_fs (f:=fun p=>el a s i p*el b t p k) (B:=A+B) s (fun p hp=>by have:=fs_mul (el a s i p) (el b t p k);have:=el_sm sa ha hi hp;have:=el_sm sb hb hp hk;omega)
  have:=Nat.mul_le_mul_right (A+B) hS
  omega
end Go.Proofs.YtbopchpncgdaaaaGreatDoor
namespace Go.Sx
set_option linter.unusedSimpArgs false
set_option linter.unusedVariables false
theorem Opens.struct3 {H:Type} {enc:TypeId×Value→H} {P:Program} {W:World} {hg:TabsW W} {t:TypeId} {f0 f1 f2:Field} {α β γ:Type} {a:α→SV} {b:β→SV} {c:γ→SV} {ga:α→Prop} {gb:β→Prop} {gc:γ→Prop} (ht:P.underlying t=some (.struct #[f0,f1,f2])) (o0:f0.offset=0) (o1:f1.offset=P.cellsOf f0.type)
  (o2:f2.offset=P.cellsOf f0.type+P.cellsOf f1.type) (hc:P.cellsOf t=P.cellsOf f0.type+P.cellsOf f1.type+P.cellsOf f2.type)
  (h0:Opens enc P hg f0.type a ga) (h1:Opens enc P hg f1.type b gb) (h2:Opens enc P hg f2.type c gc):Opens enc P hg t (ag3 a b c) (fun p=>ga p.1∧gb p.2.1∧gc p.2.2):=fun fuel cs x h=>by
 obtain⟨xs,n,rfl,_,hlen,hxl,hf⟩:=DataW.trod_struct ht h
 have hx0:xs.length=3:=hxl
 obtain⟨y0,y1,y2,rfl⟩:∃y0 y1 y2,xs=[y0,y1,y2]:=by
  match xs,hx0 with
  |[y0,y1,y2],_=>exact⟨y0,y1,y2,rfl⟩
 have g0:=hf 0 f0 rfl
 have g1:=hf 1 f1 rfl
 have g2:=hf 2 f2 rfl
 obtain⟨p,p1,p2⟩:=h0 _ _ _ g0
 obtain⟨q,q1,q2⟩:=h1 _ _ _ g1
 obtain⟨r,r1,r2⟩:=h2 _ _ _ g2
 refine⟨(p,q,r),⟨p1,q1,r1⟩, ?_⟩
 simp only[ag3,HasC]
 refine⟨[_,_,_],by simp only[HasZ];exact⟨_,_,rfl,p2,_,_,rfl,q2,_,_,rfl,r2,rfl⟩, ?_⟩
 simp only[List.flatten_cons,List.flatten_nil,List.append_nil,o0,o1,o2,List.drop_zero]
 rw[List.take_of_length_le (l:=cs.drop (P.cellsOf f0.type+P.cellsOf f1.type)) (by rw[List.length_drop];omega),←List.drop_drop,List.take_append_drop,List.take_append_drop]
end Go.Sx
namespace Go.Proofs.YtbopchpncgdaaaaGreatDoor
open Go.Sx
set_option linter.unusedSimpArgs false
set_option linter.unusedVariables false
set_option maxRecDepth 100000
set_option maxHeartbeats 4000000
def mOK (m:MM):Prop:=(0≤m.1∧m.1<256)∧(0≤m.2.1∧m.2.1<256)∧m.2.2.length≤maxLen∧∀q∈m.2.2,qOK q
theorem Sm_some {l:List (Int×Int)} (h:∀q∈l,qOK q) (n:Nat):Sm 130 (someL l n):=by
 intro p hp
 rw[someL_len]at hp
 rw[someL_get hp];exact fs_qV (qOK_at h p)
theorem OKM_some (l:List (Int×Int)) {r c:Nat} (hr:r≤2048) (hc:c≤2048):OKM r c (someL l (r*c)):=⟨hr,hc,someL_len ..⟩
theorem wrap_u8 {n:Int} (h0:0≤n) (h:n<256):IntKind.u8.wrap n=n:=by
 simp[IntKind.wrap,IntKind.bits,IntKind.signed];omega
theorem app_one {α:Type} {l:List α} {i:Nat} {d:α} (h:i<l.length):l.take (i+1)=(l.take i).take i++(([l.getD i d]:List α).drop 0).take 1:=(app_snoc h).symm
theorem c_Some (m:MM) (hm:mOK m) {r c:Nat} (hr:r≤12) (hc:c≤12):CallOK Tryz.prog 31 [mQ m,iv r,iv c] [] (mA r c (someL m.2.2 (r*c))) [] []:=by
 obtain⟨A,B,l⟩:=m
 obtain⟨_,_,hl,hq⟩:=hm
 replace hl:l.length≤maxLen:=hl
 have hz:=someL_len l (r*c)
 have hN:r*c≤12*12:=Nat.mul_le_mul hr hc
 have t0:IntKind.i64.wrap ((r:Int)*(c:Int))=((r*c:Nat):Int):=by rw[←Int.natCast_mul,wrap_i64 (by omega) (by omega)]
 generalize r*c=N at*
 refine callF (Z:=[3]) tabOK mixedOK Tryz.func31 rfl (by kernel_rfl) (by first|rfl|(simp[keylessL,keyless,keylessL_map, *];done)) (by first|rfl|(simp[keylessL,keyless,keylessL_map, *];done)) (by kernel_rfl) rfl ?_
 intro w0 ρ0 hE
 conv=>whnf
 skip
 refine SWx_adoptB (j:=7) (k:=2001) (s:=5) (p:=2) (blk:=fblk []) rfl rfl rfl rfl rfl ?_
 refine SW_loopS hE (fun k=>k) [1,2,3,6,7,8] [6,7,2001] (fun m fr hp=>∃i:Nat,m=N - i∧i≤N∧fr=[(1,iv r),(2,iv c),(3,ptrA [iel .u8 A,iel .u8 B,mvec 2 qA l]),(6,.ptr 6 0 0 0),(7,.ptr 7 0 0 0),(8,iv (i:Nat))]∧
  hp=[(6,zM),(7,⟨24,true,.one [iv r,iv c,.slc 2001 5 0 i]⟩),(2001,fblk ((someL l N).take i))]) N ?_ ?_ ?_
 ·kernel_rfl
 ·exact⟨0,rfl,Nat.zero_le _,rfl,rfl⟩
 rintro m _ _ ⟨i,rfl,hi,rfl,rfl⟩
 have hlt0:((someL l N).take i).length=i:=by rw[List.length_take];omega
 by_cases hlt:i<N
 ·have t1:=dlt hlt
  have t2:=winc (i:=i) (by omega)
  have o1:=c_QOf (l.getD i (0,0)) (qOK_at hq i)
  rw[show qV (l.getD i (0,0))=(someL l N).getD i 0 from(someL_get hlt).symm]at o1
  have e1:=app_one (d:=(0:Rat)) (show i<(someL l N).length by omega)
  refine SWx.of hE ?_
  conv=>whnf
  by_cases hil:i<l.length
  ·have t3:=dlt hil
   (repeat((first|refine step_w1 rfl rfl ?_|refine step_i (by kernel_rfl) ?_|refine step_oA (by first|omega|decide|(simp only[tl0,dlen,List.length_replicate,List.length_set,List.length_map,List.length_zipWith,List.length_take,List.length_append,List.length_cons,List.length_nil];omega)) ?_|refine g_c (by assumption) ?_|refine g_o (op_lenM rfl rfl rfl (ev_ok rfl) (tgt rfl) rfl) ?_|refine g_o (op_loadA rfl (ev_ok rfl) (tgt rfl) rfl (Nat.succ_ne_zero _) rfl) ?_|refine g_o (op_indexN (α:=Int×Int) (d:=(0,0)) rfl (ev_ok rfl) (ev_ok rfl) (tgt rfl) rfl (tgt rfl) rfl (by omega)) ?_|refine g_o (op_fieldA rfl (ev_ok rfl) (tgt rfl) rfl rfl (Nat.succ_ne_zero _) rfl) ?_|rw[t0]|rw[t1]|rw[t3]|rw[t2]|rw[Nat.zero_add]);conv=>whnf))
   refine⟨N - (i+1),renBy [(36,2001)],[1,2,3,6,7,8],[6,7,36],by omega,by kernel_rfl,i+1,rfl,hlt,rfl, ?_⟩
   rw[e1];rfl
  ·have t3:=dge hil
   rw[show l.getD i (0,0)=(0,0)from by rw[List.getD_eq_getElem?_getD,List.getElem?_eq_none (by omega)];rfl]at o1
   (repeat((first|refine step_w1 rfl rfl ?_|refine step_w2 rfl rfl ?_|refine step_i (by kernel_rfl) ?_|refine step_oA (by first|omega|decide|(simp only[tl0,dlen,List.length_replicate,List.length_set,List.length_map,List.length_zipWith,List.length_take,List.length_append,List.length_cons,List.length_nil];omega)) ?_|refine g_c (by assumption) ?_|refine g_o (op_lenM rfl rfl rfl (ev_ok rfl) (tgt rfl) rfl) ?_|refine g_o (op_loadA rfl (ev_ok rfl) (tgt rfl) rfl (Nat.succ_ne_zero _) rfl) ?_|refine g_o (op_fieldA rfl (ev_ok rfl) (tgt rfl) rfl rfl (Nat.succ_ne_zero _) rfl) ?_|rw[t0]|rw[t1]|rw[t3]|rw[t2]|rw[Nat.zero_add]);conv=>whnf))
   refine⟨N - (i+1),renBy [(36,2001)],[1,2,3,6,7,8],[6,7,36],by omega,by kernel_rfl,i+1,rfl,hlt,rfl, ?_⟩
   rw[e1];rfl
 ·have t1:=dge hlt
  obtain rfl:i=N:=by omega
  rw[List.take_of_length_le (by omega)]
  refine SWx.of hE ?_
  conv=>whnf
  (repeat(first|(refine step_w2 rfl rfl ?_;conv=>whnf)|(rw[t0];conv=>whnf)|(rw[t1];conv=>whnf)))
  (first|exact Recast.refl _|exact Frz.recast (Recast.refl _) rfl|(refine Frz.one rfl rfl ?_;(repeat(first|exact FrzC.keyless rfl|exact FrzL.nil|refine FrzL.cons ?_ ?_|(refine FrzC.fracs rfl ?_;(first|rfl|omega|(simp<;>fail)|(simp<;>omega)))|refine FrzC.agg ?_)))|(refine Frz.tup ?_;skip))
end Go.Proofs.YtbopchpncgdaaaaGreatDoor
namespace Go.Proofs.YtbopchpncgdaaaaGreatDoor
open Go.Sx
set_option linter.unusedSimpArgs false
set_option linter.unusedVariables false
set_option maxRecDepth 100000
set_option maxHeartbeats 4000000
theorem Sm_turn {r c B:Nat} {a:List Rat} (ha:a.length=r*c) (sa:Sm B a):Sm B (mturn r c a):=Sm_mk fun _ _ hi hk=>el_sm sa ha hk hi
end Go.Proofs.YtbopchpncgdaaaaGreatDoor
namespace Go.Proofs.YtbopchpncgdaaaaGreatDoor
open Go.Sx
set_option linter.unusedSimpArgs false
set_option linter.unusedVariables false
set_option maxRecDepth 100000
set_option maxHeartbeats 8000000
abbrev MWf (m:MM):Prop:=((Lit.int .u8 m.1).wf=true)∧((Lit.int .u8 m.2.1).wf=true)∧(m.2.2.length≤maxLen∧∀x∈m.2.2,((Lit.int .i64 x.1).wf=true)∧((Lit.int .u32 x.2).wf=true))
theorem mOK_of {m:MM} (w:MWf m):mOK m:=⟨wf_u8 w.1,wf_u8 w.2.1,w.2.2.1,qOK_of w.2.2⟩
end Go.Proofs.YtbopchpncgdaaaaGreatDoor
namespace Go.Proofs.YtbopchpncgdaaaaGreatDoor
open Go.Sx
set_option linter.unusedSimpArgs false
set_option linter.unusedVariables false
set_option maxRecDepth 100000
set_option maxHeartbeats 8000000
theorem u8_mod (x:Int) (h:0≤x∧x<256) (m:Int) (hm:0<m∧m<256):IntKind.u8.wrap (x.tmod m)=x.tmod m∧IntKind.i64.wrap (x.tmod m)=((x % m).toNat:Nat):=by
 have h1:=Int.emod_nonneg x (show m≠0 by omega)
 have h2:=Int.emod_lt_of_pos x hm.1
 rw[Int.tmod_eq_emod_of_nonneg h.1]
 constructor
 ·exact wrap_u8 h1 (by omega)
 ·rw[wrap_i64 (by omega) (by omega)];omega
theorem OKM_mul {r s t:Nat} {a b:List Rat} (ha:OKM r s a) (hb:OKM s t b):OKM r t (mmul r s t a b):=OKM_mk ha.r hb.c
theorem OKM_turn {r c:Nat} {a:List Rat} (ha:OKM r c a):OKM c r (mturn r c a):=OKM_mk ha.c ha.r
end Go.Proofs.YtbopchpncgdaaaaGreatDoor
namespace Go.Proofs.YtbopchpncgdaaaaGreatDoor
open Go.Sx
set_option linter.unusedSimpArgs false
set_option linter.unusedVariables false
set_option maxRecDepth 100000
set_option maxHeartbeats 4000000
section
variable {s:Nat} {A:Mx} (hd:det s A≠0)
include hd
end
theorem det_block {s:Nat}:∀(m:Nat) {A:Mx},(∀i k,s≤i→k<s→A i k=0)→det (s+m) A=det s A*det m fun i k=>A (s+i) (s+k):=by
 intro m A h
 let G:Mx→Mx:=fun S a b=>if a<s then A a b else if b<s then 0 else S (a - s) (b - s)
 have hG:Alt m fun S=>det (s+m) (G S):={
  congr:=fun S S' hS=>det_congr fun a b ha hb=>by
   show G S a b=G S' a b
   simp only[G]
   by_cases g:a<s
   ·rw[if_pos g,if_pos g]
   ·rw[if_neg g,if_neg g]
    by_cases g2:b<s
    ·rw[if_pos g2,if_pos g2]
    ·rw[if_neg g2,if_neg g2];exact hS _ _ (by omega) (by omega)
  lin:=fun S i x c y hi=>by
   have e:∀z,G (setRow S i z)=setRow (G S) (s+i) fun b=>if b<s then 0 else z (b - s):=fun z=>by
    funext a b
    by_cases g:a=s+i
    ·subst g
     rw[setRow_at];simp only[G]
     rw[if_neg (by omega),show s+i - s=i by omega,setRow_at]
    ·rw[setRow_ne _ _ g];simp only[G]
     by_cases g1:a<s
     ·rw[if_pos g1,if_pos g1]
     ·rw[if_neg g1,if_neg g1,setRow_ne _ _ (by omega)]
   show det _ _=det _ _+c*det _ _
   rw[e,e,e,←det_lin _ _ _ _ _ _ (by omega)]
   congr 2
   funext b
   split<;>grind
  alt:=fun S i hi hS=>det_alt0 _ _ (s+i) (by omega) fun b hb=>by
   simp only[G]
   rw[if_neg (show ¬s+i<s by omega),if_neg (show ¬s+i+1<s by omega)]
   by_cases g:b<s
   ·rw[if_pos g,if_pos g]
   ·rw[if_neg g,if_neg g,show s+i - s=i by omega,show s+i+1 - s=i+1 by omega];exact hS _ (by omega)}
 have h1:=alt_unique m _ hG fun i k=>A (s+i) (s+k)
 have h2:∀m,det (s+m) (fun a b=>if a<s then A a b else if b<s then 0 else delta (a - s) (b - s))=det s A:=by
  intro m
  induction m with
  |zero=>exact det_congr fun a b ha _=>by rw[if_pos (by omega)]
  |succ m ih=>
   rw[show s+(m+1)=s+m+1 from rfl,det_last fun k hk=>by
    rw[if_neg (by omega)]
    by_cases g:k<s
    ·rw[if_pos g]
    ·rw[if_neg g,delta,if_neg (by omega)],ih,if_neg (by omega),if_neg (by omega),delta,if_pos rfl];grind
 have h3:det (s+m) A=det (s+m) (G fun i k=>A (s+i) (s+k)):=det_congr fun a b ha hb=>by
  simp only[G]
  by_cases g:a<s
  ·rw[if_pos g]
  ·rw[if_neg g]
   by_cases g2:b<s
   ·rw[if_pos g2,h a b (by omega) g2]
   ·rw[if_neg g2,show s+(a - s)=a by omega,show s+(b - s)=b by omega]
 rw[h3]
 refine h1.trans ?_
 show det (s+m) (fun a b=>if a<s then A a b else if b<s then 0 else delta (a - s) (b - s))*_=_
 rw[h2 m]
end Go.Proofs.YtbopchpncgdaaaaGreatDoor
namespace Go.Proofs.YtbopchpncgdaaaaGreatDoor
open Go.Sx
set_option linter.unusedSimpArgs false
set_option linter.unusedVariables false
set_option maxRecDepth 100000
set_option maxHeartbeats 4000000
section
variable {r c:Nat} {w:Mx} {piv:List Nat}
end
theorem det_narrow {n k:Nat} (hk:k<n) {M X Y:Mx} (h:∀i q,i<n→q<n→M i q=pr k X Y i q):det n M=0:=by
 have e:det n M=det n (pr n (fun i j=>if j<k then X i j else 0) Y):=det_congr fun i q hi hq=>by
  rw[h i q hi hq,pr,pr]
  have h1:∀m,k≤m→sumR m (fun p=>(if p<k then X i p else 0)*Y p q)=sumR k fun p=>X i p*Y p q:=by
   intro m
   induction m with
   |zero=>intro h0;obtain rfl:k=0:=by omega
          rfl
   |succ m ih=>
    intro hm
    by_cases g:k=m+1
    ·subst g;exact sum_congr _ fun p hp=>by rw[if_pos hp]
    ·rw[sumR,ih (by omega),if_neg (by omega)];grind
  exact(h1 n (by omega)).symm
 rw[e,det_mul,←det_turn,(det_Alt n).congr (tr fun i j=>if j<k then X i j else 0) (setRow (tr fun i j=>if j<k then X i j else 0) (n - 1) fun _=>0) fun i q hi _=>by
  by_cases g:i=n - 1
  ·rw[g,setRow_at];show(if n - 1<k then X q (n - 1)else 0)=0;rw[if_neg (by omega)]
  ·rw[setRow_ne _ _ g],(det_Alt n).zero _ (by omega)]
 grind
theorem rnk_le_r (r c:Nat) (W:Mx):rnk r c W≤r:=(Inv.red (r:=r) (W:=W) c).len
theorem rnk_le_c (r c:Nat) (W:Mx):rnk r c W≤c:=(Inv.red (r:=r) (W:=W) c).re.le
theorem rnk_le {r c k:Nat} {W X Y:Mx} (h:∀i q,i<r→q<c→W i q=pr k X Y i q):rnk r c W≤k:=by
 have hi:=Inv.red (r:=r) (W:=W) c
 unfold rnk
 generalize redF r c ⟨W,[],1⟩=s at*
 obtain⟨P,h1,h2⟩:=hi.by_
 refine Nat.le_of_not_lt fun g=> ?_
 have hl:=hi.len
 have e:=det_narrow (M:=delta) (X:=fun i j=>sumR r fun p=>P i p*X p j) (Y:=fun j q=>Y j (s.piv.getD q 0)) g fun i q hi' hq=>by
  have h3:=hi.unit q hq i (by omega)
  rw[h2 i (by omega),pr]at h3
  rw[delta,←h3,pr,sum_congr r (g:=fun p=>sumR k fun j=>P i p*(X p j*Y j (s.piv.getD q 0))) fun p hp=>by rw[h p _ hp (hi.lt q hq),pr,sum_mulL],sum_swap]
  exact sum_congr k fun j _=>by rw[sum_mulR];exact sum_congr r fun p _=>by grind
 rw[det_one]at e
 exact absurd e (by decide)
theorem rnk_fac (r c:Nat) (W:Mx):∃X Y,∀i q,i<r→q<c→W i q=pr (rnk r c W) X Y i q:=by
 have hi:=Inv.red (r:=r) (W:=W) c
 unfold rnk
 generalize redF r c ⟨W,[],1⟩=s at*
 obtain⟨P,h1,h2⟩:=hi.by_
 have hl:=hi.len
 refine⟨fun i j=>adj r P i j*s.d,s.w,fun i q hi' hq=> ?_⟩
 have e:sumR r (fun j=>adj r P i j*s.d*s.w j q)=W i q:=by
  rw[sum_congr r (g:=fun j=>sumR r fun p=>s.d*(adj r P i j*P j p)*W p q) fun j hj=>by rw[h2 j hj,pr,sum_mulL];exact sum_congr r fun p _=>by grind,sum_swap]
  rw[sum_congr r (g:=fun p=>delta i p*W p q) fun p hp=>by
   rw[←sum_mulR,←sum_mulL]
   have:=adj_mul P hi' hp
   unfold pr at this
   rw[this,delta];split<;>grind,sum_deltaL,if_pos hi']
 rw[←e,pr]
 have h3:∀m,s.piv.length≤m→m≤r→sumR m (fun j=>adj r P i j*s.d*s.w j q)=sumR s.piv.length fun p=>adj r P i p*s.d*s.w p q:=by
  intro m
  induction m with
  |zero=>intro h0 _;rw[show s.piv.length=0 by omega]
  |succ m ih=>
   intro hm hr
   by_cases g:s.piv.length=m+1
   ·rw[g]
   ·rw[sumR,ih (by omega) (by omega),hi.low m (by omega) (by omega) q hq];grind
 exact h3 r hl (Nat.le_refl _)
theorem rnk_turn (r c:Nat) (W:Mx):rnk c r (tr W)=rnk r c W:=by
 have h:∀r c W,rnk c r (tr W)≤rnk r c W:=fun r c W=>by
  obtain⟨X,Y,h⟩:=rnk_fac r c W
  exact rnk_le (X:=tr Y) (Y:=tr X) fun i q hi hq=>by
   show W q i=_
   rw[h q i hq hi];exact sum_congr _ fun p _=>Rat.mul_comm _ _
 exact Nat.le_antisymm (h r c W) (h c r (tr W))
theorem rnk_mul (r n c:Nat) (A B:Mx):rnk r c (pr n A B)≤rnk r n A∧rnk r c (pr n A B)≤rnk n c B:=by
 constructor
 ·obtain⟨X,Y,h⟩:=rnk_fac r n A
  refine rnk_le (X:=X) (Y:=fun j q=>sumR n fun p=>Y j p*B p q) fun i q hi hq=> ?_
  rw[pr,pr,sum_congr n (g:=fun p=>sumR (rnk r n A) fun j=>X i j*(Y j p*B p q)) fun p hp=>by rw[h i p hi hp,pr,sum_mulR];exact sum_congr _ fun j _=>by grind,sum_swap]
  exact sum_congr _ fun j _=>(sum_mulL _ _).symm
 ·obtain⟨X,Y,h⟩:=rnk_fac n c B
  refine rnk_le (X:=fun i j=>sumR n fun p=>A i p*X p j) (Y:=Y) fun i q hi hq=> ?_
  rw[pr,pr,sum_congr n (g:=fun p=>sumR (rnk n c B) fun j=>A i p*X p j*Y j q) fun p hp=>by rw[h p q hp hq,pr,sum_mulL];exact sum_congr _ fun j _=>by grind,sum_swap]
  exact sum_congr _ fun j _=>(sum_mulR _ _).symm
theorem sum_split (m:Nat) (f:Nat→Rat):∀n,sumR (m+n) f=sumR m f+sumR n fun i=>f (m+i)
 |0=>by rw[sumR];grind
 |n+1=>by rw[←Nat.add_assoc,sumR,sumR,sum_split m f n];grind
theorem rnk_syl (a n c:Nat) (A B:Mx):rnk a n A+rnk n c B≤n+rnk a c (pr n A B):=by
 obtain⟨X,Y,hXY⟩:=rnk_fac a c (pr n A B)
 generalize rnk a c (pr n A B)=u at*
 have hA:=Inv.red (r:=a) (W:=A) n
 have hB:=Inv.red (r:=n) (W:=B) c
 unfold rnk
 generalize redF a n ⟨A,[],1⟩=s at*
 generalize redF n c ⟨B,[],1⟩=t at*
 obtain⟨P,p1,p2⟩:=hA.by_
 obtain⟨Q,q1,q2⟩:=hB.by_
 have la:=hA.len
 have lb:=hB.len
 refine Nat.le_of_not_lt fun g=> ?_
 let N:Mx:=fun i q=>if i<t.piv.length then(if q<t.piv.length then delta i q else Q i (s.piv.getD (q - t.piv.length) 0))else(if q<t.piv.length then 0 else delta (i - t.piv.length) (q - t.piv.length))
 let U:Mx:=fun i j=>if i<t.piv.length then(if j<n then Q i j else 0)else(if j<n then s.w (i - t.piv.length) j else - sumR a fun p=>P (i - t.piv.length) p*X p (j - n))
 let V:Mx:=fun j q=>if j<n then(if q<t.piv.length then B j (t.piv.getD q 0)else delta j (s.piv.getD (q - t.piv.length) 0))else(if q<t.piv.length then Y (j - n) (t.piv.getD q 0)else 0)
 have hN:∀i q,i<t.piv.length+s.piv.length→q<t.piv.length+s.piv.length→N i q=pr (n+u) U V i q:=by
  intro i q hi hq
  rw[pr,sum_split]
  simp only[N,U,V]
  by_cases h1:i<t.piv.length
  ·rw[if_pos h1,sum_zeros (n:=u) fun j _=>by rw[if_pos h1,if_neg (by omega)];grind]
   by_cases h2:q<t.piv.length
   ·rw[if_pos h2,sum_congr n (g:=fun j=>Q i j*B j (t.piv.getD q 0)) fun j hj=>by rw[if_pos h1,if_pos hj,if_pos hj,if_pos h2]]
    have:=q2 i (by omega) (t.piv.getD q 0)
    rw[hB.unit q h2 i (by omega),pr]at this
    rw[←this,delta];grind
   ·rw[if_neg h2,sum_congr n (g:=fun j=>Q i j*delta j (s.piv.getD (q - t.piv.length) 0)) fun j hj=>by rw[if_pos h1,if_pos hj,if_pos hj,if_neg h2],sum_deltaR,if_pos (hA.lt _ (by omega))];grind
  ·rw[if_neg h1]
   have hw:∀j,s.w (i - t.piv.length) j=sumR a fun p=>P (i - t.piv.length) p*A p j:=fun j=>p2 _ (by omega) j
   by_cases h2:q<t.piv.length
   ·rw[if_pos h2,sum_congr n (g:=fun j=>s.w (i - t.piv.length) j*B j (t.piv.getD q 0)) fun j hj=>by rw[if_neg h1,if_pos hj,if_pos hj,if_pos h2]]
    rw[sum_congr u (g:=fun j=>(-1)*sumR a fun p=>P (i - t.piv.length) p*(X p j*Y j (t.piv.getD q 0))) fun j hj=>by
     rw[if_neg h1,if_neg (by omega),if_neg (by omega),if_pos h2,show n+j - n=j by omega]
     rw[sum_congr a (f:=fun p=>P (i - t.piv.length) p*(X p j*Y j (t.piv.getD q 0))) (g:=fun p=>P (i - t.piv.length) p*X p j*Y j (t.piv.getD q 0)) fun p _=>by grind,←sum_mulR];grind]
    rw[←sum_mulL,sum_swap,sum_congr a (g:=fun p=>P (i - t.piv.length) p*pr n A B p (t.piv.getD q 0)) fun p hp=>by rw[←sum_mulL,hXY p _ hp (hB.lt q h2)];rfl]
    rw[sum_congr n (g:=fun j=>sumR a fun p=>P (i - t.piv.length) p*(A p j*B j (t.piv.getD q 0))) fun j _=>by rw[hw,sum_mulR];exact sum_congr a fun p _=>by grind,sum_swap]
    rw[sum_congr a (f:=fun p=>sumR n fun j=>P (i - t.piv.length) p*(A p j*B j (t.piv.getD q 0))) (g:=fun p=>P (i - t.piv.length) p*pr n A B p (t.piv.getD q 0)) fun p _=>(sum_mulL _ _).symm]
    grind
   ·rw[if_neg h2,sum_congr n (g:=fun j=>s.w (i - t.piv.length) j*delta j (s.piv.getD (q - t.piv.length) 0)) fun j hj=>by rw[if_neg h1,if_pos hj,if_pos hj,if_neg h2],sum_deltaR,if_pos (hA.lt _ (by omega))]
    rw[sum_zeros (n:=u) fun j _=>by rw[if_neg (show ¬n+j<n by omega),if_neg h2];grind]
    rw[hA.unit _ (by omega) _ (by omega),delta];grind
 have h0:=det_narrow (show n+u<t.piv.length+s.piv.length by omega) hN
 have h1:det (t.piv.length+s.piv.length) N=1:=by
  rw[det_block s.piv.length (A:=N) fun i k hi hk=>by simp only[N];rw[if_neg (by omega),if_pos hk]]
  rw[det_congr (n:=t.piv.length) (A:=N) (B:=delta) fun i k hi hk=>by simp only[N];rw[if_pos hi,if_pos hk],det_one]
  rw[det_congr (B:=delta) fun i k _ _=>by simp only[N];rw[if_neg (by omega),if_neg (by omega),show t.piv.length+i - t.piv.length=i by omega,show t.piv.length+k - t.piv.length=k by omega],det_one];grind
 rw[h1]at h0
 exact absurd h0 (by decide)
end Go.Proofs.YtbopchpncgdaaaaGreatDoor
namespace Go.Proofs.YtbopchpncgdaaaaGreatDoor
open Go.Sx
set_option linter.unusedSimpArgs false
set_option linter.unusedVariables false
set_option maxRecDepth 100000
set_option maxHeartbeats 4000000
theorem red_cols {r c:Nat} {W V:Mx} (h:∀i q,i<r→q<c→W i q=V i q):(redF r c ⟨W,[],1⟩).piv=(redF r c ⟨V,[],1⟩).piv∧∀i q,i<r→q<c→(redF r c ⟨W,[],1⟩).w i q=(redF r c ⟨V,[],1⟩).w i q:=
 RE.unique (Inv.red (r:=r) (W:=W) c).re (Inv.red (r:=r) (W:=V) c).re fun x=>((Inv.red (r:=r) (W:=W) c).ker x).trans ((ker_congr h x).trans ((Inv.red (r:=r) (W:=V) c).ker x).symm)
end Go.Proofs.YtbopchpncgdaaaaGreatDoor
namespace Go.Proofs.YtbopchpncgdaaaaGreatDoor
open Go.Sx
set_option linter.unusedSimpArgs false
set_option linter.unusedVariables false
set_option maxRecDepth 100000
set_option maxHeartbeats 40000000
theorem e_Rank {r c A:Nat} {a:List Rat} (ha:OKM r c a) (hr:r≤6) (hc:c≤40) (sa:Sm A a) (h2:2≤A) (hA:4096*A≤4398046511104) {s:St} (hs:redS r c (aug0 c a)=s):
  CallOK Tryz.prog 16 [mA r c a] [] (.tup [iv s.piv.length,iv 0]) [] []:=by
 have k1:=e_Reduce ha hr hc sa h2 hA hs
 have hpl:(s.piv.map ofN).length=s.piv.length:=List.length_map _
 refine callF (Z:=[1]) tabOK mixedOK Tryz.func16 rfl (by kernel_rfl) (by first|rfl|(simp[keylessL,keyless,keylessL_map, *];done)) (by first|rfl|(simp[keylessL,keyless,keylessL_map, *];done)) (by kernel_rfl) rfl ?_
 intro w0 ρ0 hE
 conv=>whnf
 (repeat((first|refine g_c (by assumption) ?_|refine g_o (op_lenM rfl rfl rfl (ev_ok rfl) (tgt rfl) rfl) ?_|refine g_o (op_loadA rfl (ev_ok rfl) (tgt rfl) rfl (Nat.succ_ne_zero _) rfl) ?_|rw[hpl]);conv=>whnf));(first|exact Recast.refl _|exact Frz.recast (Recast.refl _) rfl|(refine Frz.one rfl rfl ?_;skip)|(refine Frz.tup ?_;skip))
end Go.Proofs.YtbopchpncgdaaaaGreatDoor
