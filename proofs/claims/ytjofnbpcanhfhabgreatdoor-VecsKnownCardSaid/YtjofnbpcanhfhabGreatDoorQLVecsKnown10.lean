/- The texts Kf, Ho, Ia. -/
import Derived.Test.YtjofnbpcanhfhabGreatDoorQLVecsKnown9
namespace Go.Sx
set_option linter.unusedSimpArgs false
set_option linter.unusedVariables false
theorem addKey_RR {E:Env} {k:Nat} {blk:Blk} {fr:List (Nat×SV)} {hp:List (Nat×Blk)} (hk:find hp k=none) (he:blk.data.empty) {a:Act} {w:World} (hR:RR E (fn fr hp) a w):
  RR E (fn fr ((k,blk)::hp)) a w:=by
 obtain⟨ρ,hext,hfx,hR⟩:=hR
 have hkn:ρ.key k=none:=by
  cases hx:ρ.key k with
  |none=>rfl
  |some x=>
   obtain⟨b,hb⟩:=hR.hp.dom k x hx
   simp only[fn,LV.blk,hk]at hb
   cases hb
 have hblk:∀j b,(fn fr ((k,blk)::hp) (.k j)).blk=some b→(j=k∧b=blk)∨(j≠k∧(fn fr hp (.k j)).blk=some b):=by
  intro j b hb
  simp only[fn,LV.blk,find]at hb ⊢
  cases hj:Nat.beq k j with
  |true=>rw[hj]at hb;simp only[Option.some.injEq]at hb;exact .inl ⟨(Nat.eq_of_beq_eq_true hj).symm,hb.symm⟩
  |false=>rw[hj]at hb;exact .inr ⟨by rintro rfl;simp[Nat.beq_refl]at hj,hb⟩
 have hne:∀j x,ρ.key j=some x→j≠k:=fun j x hx h=>by rw[h,hkn]at hx;cases hx
 refine⟨ρ,hext,fun j hj=> ?_,{defers:=hR.defers,size:=hR.size,fr:=fun u sv hu=>hR.fr u sv hu,pres:=hR.pres,hp:= ?_}⟩
 ·have:=hfx j hj
  simp only[fn,LV.blk,find]at this ⊢
  cases hb:Nat.beq k j with
  |true=>simp
  |false=>exact this
 ·constructor
  ·intro j b hb
   rcases hblk j b hb with⟨rfl,rfl⟩|⟨_,h1⟩
   ·exact .inr (.inr ⟨hkn,he⟩)
   ·exact hR.hp.blk j b h1
  ·intro j j' x x' b b' hx hx' hn hxe hb hb'
   rcases hblk j b hb with⟨h1,_⟩|⟨_,h1⟩
   ·exact absurd h1 (hne j x hx)
   ·rcases hblk j' b' hb' with⟨h2,_⟩|⟨_,h2⟩
    ·exact absurd h2 (hne j' x' hx')
    ·exact hR.hp.sep j j' x x' b b' hx hx' hn hxe h1 h2
  ·intro j b x hb hw hl hx
   rcases hblk j b hb with⟨h1,_⟩|⟨_,h1⟩
   ·exact absurd h1 (hne j x hx)
   ·exact hR.hp.own j b x h1 hw hl hx
  ·intro j x hx
   obtain⟨b,hb⟩:=hR.hp.dom j x hx
   have:=hne j x hx
   refine⟨b, ?_⟩
   simp only[fn,LV.blk,find]at hb ⊢
   cases hj:Nat.beq k j with
   |true=>exact absurd (Nat.eq_of_beq_eq_true hj).symm this
   |false=>exact hb
  ·exact hR.hp.imm
  ·intro j b x hb hw hl hx
   rcases hblk j b hb with⟨h1,_⟩|⟨_,h1⟩
   ·exact absurd h1 (hne j x hx)
   ·exact hR.hp.immw j b x h1 hw hl hx
theorem tst_tt {t:Bool} {A B:Prop} (h:t=true) (k:A):(t=true→A)∧(t=false→B):=⟨fun _=>k,fun h'=>(by rw[h]at h';cases h')⟩
theorem tst_ff {t:Bool} {A B:Prop} (h:t=false) (k:B):(t=true→A)∧(t=false→B):=⟨fun h'=>(by rw[h]at h';cases h'),fun _=>k⟩
def Wk (c d:SV):Prop:=c.isOne=d.isOne∧∀ρ x,HasC ρ c x→HasC ρ d x
def WkL (l m:List SV):Prop:=(∀z,List.zipWith mkV l z=List.zipWith mkV m z)∧∀ρ z,HasZ ρ l z→HasZ ρ m z
theorem Wk.refl {c:SV}:Wk c c:=⟨rfl,fun _ _ h=>h⟩
theorem Wk.nil {w:Nat} {a:Option Addr}:Wk (.val (.slice a 0 0)) (vecA w []):=⟨rfl,fun _ _ h=>nil_vec h⟩
theorem WkL.nil:WkL [] []:=⟨fun _=>rfl,fun _ _ h=>h⟩
theorem WkL.cons {c d:SV} {l m:List SV} (h:Wk c d) (k:WkL l m):WkL (c::l) (d::m):=
 ⟨fun z=>by cases z with
  |nil=>rfl
  |cons x r=>rw[List.zipWith_cons_cons,List.zipWith_cons_cons,k.1 r,mkV_eq h.1],fun ρ z hz=>by
  simp only[HasZ]at hz ⊢
  obtain⟨x,r,rfl,h1,h2⟩:=hz
  exact⟨x,r,rfl,h.2 ρ x h1,k.2 ρ r h2⟩⟩
theorem Wk.agg {l m:List SV} (h:WkL l m):Wk (.agg l) (.agg m):=⟨rfl,fun ρ x hx=>by
 simp only[HasC]at hx ⊢
 obtain⟨z,h1,h2⟩:=hx
 exact⟨z,h.2 ρ z h1,h2⟩⟩
theorem CallOK.wk {P:Program} {f:FuncId} {args args':List SV} {fk:List (Nat×Blk)} {c:SV} {new upd:List (Nat×Blk)} (h:CallOK P f args' fk c new upd) (hw:WkL args args'):CallOK P f args fk c new upd:=CallOK.args h hw.2 hw.1
end Go.Sx
namespace Go.Sx
set_option linter.unusedSimpArgs false
set_option linter.unusedVariables false
section
variable {P:Program} {o:Oper} {ft:List (Nat×SV)} {fk:List (Nat×Blk)}
theorem op_makeI {t e:TypeId} {x y:Operand} {ti te:TI} {kl kc kd:IntKind} {l m:Int} (n:Nat) (ho:o.op= .makeSlice t x y) (hx:EvOK ft x (.val (.int kl l))) (hy:EvOK ft y (.val (.int kc m))) (hl:l=n) (hm:m=n)
  (ht:TOK P t ti) (hk:ti.kind= .slc e) (he:TOK P e te) (hz:te.zero=[iel kd 0]) (hs:te.size=1) (hb:(te.bytes:Int)*n≤281474976710656∧(n:Int)≤9223372036854775807):
  OpOK P o ft fk (ivec kd (List.replicate n 0)) [] []:=
 ok_value fun ρ a w hp=>by
  subst hl hm
  have e1:=of_has_val (hx ρ a hp.hft)
  have e2:=of_has_val (hy ρ a hp.hft)
  have hu:=ht.kind;rw[hk]at hu
  obtain⟨i,z,i1,i2,i3,i4,i5,i6,i7,_⟩:=he.info
  have hrun:=run_make (P:=P) (w:=w) t e i z hu i1 i4 kl kc n n (Int.natCast_nonneg _) (Int.le_refl _) (by rw[i3];exact hb.1) hb.2
  have hzc:z.cells.toList=[.int kd 0]:=by rw[i5,hz];rfl
  have hcells:madeCells z.cells (n*i.size)=((List.replicate n [Value.int kd 0]).flatten).toArray:=by
   have:=madeCells_flat z.cells te.size i7 n
   rw[i2]
   apply Array.ext'
   rw[this,hzc]
  have hz2:HasZ ρ (List.replicate n (iel kd 0)) (List.replicate n [Value.int kd 0]):=by
   clear hrun hcells hb hx hy e1 e2
   induction n with
   |zero=>simp[HasZ]
   |succ n ih=>simp only[List.replicate_succ,HasZ];exact⟨_,_,rfl,by simp[iel,HasC];rfl,ih⟩
  have hkl:keylessL (List.replicate n (iel kd 0))=true:=by
   rw[←List.map_replicate (f:=iel kd)]
   exact keylessL_map (fun _=>rfl) _
  obtain⟨ρ',hpost⟩:=vec_new (w:=w) (e:=e) (s:=1) (n:=n) hp.imm hz2 hkl (fun x hx=>by rw[(List.mem_replicate.1 hx).2];rfl) (by simp)
  refine⟨_,_,ρ', ?_,by rw[ivec,mvec,List.map_replicate];exact hpost⟩
  simp only[execOp,ho,e1,e2,Sem.run_bind,hrun,Result.andThen_ok,Sem.run_pure,hcells,Int.toNat_natCast]
end
theorem SWx_addKeyV {E:Env} (k:Nat) {blk:Blk} {c:Code} {K:Post'} {fr:List (Nat×SV)} {hp:List (Nat×Blk)} (hk:find hp k=none) (he:blk.data.empty) (hs:SWx E c K fr ((k,blk)::hp)):SWx E c K fr hp:=
 ⟨fun a w hR=>hs.run a w (addKey_RR hk he hR)⟩
theorem CallOK.nil3 {P:Program} {f:FuncId} {w:Nat} {c d e:SV} {a:Option Addr} {r:List SV} (h:CallOK P f (d::e::vecA w []::r) [] c [] []):CallOK P f (d::e:: .val (.slice a 0 0)::r) [] c [] []:=
 h.args (fun ρ z hz=>by
  simp only[HasZ]at hz ⊢
  obtain⟨y,_,rfl,h0,u,_,rfl,h4,x,t,rfl,h1,h2⟩:=hz
  exact⟨y,_,rfl,h0,u,_,rfl,h4,x,t,rfl,nil_vec h1,h2⟩) (fun z=>by
  match z with
  |[]=>rfl
  |[_]=>rfl
  |_::_::z=>cases z<;>simp[mkV,SV.isOne,vecP])
theorem nil_in {ρ:Rho} {a:Option Addr} {w:Nat} {x:List Value} (h:HasC ρ (vecA 1 [.val (.slice a 0 0)]) x):HasC ρ (vecA 1 [vecA w []]) x:=by
 simp only[HasC]at h ⊢
 rcases h with⟨h1,_⟩|⟨hg,b,cap,z,pre,ex,ty,fz,h1,h2,h3,h4⟩
 ·cases h1
 ·refine .inr ⟨hg,b,cap,z,pre,ex,ty,fz,h1, ?_, ?_,h4⟩
  ·simp only[HasZ]at h2 ⊢
   obtain⟨x,t,rfl,g1,g2⟩:=h2
   exact⟨x,t,rfl,nil_vec g1,g2⟩
  ·intro x hx
   rcases List.mem_cons.1 hx with rfl|hx
   ·rfl
   ·cases hx
theorem CallOK.nilIn2 {P:Program} {f:FuncId} {w:Nat} {c d:SV} {a:Option Addr} {r:List SV} (h:CallOK P f (d::vecA 1 [vecA w []]::r) [] c [] []):CallOK P f (d::vecA 1 [.val (.slice a 0 0)]::r) [] c [] []:=
 h.args (fun ρ z hz=>by
  simp only[HasZ]at hz ⊢
  obtain⟨y,_,rfl,h0,x,t,rfl,h1,h2⟩:=hz
  exact⟨y,_,rfl,h0,x,t,rfl,nil_in h1,h2⟩) (fun z=>by
  cases z with
  |nil=>rfl
  |cons x z=>cases z<;>simp[mkV,SV.isOne,vecP])
end Go.Sx
namespace Go.Proofs.YtjofnbpcanhfhabGreatDoor
open Go.Sx
set_option linter.unusedSimpArgs false
set_option linter.unusedVariables false
set_option maxRecDepth 100000
set_option maxHeartbeats 4000000
theorem v_MixL (cs:List Rat) (ls:List (List Rat)) (hn:ls.length<1099511627776) (hl:∀v∈ls,v.length<1099511627776) (h:alikeF ls=3):CallOK Tryz.prog 14 [fvec cs,mvec 1 fvec ls] [] (.tup [fvec [],.val (.int .i64 3)]) [] []:=by
 have k1:=v_alike ls hn hl
 rw[h]at k1
 refine callF (Z:=[]) tabOK mixedOK Tryz.func14 rfl (by kernel_rfl) (by first|rfl|(simp[keylessL,keyless,keylessL_map, *];done)) (by first|rfl|(simp[keylessL,keyless,keylessL_map, *];done)) (by kernel_rfl) rfl ?_
 intro w0 ρ0 hE
 conv=>whnf
 (repeat(first|(refine step_w1 rfl rfl ?_;conv=>whnf)|(refine g_c (by assumption) ?_;conv=>whnf)));(first|exact Recast.refl _|exact Frz.recast (Recast.refl _) rfl|(refine Frz.one rfl rfl ?_;skip)|(refine Frz.tup ?_;(repeat(first|exact FrzC.keyless rfl|exact FrzL.nil|refine FrzL.cons ?_ ?_|exact FrzC.nilS))))
theorem v_MixA (cs:List Rat) (ls:List (List Rat)) (hn:ls.length<1099511627776) (hl:∀v∈ls,v.length<1099511627776) (h:(alikeF ls==3)=false) (hc:cs.length≠ls.length):CallOK Tryz.prog 14 [fvec cs,mvec 1 fvec ls] [] (.tup [fvec [],.val (.int .i64 1)]) [] []:=by
 have k1:=v_alike ls hn hl
 have t2:((cs.length:Int) != (ls.length:Int))=true:=bne_iff_ne.2 (by omega)
 refine callF (Z:=[]) tabOK mixedOK Tryz.func14 rfl (by kernel_rfl) (by first|rfl|(simp[keylessL,keyless,keylessL_map, *];done)) (by first|rfl|(simp[keylessL,keyless,keylessL_map, *];done)) (by kernel_rfl) rfl ?_
 intro w0 ρ0 hE
 conv=>whnf
 (repeat((first|refine step_w1 rfl rfl ?_|refine step_w2 rfl rfl ?_|refine g_c (by assumption) ?_|refine g_o (op_lenM rfl rfl rfl (ev_ok rfl) (tgt rfl) rfl) ?_|rw[h]|rw[t2]);conv=>whnf));(first|exact Recast.refl _|exact Frz.recast (Recast.refl _) rfl|(refine Frz.one rfl rfl ?_;skip)|(refine Frz.tup ?_;(repeat(first|exact FrzC.keyless rfl|exact FrzL.nil|refine FrzL.cons ?_ ?_|exact FrzC.nilS))))
theorem v_PartL (a:List Rat) (p:List Int) (ha:a.length<1099511627776) (hp:p.length<1099511627776) (h:2048<a.length∨2048<p.length):CallOK Tryz.prog 15 [fvec a,ivec .i64 p] [] (.tup [fvec [],.val (.int .i64 3)]) [] []:=by
 have t1:decide ((if (p.length:Int)>(a.length:Int)then(p.length:Int)else(a.length:Int))>2048)=true:=decide_eq_true (by split<;>omega)
 refine callF (Z:=[]) tabOK mixedOK Tryz.func15 rfl (by kernel_rfl) (by first|rfl|(simp[keylessL,keyless,keylessL_map, *];done)) (by first|rfl|(simp[keylessL,keyless,keylessL_map, *];done)) (by kernel_rfl) rfl ?_
 intro w0 ρ0 hE
 conv=>whnf
 (repeat(first|(refine step_w1 rfl rfl ?_;conv=>whnf)|(refine g_o (op_lenM rfl rfl rfl (ev_ok rfl) (tgt rfl) rfl) ?_;conv=>whnf)|(rw[t1];conv=>whnf)));(first|exact Recast.refl _|exact Frz.recast (Recast.refl _) rfl|(refine Frz.one rfl rfl ?_;skip)|(refine Frz.tup ?_;(repeat(first|exact FrzC.keyless rfl|exact FrzL.nil|refine FrzL.cons ?_ ?_|exact FrzC.nilS))))
theorem v_ScaleE (c:Rat) (a:List Rat) (ha:a.length<1099511627776) (h:alikeF [a,a]≠0):CallOK Tryz.prog 16 [.frac c,fvec a] [] (.tup [fvec [],.val (.int .i64 (alikeF [a,a]))]) [] []:=by
 have k1:=v_eachE1 a a 54 (ptrP [.frac c]) ha ha h
 refine callV (Z:=[2]) tabOK mixedOK Tryz.func16 rfl (by kernel_rfl) rfl rfl (by kernel_rfl) rfl ?_
 intro W0 w0 ρ0 hE
 conv=>whnf
 (repeat(first|(refine g_c (by assumption) ?_;conv=>whnf)|(refine g_o (op_makeFunc rfl rfl rfl) ?_;conv=>whnf)));(first|exact Recast.refl _|exact Frz.recast (Recast.refl _) rfl|(refine Frz.one rfl rfl ?_;skip)|(refine Frz.tup ?_;skip))
theorem l_refusedL (c:Rat) (a b:List Rat) (ha:a.length<1099511627776) (hb:b.length<1099511627776) (h:alikeF [a,b]=3):CallOK Tryz.prog 13 [.frac c,fvec a,fvec b] [] (.val (.int .i64 3)) [] []:=by
 have hne:alikeF [a,b]≠0:=by rw[h];decide
 have k1:=v_AddE a b ha hb hne
 have k2:=v_SubE a b ha hb hne
 have k3:=v_AxpyE c a b ha hb hne
 have k4:=v_DotE a b ha hb hne
 have k5:=v_SumE a b ha hb hne
 have k6:=v_MixL [c,c] [a,b] (by simp) (by simp;omega) h
 rw[h]at k1 k2 k3 k4 k5
 refine callV (Z:=[3,47,54,57]) tabOK mixedOK Tryz.func13 rfl (by kernel_rfl) rfl rfl (by kernel_rfl) rfl ?_
 intro W0 w0 ρ0 hE
 conv=>whnf
 (repeat((first|refine step_w1 rfl rfl ?_|refine step_w2 rfl rfl ?_|refine g_c (by assumption) ?_|refine g_o (op_pickF rfl (ev_ok rfl) (ev_ok rfl)) ?_|refine g_o (op_loadA rfl (ev_ok rfl) (tgt rfl) rfl (Nat.succ_ne_zero _) rfl) ?_);conv=>whnf));(first|exact Recast.refl _|exact Frz.recast (Recast.refl _) rfl|(refine Frz.one rfl rfl ?_;skip)|(refine Frz.tup ?_;skip))
abbrev Fblk (l:List Rat):Blk:=⟨44,true,.fracs l⟩
theorem op_longF {ft:List (Nat×SV)} {fk:List (Nat×Blk)} {o:Oper} {n:Nat} (k:Nat) (h:(2049:Int)=(n:Int)) (ho:o.op= .makeSlice 35 (.const (.int .i64 2049)) (.const (.int .i64 2049))):OpOK Tryz.prog o ft fk (.slc k 5 0 n) [(k,Fblk (List.replicate n 0))] []:=by
 rw[h]at ho
 exact op_make (k:=k) ho (ev_ok rfl) (ev_ok rfl) (tgt rfl) rfl (tgt rfl) rfl (by omega) (Int.le_refl _) (by simp only[tiB44];omega) (by omega)
theorem op_longI {ft:List (Nat×SV)} {fk:List (Nat×Blk)} {o:Oper} {n:Nat} (h:(2049:Int)=(n:Int)) (ho:o.op= .makeSlice 33 (.const (.int .i64 2049)) (.const (.int .i64 2049))):OpOK Tryz.prog o ft fk (ivec .i64 (List.replicate n 0)) [] []:=
 op_makeI n ho (ev_ok rfl) (ev_ok rfl) h h (tgt rfl) rfl (tgt rfl) rfl rfl (by simp only[tiB3];omega)
def longL:List Rat:=(List.replicate 2049 0).set 2048 ((-5:Int):Rat)
theorem long_len:longL.length=2049:=by rw[longL,List.length_set,List.length_replicate]
theorem long_cut:longL=List.replicate 2048 0++[((-5:Int):Rat)]:=by
 rw[longL,List.replicate_succ',List.set_append_right _ _ (by simp)]
 simp
theorem long_get (i:Nat):longL.getD i 0=0∨longL.getD i 0=((-5:Int):Rat):=by
 rw[longL,List.getD_eq_getElem?_getD,List.getElem?_set]
 split
 ·split
  ·right;rfl
  ·left;rfl
 ·left
  rw[←List.getD_eq_getElem?_getD]
  rw[List.getD_eq_getElem?_getD,List.getElem?_replicate]
  split<;>rfl
theorem fs_long (i:Nat):fs (longL.getD i 0)≤130:=by
 rcases long_get i with h|h<;>rw[h]<;>decide+kernel
theorem long_sub {l m i:Nat}:fs (((longL.drop l).take m).getD i 0)≤130:=by
 rw[List.getD_eq_getElem?_getD,List.getElem?_take]
 split
 ·rw[List.getElem?_drop,←List.getD_eq_getElem?_getD];exact fs_long _
 ·decide+kernel
theorem vmaxF_zero (l:List Rat):∀n,vmaxF (List.replicate n 0++l) 0=vmaxF l 0
 |0=>rfl
 |n+1=>by
  rw[List.replicate_succ,List.cons_append,vmaxF,if_neg (by decide+kernel)]
  exact vmaxF_zero l n
theorem vmax_long:vmax longL=((5:Int):Rat):=by
 rw[vmax,long_cut,vmaxF_zero];decide+kernel
theorem alike_L {a b:List Rat} (h:2048<a.length∨2048<b.length):alikeF [a,b]=3:=by rw[alike_two,if_pos h]
end Go.Proofs.YtjofnbpcanhfhabGreatDoor
namespace Go.Proofs.YtjofnbpcanhfhabGreatDoor
open Go.Sx
set_option linter.unusedSimpArgs false
set_option linter.unusedVariables false
set_option maxRecDepth 100000
set_option maxHeartbeats 4000000
abbrev half2 (A B:List Rat) (k:Nat):List Rat:=A.take k++B.drop k
theorem half_len {A B:List Rat} {n k:Nat} (hA:A.length=n) (hB:B.length=n) (hk:k≤n):(half2 A B k).length=n:=by
 simp only[List.length_append,List.length_take,List.length_drop];omega
theorem half_get {A B:List Rat} {n k:Nat} (hA:A.length=n) (hB:B.length=n) (hk:k<n):(half2 A B k).getD k 0=B.getD k 0:=by
 have h:(A.take k).length=k:=by rw[List.length_take];omega
 rw[List.getD_eq_getElem?_getD,List.getElem?_append_right (by omega),h,Nat.sub_self,List.getElem?_drop,Nat.add_zero,←List.getD_eq_getElem?_getD]
theorem half_set {A B:List Rat} {n k:Nat} (hA:A.length=n) (hB:B.length=n) (hk:k<n):(half2 A B k).set k (A.getD k 0)=half2 A B (k+1):=by
 have h:(A.take k).length=k:=by rw[List.length_take];omega
 rw[List.set_append_right _ _ (by omega),h,Nat.sub_self,List.drop_eq_getElem_cons (show k<B.length by omega),List.set_cons_zero]
 have e:A.take (k+1)=A.take k++[A.getD k 0]:=by rw[List.take_add_one,List.getD_eq_getElem?_getD,List.getElem?_eq_getElem (show k<A.length by omega)];rfl
 rw[half2,e,List.append_assoc];rfl
theorem half_all {A B:List Rat} {n:Nat} (hA:A.length=n) (hB:B.length=n):half2 A B n=A:=by
 rw[half2,List.take_of_length_le (by omega),List.drop_of_length_le (by omega),List.append_nil]
def wAt (c:List (Int×Int)) (i:Nat):Rat:=if i<c.length then qV (c.getD i (0,0))else((i:Int):Rat)
def wsN (c:List (Int×Int)) (i:Nat):List Rat:=(List.range i).map (wAt c)
theorem wsN_len (c:List (Int×Int)) (i:Nat):(wsN c i).length=i:=by simp[wsN]
theorem wsN_snoc (c:List (Int×Int)) (i:Nat):wsN c (i+1)=wsN c i++[wAt c i]:=by simp[wsN,List.range_succ]
theorem wsN_get {c:List (Int×Int)} {n i:Nat} (h:i<n):(wsN c n).getD i 0=wAt c i:=by simp[wsN,List.getD_eq_getElem?_getD,h]
theorem fs_wAt {c:List (Int×Int)} (hc:∀q∈c,qOK q) {i:Nat} (hi:i<1000):fs (wAt c i)≤130:=by
 unfold wAt;split
 ·rename_i h;exact fs_qV (hc _ (getD_mem h))
 ·exact Nat.le_trans (fs_int (by omega) (by omega)) (by decide)
theorem ws_all {c:List (Int×Int)} (hc:∀q∈c,qOK q) {n:Nat} (hn:n<1000):∀q∈wsN c n,fs q≤130:=by
 intro q hq
 obtain⟨i,hi,rfl⟩:=List.mem_map.1 hq
 exact fs_wAt hc (by have:=List.mem_range.1 hi;omega)
def cutV (n:Nat) (x:List (Int×Int)):List Rat:=(x.take n).map qV
def allV (l:List (List (Int×Int))) (n:Nat):List (List Rat):=l.map (cutV n)
theorem allV_len {l:List (List (Int×Int))} {n:Nat}:(allV l n).length=l.length:=by simp[allV]
theorem cutV_len {n:Nat} {x:List (Int×Int)} (h:n≤x.length):(cutV n x).length=n:=by simp[cutV];omega
theorem allV_all {l:List (List (Int×Int))} {n:Nat} (h:∀x∈l,n≤x.length):∀v∈allV l n,v.length=n:=by
 intro v hv
 obtain⟨x,hx,rfl⟩:=List.mem_map.1 hv
 exact cutV_len (h x hx)
theorem allV_get {l:List (List (Int×Int))} {n i:Nat} (h:i<l.length):(allV l n).getD i []=cutV n (l.getD i []):=by
 rw[allV];exact map_get (d:=[]) h
theorem allV_sm {l:List (List (Int×Int))} {n:Nat} (hq:∀x∈l,∀q∈x,qOK q) (h:∀x∈l,n≤x.length):∀v∈allV l n,∀k,k<n→fs (v.getD k 0)≤130:=by
 intro v hv k hk
 obtain⟨x,hx,rfl⟩:=List.mem_map.1 hv
 exact Sm_take (hq x hx) n k (by rw[len_take (h x hx)];exact hk)
theorem get_axpy' {a b:List Rat} {n i:Nat} {c:Rat} (ha:a.length=n) (hb:b.length=n) (hi:i<n):(vaxpy c a b).getD i 0=c*a.getD i 0+b.getD i 0:=zip_get (by omega) (by omega)
theorem take_snocL {α:Type} (l:List α) (i:Nat) (d:α) (hi:i<l.length):l.take (i+1)=l.take i++[l.getD i d]:=by
 rw[List.take_add_one,List.getD_eq_getElem?_getD,List.getElem?_eq_getElem hi];rfl
def placeF (n:Nat) (p:Int):Int:=if Int.tmod p n<0 then Int.tmod p n+n else Int.tmod p n
theorem place_ok {n:Nat} (hn:0<n) (p:Int):0≤placeF n p∧placeF n p<n:=by
 have h1:=Int.tmod_lt_of_pos p (show(0:Int)<n by omega)
 have h2:=Int.lt_tmod_of_pos p (show(0:Int)<n by omega)
 unfold placeF;split<;>omega
theorem SWx_freezeI {E:Env} (t k:Nat) {c:Code} {K:Post'} {fr:List (Nat×SV)} {hp:List (Nat×Blk)} {ty:TypeId} {n:Nat} {kd:IntKind} {xs:List Int} (hW:∀b,¬E.W0 b) (ht:lk fr t=some (.slc k 1 0 n)) (hk:find hp k=some ⟨ty,true,.ints kd xs⟩)
  (hn:n=xs.length) (hs:SWx E c K ((t,ivec kd xs)::fr) (setB hp k ⟨ty,true,.dead⟩)):SWx E c K fr hp:=by
 refine SWx_freeze t k (xs:=xs.map (iel kd)) hW ht hk rfl rfl (keylessL_map (fun _=>rfl) xs) (by simp;omega) ?_
 rw[cutL_all (by simp;omega)]
 exact hs
end Go.Proofs.YtjofnbpcanhfhabGreatDoor
