/- The texts Ld. -/
import Derived.Test.YtfpagioknjjacaaGreatDoorQMMatsKnown14
namespace Go.Sx
set_option linter.unusedSimpArgs false
set_option linter.unusedVariables false
theorem CallOK.nilM3 {P:Program} {f:FuncId} {w:Nat} {c d e:SV} {a:Option Addr} {r:List SV} (h:CallOK P f (d::e::vecA w []::r) [] c [] []):CallOK P f (d::e:: .val (.slice a 0 0)::r) [] c [] []:=
 h.args (fun ρ z hz=>by
  simp only[HasZ]at hz ⊢
  obtain⟨y,_,rfl,h0,u,_,rfl,h4,x,t,rfl,h1,h2⟩:=hz
  exact⟨y,_,rfl,h0,u,_,rfl,h4,x,t,rfl,nil_vec h1,h2⟩) (fun z=>by
  match z with
  |[]=>rfl
  |[_]=>rfl
  |_::_::z=>cases z<;>simp[mkV,SV.isOne,vecP])
end Go.Sx
namespace Go.Proofs.YtfpagioknjjacaaGreatDoor
open Go.Sx
set_option linter.unusedSimpArgs false
set_option linter.unusedVariables false
set_option maxRecDepth 100000
set_option maxHeartbeats 40000000
theorem i64w {n:Int} (h0: -9223372036854775808≤n) (h1:n<9223372036854775808):(Lit.int .i64 n).wf=true:=by
 have f1:IntKind.i64.min= -9223372036854775808:=rfl
 have f2:IntKind.i64.max=9223372036854775807:=rfl
 show(decide (IntKind.i64.min≤n)&&decide (n≤IntKind.i64.max))=true
 rw[f1,f2,decide_eq_true h0,decide_eq_true (by omega)];rfl
theorem u8w {n:Int} (h0:0≤n) (h1:n<256):(Lit.int .u8 n).wf=true:=by
 have f1:IntKind.u8.min=0:=rfl
 have f2:IntKind.u8.max=255:=rfl
 show(decide (IntKind.u8.min≤n)&&decide (n≤IntKind.u8.max))=true
 rw[f1,f2,decide_eq_true h0,decide_eq_true (by omega)];rfl
theorem qOK_snoc {l:List (Int×Int)} {q:Int×Int} (h:∀q∈l,qOK q) (hq:qOK q):∀x∈l++[q],qOK x:=fun x hx=>by
 rcases List.mem_append.1 hx with hx|hx
 ·exact h x hx
 ·rcases List.mem_cons.1 hx with rfl|hx
  ·exact hq
  ·cases hx
abbrev Qblk (l:List (Int×Int)):Blk:=⟨25,true,.seq 2 (l.map qA)⟩
theorem Qblk_snoc {l:List (Int×Int)} {i:Nat} (hl:l.length=i) (q:Int×Int):Qblk (l++[q])=⟨25,true,.seq 2 (List.take i (l.map qA)++[qA q])⟩:=by
 rw[Qblk,List.map_append,List.take_of_length_le (by simp;omega)];rfl
theorem len20:20≤maxLen:=by decide
abbrev xB (A B:Nat) (la:List (Int×Int)):Blk:=⟨27,true,.one [iel .u8 (A:Nat),iel .u8 (B:Nat),mvec 2 qA la]⟩
abbrev oB (A B:Nat) (l:List Rat):Blk:=⟨38,true,.one [iv (A:Nat),iv (B:Nat),fvec l]⟩
abbrev mSB (r c K:Nat):Blk:=⟨38,true,.one [iv r,iv c,.slc K 5 0 (r*c)]⟩
theorem law_MatsKnown:CallOK Tryz.prog 3 [] [] (.val (.bool true)) [] []:=by
 have kw:=l_works13
 refine callF (Z:=[6,7,8,9,117,121,122,100012,100013,100014,100016,100017,100018,100027]) tabOK mixedOK Tryz.func3 rfl (by kernel_rfl) (by first|rfl|(simp[keylessL,keyless,keylessL_map, *];done)) (by first|rfl|(simp[keylessL,keyless,keylessL_map, *];done)) (by kernel_rfl) rfl ?_
 intro w0 ρ0 hE
 conv=>whnf
 skip
 refine SW_loopN hE (fun k=>k) [1,2] [] (fun M fr hp=>∃n k:Nat,M=14 - n∧n≤14∧k<100003∧fr=[(1,iv (k:Nat)),(2,iv (n:Nat))]∧hp=[]) 14 ?_ ?_ ?_
 ·kernel_rfl
 ·exact⟨0,1,rfl,Nat.zero_le _,by decide,rfl,rfl⟩
 rintro M _ _ ⟨n,k,rfl,hn,hk,rfl,rfl⟩
 conv=>whnf
 by_cases hlt:n<14
 ·have t1:decide (((n:Nat):Int)<14)=true:=decide_eq_true (by omega)
  have t2:=winc (i:=n) (by omega)
  (repeat(first|(refine tst_tt t1 ?_;conv=>whnf)|(rw[t1];conv=>whnf)))
  refine SWx_adopt (t:=3) (k:=2001) (s:=2) (blk:=Qblk []) rfl rfl rfl ?_
  refine SWx_adopt (t:=4) (k:=2002) (s:=2) (blk:=Qblk []) rfl rfl rfl ?_
  refine SW_loopS hE (fun k=>k) [1,2,3,4,5] [2001,2002] (fun M fr hp=>∃(i k:Nat) (la lb:List (Int×Int)),M=20 - i∧i≤20∧k<100003∧la.length=i∧lb.length=i∧(∀q∈la,qOK q)∧(∀q∈lb,qOK q)∧
   fr=[(1,iv (k:Nat)),(2,iv (n:Nat)),(3,.slc 2001 2 0 i),(4,.slc 2002 2 0 i),(5,iv (i:Nat))]∧hp=[(2001,Qblk la),(2002,Qblk lb)]) 20 ?_ ?_ ?_
  ·kernel_rfl
  ·exact⟨0,k,[],[],rfl,Nat.zero_le _,hk,rfl,rfl,fun q hq=>(by cases hq),fun q hq=>(by cases hq),rfl,rfl⟩
  clear hk k
  rintro M _ _ ⟨i,k,la,lb,rfl,hi,hk,hla,hlb,hoa,hob,rfl,rfl⟩
  have lqa:(la.map qA).length=i:=by simp;omega
  have lqb:(lb.map qA).length=i:=by simp;omega
  by_cases hli:i<20
  ·have t3:decide (((i:Nat):Int)<20)=true:=decide_eq_true (by omega)
   have t4:=winc (i:=i) (by omega)
   have e1:Hid (IntKind.i64.wrap (((k:Nat):Int).tmod 13 - 6)=((k % 13:Nat):Int) - 6):=show IntKind.i64.wrap (((k:Nat):Int).tmod 13 - 6)=((k % 13:Nat):Int) - 6 from by rw[Int.tmod_eq_emod_of_nonneg (by omega),wrap_i64 (by omega) (by omega)];omega
   have e2:Hid (IntKind.u32.wrap (((k:Nat):Int).tmod 4)=((k % 4:Nat):Int)):=show IntKind.u32.wrap (((k:Nat):Int).tmod 4)=((k % 4:Nat):Int)from by rw[Int.tmod_eq_emod_of_nonneg (by omega),wrap_u32 (by omega) (by omega)];omega
   have e3:Hid (IntKind.i64.wrap (((k:Nat):Int).tdiv 7)=((k/7:Nat):Int)):=show IntKind.i64.wrap (((k:Nat):Int).tdiv 7)=((k/7:Nat):Int)from wrap_i64 (n:=((k/7:Nat):Int)) (by omega) (by omega)
   have e4:Hid (IntKind.i64.wrap (((k/7:Nat):Int).tmod 13 - 6)=((k/7 % 13:Nat):Int) - 6):=show IntKind.i64.wrap (((k/7:Nat):Int).tmod 13 - 6)=((k/7 % 13:Nat):Int) - 6 from by rw[Int.tmod_eq_emod_of_nonneg (by omega),wrap_i64 (by omega) (by omega)];omega
   have e5:Hid (IntKind.i64.wrap (((k:Nat):Int).tdiv 3)=((k/3:Nat):Int)):=show IntKind.i64.wrap (((k:Nat):Int).tdiv 3)=((k/3:Nat):Int)from wrap_i64 (n:=((k/3:Nat):Int)) (by omega) (by omega)
   have e6:Hid (IntKind.u32.wrap (((k/3:Nat):Int).tmod 3)=((k/3 % 3:Nat):Int)):=show IntKind.u32.wrap (((k/3:Nat):Int).tmod 3)=((k/3 % 3:Nat):Int)from by rw[Int.tmod_eq_emod_of_nonneg (by omega),wrap_u32 (by omega) (by omega)];omega
   have e7:Hid (IntKind.i64.wrap (((k:Nat):Int)*31)=((k*31:Nat):Int)):=show IntKind.i64.wrap (((k:Nat):Int)*31)=((k*31:Nat):Int)from by rw[wrap_i64 (by omega) (by omega)];omega
   have e8:Hid (IntKind.i64.wrap (7*((i:Nat):Int))=((7*i:Nat):Int)):=show IntKind.i64.wrap (7*((i:Nat):Int))=((7*i:Nat):Int)from by rw[wrap_i64 (by omega) (by omega)];omega
   have e9:Hid (IntKind.i64.wrap (((k*31:Nat):Int)+((7*i:Nat):Int))=((k*31+7*i:Nat):Int)):=show IntKind.i64.wrap (((k*31:Nat):Int)+((7*i:Nat):Int))=((k*31+7*i:Nat):Int)from by rw[wrap_i64 (by omega) (by omega)];omega
   have e10:Hid (IntKind.i64.wrap (((k*31+7*i:Nat):Int)+11)=((k*31+7*i+11:Nat):Int)):=show IntKind.i64.wrap (((k*31+7*i:Nat):Int)+11)=((k*31+7*i+11:Nat):Int)from by rw[wrap_i64 (by omega) (by omega)];omega
   have qa:qOK (((k % 13:Nat):Int) - 6,((k % 4:Nat):Int)):=⟨⟨by show _≤_ - _;omega,by show _ - _<_;omega⟩,⟨by show 0≤_;omega,by show _<_;omega⟩⟩
   have qb:qOK (((k/7 % 13:Nat):Int) - 6,((k/3 % 3:Nat):Int)):=⟨⟨by show _≤_ - _;omega,by show _ - _<_;omega⟩,⟨by show 0≤_;omega,by show _<_;omega⟩⟩
   have sa:=Qblk_snoc hla (((k % 13:Nat):Int) - 6,((k % 4:Nat):Int))
   have sb:=Qblk_snoc hlb (((k/7 % 13:Nat):Int) - 6,((k/3 % 3:Nat):Int))
   refine SWx.of hE ?_
   conv=>whnf
   (repeat(first|(refine step_oN (by first|omega|decide|(simp only[tl0,dlen,List.length_replicate,List.length_set,List.length_map,List.length_zipWith,List.length_take,List.length_append,List.length_cons,List.length_nil];omega)) ?_;conv=>whnf)|(refine tst_tt t3 ?_;conv=>whnf)|(refine And.intro (by simp only[tiB25,dlen,List.length_map,List.length_append,List.length_cons,List.length_nil];omega) ?_;conv=>whnf)|(rw[t3];conv=>whnf)|(rw[e1.out];conv=>whnf)|(rw[e2.out];conv=>whnf)|(rw[e3.out];conv=>whnf)|(rw[e4.out];conv=>whnf)|(rw[e5.out];conv=>whnf)|(rw[e6.out];conv=>whnf)|(rw[e7.out];conv=>whnf)|(rw[e8.out];conv=>whnf)|(rw[e9.out];conv=>whnf)|(rw[e10.out];conv=>whnf)|(rw[t4];conv=>whnf)))
   refine⟨20 - (i+1),renBy [(36,2001),(48,2002)],[1,2,3,4,5],[36,48],by omega,by kernel_rfl,i+1,(k*31+7*i+11) % 100003,la++[(((k % 13:Nat):Int) - 6,((k % 4:Nat):Int))],lb++[(((k/7 % 13:Nat):Int) - 6,((k/3 % 3:Nat):Int))],rfl,hli,by omega,by simp;omega,by simp;omega,qOK_snoc hoa qa,qOK_snoc hob qb,rfl, ?_⟩
   rw[sa,sb]
   rfl
  ·have t3:decide (((i:Nat):Int)<20)=false:=decide_eq_false (by omega)
   obtain rfl:i=20:=by omega
   have ma:la.length≤maxLen:=by rw[hla];exact len20
   have mb:lb.length≤maxLen:=by rw[hlb];exact len20
   obtain⟨A,hA⟩:∃A:Nat,A=n % 4:=⟨_,rfl⟩
   obtain⟨B,hB⟩:∃B:Nat,B=n/2 % 5:=⟨_,rfl⟩
   have e1:Hid (IntKind.u8.wrap (((n:Nat):Int).tmod 4)=(A:Int)):=show IntKind.u8.wrap (((n:Nat):Int).tmod 4)=(A:Int)from by rw[Int.tmod_eq_emod_of_nonneg (by omega),wrap_u8 (by omega) (by omega)];omega
   have e2:Hid (IntKind.i64.wrap (((n:Nat):Int).tdiv 2)=((n/2:Nat):Int)):=show IntKind.i64.wrap (((n:Nat):Int).tdiv 2)=((n/2:Nat):Int)from wrap_i64 (n:=((n/2:Nat):Int)) (by omega) (by omega)
   have e3:Hid (IntKind.u8.wrap (((n/2:Nat):Int).tmod 5)=(B:Int)):=show IntKind.u8.wrap (((n/2:Nat):Int).tmod 5)=(B:Int)from by rw[Int.tmod_eq_emod_of_nonneg (by omega),wrap_u8 (by omega) (by omega)];omega
   have e4:Hid (IntKind.u8.wrap (((n:Nat):Int).tmod 5)=((n % 5:Nat):Int)):=show IntKind.u8.wrap (((n:Nat):Int).tmod 5)=((n % 5:Nat):Int)from by rw[Int.tmod_eq_emod_of_nonneg (by omega),wrap_u8 (by omega) (by omega)];omega
   have e5:Hid (IntKind.u8.wrap (((n:Nat):Int).tmod 3)=((n % 3:Nat):Int)):=show IntKind.u8.wrap (((n:Nat):Int).tmod 3)=((n % 3:Nat):Int)from by rw[Int.tmod_eq_emod_of_nonneg (by omega),wrap_u8 (by omega) (by omega)];omega
   have e6:Hid (IntKind.i64.wrap (((n:Nat):Int) - 6)=((n:Nat):Int) - 6):=show IntKind.i64.wrap (((n:Nat):Int) - 6)=((n:Nat):Int) - 6 from wrap_i64 (by omega) (by omega)
   have e7:Hid (IntKind.i64.wrap (0 - ((n:Nat):Int))= -((n:Nat):Int)):=show IntKind.i64.wrap (0 - ((n:Nat):Int))= -((n:Nat):Int)from by rw[wrap_i64 (by omega) (by omega)];omega
   have e8:Hid (IntKind.i64.wrap (((n:Nat):Int) - 3)=((n:Nat):Int) - 3):=show IntKind.i64.wrap (((n:Nat):Int) - 3)=((n:Nat):Int) - 3 from wrap_i64 (by omega) (by omega)
   have e9:Hid (IntKind.u8.wrap ((n:Nat):Int)=((n:Nat):Int)):=show IntKind.u8.wrap ((n:Nat):Int)=((n:Nat):Int)from wrap_u8 (by omega) (by omega)
   have e10:Hid (IntKind.i64.wrap (((n:Nat):Int).tmod 3 - 1)=((n % 3:Nat):Int) - 1):=show IntKind.i64.wrap (((n:Nat):Int).tmod 3 - 1)=((n % 3:Nat):Int) - 1 from by rw[Int.tmod_eq_emod_of_nonneg (by omega),wrap_i64 (by omega) (by omega)];omega
   have e11:Hid (IntKind.i64.wrap (((n:Nat):Int) - 2)=((n:Nat):Int) - 2):=show IntKind.i64.wrap (((n:Nat):Int) - 2)=((n:Nat):Int) - 2 from wrap_i64 (by omega) (by omega)
   have qc:qOK (((n:Nat):Int) - 6,3):=⟨⟨by show _≤_ - _;omega,by show _ - _<_;omega⟩,⟨by show(0:Int)≤3;decide,by show(3:Int)<4294967296;decide⟩⟩
   have mx:mOK (((A:Nat):Int),((B:Nat):Int),la):=⟨⟨Int.natCast_nonneg _,by show((A:Nat):Int)<256;omega⟩,⟨Int.natCast_nonneg _,by show((B:Nat):Int)<256;omega⟩,ma,hoa⟩
   have my:mOK (((n % 5:Nat):Int),((n % 3:Nat):Int),lb):=⟨⟨Int.natCast_nonneg _,by show((n % 5:Nat):Int)<256;omega⟩,⟨Int.natCast_nonneg _,by show((n % 3:Nat):Int)<256;omega⟩,mb,hob⟩
   have i3:∀(a b c:Int), -100≤a→a≤100→ -100≤b→b≤100→ -100≤c→c≤100→∀x∈[a,b,c], -9223372036854775808≤x∧x<9223372036854775808:=fun a b c _ _ _ _ _ _ x hx=>by
    simp only[List.mem_cons,List.not_mem_nil,or_false]at hx
    rcases hx with rfl|rfl|rfl<;>omega
   have hm3:3≤maxLen:=by decide
   have k1:=c_MPlays (((n:Nat):Int) - 6,3) (((A:Nat):Int),((B:Nat):Int),la) (((n % 5:Nat):Int),((n % 3:Nat):Int),lb) qc mx my
   have k2:=c_MApply (((A:Nat):Int),((B:Nat):Int),la) la lb mx ⟨ma,hoa⟩ ⟨mb,hob⟩
   have k3:=c_Ring (((n:Nat):Int) - 6,3) (((A:Nat):Int),((B:Nat):Int),la) (((n % 5:Nat):Int),((n % 3:Nat):Int),lb) (((A:Nat):Int),((B:Nat):Int),la) lb ((A:Nat):Int) ((n % 3:Nat):Int) ((n % 5:Nat):Int) qc mx my mx ⟨mb,hob⟩ (by omega) (by omega) (by omega)
   have k4:=c_Forms (((A:Nat):Int),((B:Nat):Int),la) la lb lb mx ⟨ma,hoa⟩ ⟨mb,hob⟩ ⟨mb,hob⟩
   have k5:=c_Parts (((A:Nat):Int),((B:Nat):Int),la) [((n:Nat):Int),1,0] [((n:Nat):Int), -((n:Nat):Int)] [2,0,0] mx (i3 _ _ _ (by omega) (by omega) (by omega) (by omega) (by omega) (by omega)) (fun x hx=>i3 ((n:Nat):Int) (-((n:Nat):Int)) 0 (by omega) (by omega) (by omega) (by omega) (by omega) (by omega) x (by
    simp only[List.mem_cons,List.not_mem_nil,or_false]at hx ⊢
    rcases hx with rfl|rfl<;>simp)) (i3 _ _ _ (by omega) (by omega) (by omega) (by omega) (by omega) (by omega)) hm3 (Nat.le_trans (show 2≤3 by decide) hm3) hm3
   have k6:=law_MatsErrors (((n:Nat):Int) - 3) (((n:Nat):Int).tmod 5) ((n:Nat):Int) (((n:Nat):Int).tmod 4) (((n % 3:Nat):Int) - 1) (i64w (by omega) (by omega)) (by rw[Int.tmod_eq_emod_of_nonneg (by omega)];exact i64w (by omega) (by omega)) (u8w (by omega) (by omega)) (by rw[Int.tmod_eq_emod_of_nonneg (by omega)];exact i64w (by omega) (by omega)) (i64w (by omega) (by omega))
   have k7:=c_Makes (((n:Nat):Int) - 2) (((n:Nat):Int).tmod 4) (la.take (n % 5)) (Nat.le_trans (List.length_take_le' _ _) ma) (fun q hq=>hoa q (List.mem_of_mem_take hq))
   have e12:Hid (((n:Nat):Int).tmod 5=((n % 5:Nat):Int)):=show((n:Nat):Int).tmod 5=((n % 5:Nat):Int)from rfl
   have k8:=c_MOf (((A:Nat):Int),((B:Nat):Int),la) mx
   have r1:(((A:Nat):Int) % 7).toNat=A:=by omega
   have r2:(((B:Nat):Int) % 7).toNat=B:=by omega
   simp only[r1,r2]at k8
   have ok:OKM A B (someL la (A*B)):=OKM_some la (by omega) (by omega)
   have sm:=Sm_some hoa (A*B)
   have o1:=m_TurnM ok 3001
   have o2:=m_AddM ok ok sm sm (by decide) 3002
   have o3:=m_SameT ok rfl
   have l1:(mturn A B (someL la (A*B))).length=B*A:=mk_len ..
   have l2:(vadd (someL la (A*B)) (someL la (A*B))).length=A*B:=zip_len ok.n ok.n
   have f7:=c_fInt 77 (by decide) (by decide)
   have f8:=c_fInt 78 (by decide) (by decide)
   have f9:=c_fInt 79 (by decide) (by decide)
   have o4:(A=0∧CallOK Tryz.prog 19 [mA A B (someL la (A*B)),iv 0] [] (.tup [fvec [],iv 1]) [] [])∨(0<A∧CallOK Tryz.prog 19 [mA A B (someL la (A*B)),iv 0] [] (.tup [.slc 3003 5 0 B,iv 0]) [(3003,fblk (rowF A B (someL la (A*B)) 0))] []):=by
    by_cases h:0<A
    ·exact .inr ⟨h,m_RowN ok h 3003⟩
    ·exact .inl ⟨by omega,m_RowI ok (i:=0) (by omega)⟩
   have l3:(rowF A B (someL la (A*B)) 0).length=B:=by simp
   generalize mturn A B (someL la (A*B))=X0 at*
   generalize vadd (someL la (A*B)) (someL la (A*B))=Y at*
   generalize rowF A B (someL la (A*B)) 0=R0 at*
   generalize someL la (A*B)=L at*
   refine SWx_freezeM 3 2001 (fun _ h=>h) (fun _=>rfl) rfl rfl hla.symm ?_
   refine SWx_freezeM 4 2002 (fun _ h=>h) (fun _=>rfl) rfl rfl hlb.symm ?_
   have hA4:A<4:=by omega
   have hB5:B<5:=by omega
   have hBA:B*A≤12:=Nat.mul_le_mul (show B≤4 by omega) (show A≤3 by omega)
   have hAB:A*B≤12:=Nat.mul_le_mul (show A≤3 by omega) (show B≤4 by omega)
   clear ma mb qc mx my i3 hm3 lqa lqb hoa hob sm hA hB r1 r2
   refine SWx.of hE ?_
   conv=>whnf
   (repeat(first|(refine step_w2 rfl rfl ?_;conv=>whnf)|(rw[t3];conv=>whnf)))
   refine SWx_thenM (fr1:= ?fr12) (hp1:= ?hp12) (fun K hK=>SWx_go hE ?ra12) ?rb12
   case ra12=>
    conv=>whnf
    (repeat((first|refine step_oN (by first|omega|decide|(simp only[tl0,dlen,List.length_replicate,List.length_set,List.length_map,List.length_zipWith,List.length_take,List.length_append,List.length_cons,List.length_nil];omega)) ?_|rw[e1.out]|rw[e2.out]|rw[e3.out]|rw[e4.out]|rw[e5.out]);conv=>whnf))
    exact hK
   conv=>whnf
   skip
   refine SWx_thenM (fr1:= ?fr13) (hp1:= ?hp13) (fun K hK=>SWx_go hE ?ra13) ?rb13
   case ra13=>
    conv=>whnf
    (repeat(first|(rw[e6.out];conv=>whnf)))
    exact hK
   conv=>whnf
   skip
   refine SWx_thenM (fr1:= ?fr14) (hp1:= ?hp14) (fun K hK=>SWx_go hE ?ra14) ?rb14
   case ra14=>
    conv=>whnf
    (repeat((first|refine step_w1 rfl rfl ?_|refine step_oN (by first|omega|decide|(simp only[tl0,dlen,List.length_replicate,List.length_set,List.length_map,List.length_zipWith,List.length_take,List.length_append,List.length_cons,List.length_nil];omega)) ?_|refine g_c (by assumption) ?_|refine g_o (op_pickF rfl (ev_ok rfl) (ev_ok rfl)) ?_|refine g_o (op_sliceM rfl (ev_ok rfl) (bound_spec rfl) (bound_spec rfl) (.inl rfl) (tgt rfl) rfl (tgt rfl) rfl (by omega)) ?_|rw[e1.out]|rw[e4.out]|rw[e5.out]|rw[e7.out]|rw[e8.out]|rw[e9.out]|rw[e10.out]|rw[e11.out]|rw[e12.out]|rw[Int.toNat_natCast]);conv=>whnf))
    exact hK
   conv=>whnf
   (repeat(first|(refine step_w2 rfl rfl ?_;conv=>whnf)))
   clear k1 k2 k3 k4 k5 k6 k7
   refine SWx_thenM (fr1:= ?fr16) (hp1:= ?hp16) (fun K hK=>SWx_go hE ?ra16) ?rb16
   case ra16=>
    conv=>whnf
    (repeat(first|(refine g_c (by assumption) ?_;conv=>whnf)))
    exact hK
   conv=>whnf
   skip
   refine SWx_thenM (fr1:= ?fr17) (hp1:= ?hp17) (fun K hK=>SWx_go hE ?ra17) ?rb17
   case ra17=>
    conv=>whnf
    (repeat(first|(refine g_cn (by assumption) rfl ?_;conv=>whnf)))
    exact hK
   conv=>whnf
   skip
   refine SWx_thenM (fr1:= ?fr18) (hp1:= ?hp18) (fun K hK=>SWx_go hE ?ra18) ?rb18
   case ra18=>
    conv=>whnf
    (repeat(first|(refine g_cn (by assumption) rfl ?_;conv=>whnf)))
    exact hK
   conv=>whnf
   skip
   refine SW_loopS hE (fun k=>k) [1,2,6,9,10,12,14] [6,9,10,12,3001,3002] (fun M fr hp=>∃(j:Nat) (X:List Rat),M=B*A - j∧j≤B*A∧X.length=B*A∧fr=[(1,iv (k:Nat)),(2,iv (n:Nat)),(6,.ptr 6 0 0 0),(9,.ptr 9 0 0 0),(10,.ptr 10 0 0 0),(12,.ptr 12 0 0 0),(14,iv (j:Nat))]∧
    hp=[(6,xB A B la),(9,oB A B L),(10,mSB B A 3001),(12,mSB A B 3002),(3001,fblk X),(3002,fblk Y)]) (B*A) ?_ ?_ ?_
   ·kernel_rfl
   ·exact⟨0,_,rfl,Nat.zero_le _,l1,rfl,rfl⟩
   clear o1 o2
   rintro M _ _ ⟨j,X,rfl,hj,hX,rfl,rfl⟩
   by_cases hjl:j<B*A
   ·have t5:=dlt hjl
    have t6:=winc (i:=j) (by omega)
    refine SWx.of hE ?_
    conv=>whnf
    (repeat((first|refine step_i (by kernel_rfl) ?_|refine step_oL (by first|omega|decide|(simp only[tl0,dlen,List.length_replicate,List.length_set,List.length_map,List.length_zipWith,List.length_take,List.length_append,List.length_cons,List.length_nil];omega)) ?_|refine step_oA (by first|omega|decide|(simp only[tl0,dlen,List.length_replicate,List.length_set,List.length_map,List.length_zipWith,List.length_take,List.length_append,List.length_cons,List.length_nil];omega)) ?_|refine g_c (by assumption) ?_|refine tst_tt t5 ?_|rw[t5]|rw[t6]|rw[Int.toNat_natCast]|rw[Nat.zero_add]);conv=>whnf))
    exact⟨B*A - (j+1),fun k=>k,[1,2,6,9,10,12,14],[6,9,10,12,3001,3002],by omega,by kernel_rfl,j+1,_,rfl,hjl,(by rw[List.length_set];exact hX),rfl,rfl⟩
   have t5:=dge hjl
   refine SWx.of hE ?_
   conv=>whnf
   (repeat(first|(refine tst_ff t5 ?_;conv=>whnf)|(rw[t5];conv=>whnf)|(rw[Nat.zero_add];conv=>whnf)))
   refine SW_loopS hE (fun k=>k) [1,2,6,9,12,15] [6,9,12,3002] (fun M fr hp=>∃(j:Nat) (X:List Rat),M=A*B - j∧j≤A*B∧X.length=A*B∧fr=[(1,iv (k:Nat)),(2,iv (n:Nat)),(6,.ptr 6 0 0 0),(9,.ptr 9 0 0 0),(12,.ptr 12 0 0 0),(15,iv (j:Nat))]∧
    hp=[(6,xB A B la),(9,oB A B L),(12,mSB A B 3002),(3002,fblk X)]) (A*B) ?_ ?_ ?_
   ·kernel_rfl
   ·exact⟨0,_,rfl,Nat.zero_le _,l2,rfl,rfl⟩
   clear t5 hjl
   rintro M _ _ ⟨j,X,rfl,hj,hX,rfl,rfl⟩
   by_cases hjl:j<A*B
   ·have t5:=dlt hjl
    have t6:=winc (i:=j) (by omega)
    refine SWx.of hE ?_
    conv=>whnf
    (repeat((first|refine step_i (by kernel_rfl) ?_|refine step_oL (by first|omega|decide|(simp only[tl0,dlen,List.length_replicate,List.length_set,List.length_map,List.length_zipWith,List.length_take,List.length_append,List.length_cons,List.length_nil];omega)) ?_|refine step_oA (by first|omega|decide|(simp only[tl0,dlen,List.length_replicate,List.length_set,List.length_map,List.length_zipWith,List.length_take,List.length_append,List.length_cons,List.length_nil];omega)) ?_|refine g_c (by assumption) ?_|refine tst_tt t5 ?_|rw[t5]|rw[t6]|rw[Int.toNat_natCast]|rw[Nat.zero_add]);conv=>whnf))
    exact⟨A*B - (j+1),fun k=>k,[1,2,6,9,12,15],[6,9,12,3002],by omega,by kernel_rfl,j+1,_,rfl,hjl,(by rw[List.length_set];exact hX),rfl,rfl⟩
   have t5:=dge hjl
   refine SWx.of hE ?_
   conv=>whnf
   (repeat(first|(refine tst_ff t5 ?_;conv=>whnf)|(rw[t5];conv=>whnf)|(rw[Nat.zero_add];conv=>whnf)))
   clear t5 hjl
   rcases o4 with⟨hA0,o4⟩|⟨hA0,o4⟩
   ·skip
    refine SWx_thenM (fr1:= ?fr27) (hp1:= ?hp27) (fun K hK=>SWx_go hE ?ra27) ?rb27
    case ra27=>
     conv=>whnf
     (repeat(first|(refine g_c (by assumption) ?_;conv=>whnf)))
     exact hK
    conv=>whnf
    skip
    refine SW_loopS hE (fun k=>k) [1,2,6,9,16,18] [6,9] (fun M fr hp=>M=0∧fr=[(1,iv (k:Nat)),(2,iv (n:Nat)),(6,.ptr 6 0 0 0),(9,.ptr 9 0 0 0),(16,fvec []),(18,iv 0)]∧hp=[(6,xB A B la),(9,oB A B L)]) 0 ?_ ?_ ?_
    ·kernel_rfl
    ·exact⟨rfl,rfl,rfl⟩
    rintro M _ _ ⟨rfl,rfl,rfl⟩
    refine SWx.of hE ?_
    conv=>whnf
    (repeat((first|refine step_w2 rfl rfl ?_|refine step_i (by kernel_rfl) ?_|refine g_c (by assumption) ?_|refine g_o (op_lenM rfl rfl rfl (ev_ok rfl) (tgt rfl) rfl) ?_|rw[t2]);conv=>whnf))
    exact⟨14 - (n+1),fun k=>k,[1,2],[],by omega,by kernel_rfl,n+1,k,rfl,hlt,hk,rfl,rfl⟩
   ·skip
    refine SWx_thenM (fr1:= ?fr28) (hp1:= ?hp28) (fun K hK=>SWx_go hE ?ra28) ?rb28
    case ra28=>
     conv=>whnf
     (repeat(first|(refine g_cn (by assumption) rfl ?_;conv=>whnf)))
     exact hK
    conv=>whnf
    skip
    refine SW_loopS hE (fun k=>k) [1,2,6,9,16,18] [6,9,3003] (fun M fr hp=>∃(j:Nat) (X:List Rat),M=B - j∧j≤B∧X.length=B∧fr=[(1,iv (k:Nat)),(2,iv (n:Nat)),(6,.ptr 6 0 0 0),(9,.ptr 9 0 0 0),(16,.slc 3003 5 0 B),(18,iv (j:Nat))]∧hp=[(6,xB A B la),(9,oB A B L),(3003,fblk X)]) B ?_ ?_ ?_
    ·kernel_rfl
    ·exact⟨0,_,rfl,Nat.zero_le _,l3,rfl,rfl⟩
    rintro M _ _ ⟨j,X,rfl,hj,hX,rfl,rfl⟩
    by_cases hjl:j<B
    ·have t5:=dlt hjl
     have t6:=winc (i:=j) (by omega)
     refine SWx.of hE ?_
     conv=>whnf
     (repeat((first|refine step_oL (by first|omega|decide|(simp only[tl0,dlen,List.length_replicate,List.length_set,List.length_map,List.length_zipWith,List.length_take,List.length_append,List.length_cons,List.length_nil];omega)) ?_|refine step_oA (by first|omega|decide|(simp only[tl0,dlen,List.length_replicate,List.length_set,List.length_map,List.length_zipWith,List.length_take,List.length_append,List.length_cons,List.length_nil];omega)) ?_|refine g_c (by assumption) ?_|refine tst_tt t5 ?_|rw[t5]|rw[t6]|rw[Int.toNat_natCast]|rw[Nat.zero_add]);conv=>whnf))
     exact⟨B - (j+1),fun k=>k,[1,2,6,9,16,18],[6,9,3003],by omega,by kernel_rfl,j+1,_,rfl,hjl,(by rw[List.length_set];exact hX),rfl,rfl⟩
    have t5:=dge hjl
    refine SWx.of hE ?_
    conv=>whnf
    (repeat((first|refine step_w2 rfl rfl ?_|refine step_i (by kernel_rfl) ?_|refine g_c (by assumption) ?_|refine tst_ff t5 ?_|rw[t5]|rw[t2]);conv=>whnf))
    exact⟨14 - (n+1),fun k=>k,[1,2],[],by omega,by kernel_rfl,n+1,k,rfl,hlt,hk,rfl,rfl⟩
 ·have t1:decide (((n:Nat):Int)<14)=false:=decide_eq_false (by omega)
  obtain rfl:n=14:=by omega
  have mE:∀a b c d:Int, -9223372036854775808≤a→a<9223372036854775808→ -9223372036854775808≤b→b<9223372036854775808→d=0∨d=5→c=0→CallOK Tryz.prog 13 [iel .i64 a,iel .i64 b,iel .u8 c,iel .i64 d,iel .i64 0] [] (.val (.bool true)) [] []:=fun a b c d h1 h2 h3 h4 h5 h6=>
   law_MatsErrors a b c d 0 (i64w h1 h2) (i64w h3 h4) (u8w (by omega) (by omega)) (i64w (by omega) (by omega)) (i64w (by decide) (by decide))
  have m1:=mE (-1) 2049 0 0 (by decide) (by decide) (by decide) (by decide) (.inl rfl) rfl
  have m2:=mE 2049 0 0 0 (by decide) (by decide) (by decide) (by decide) (.inl rfl) rfl
  have m3:=mE 2048 0 0 5 (by decide) (by decide) (by decide) (by decide) (.inr rfl) rfl
  have m4:=mE 0 2048 0 0 (by decide) (by decide) (by decide) (by decide) (.inl rfl) rfl
  have m5:=mE 4611686018427387904 4 0 0 (by decide) (by decide) (by decide) (by decide) (.inl rfl) rfl
  have m6:=mE 0 3 0 0 (by decide) (by decide) (by decide) (by decide) (.inl rfl) rfl
  have m7:=(c_Makes 2049 0 [] (Nat.zero_le _) (fun q hq=>by cases hq)).nilM3 (a:=none)
  have m8:=(c_Makes (-1) 2049 [] (Nat.zero_le _) (fun q hq=>by cases hq)).nilM3 (a:=none)
  have m9:=(c_Makes 0 5 [] (Nat.zero_le _) (fun q hq=>by cases hq)).nilM3 (a:=none)
  clear mE
  (repeat((first|refine step_w1 rfl rfl ?_|refine step_w2 rfl rfl ?_|refine g_c (by assumption) ?_|refine g_o (op_pickT rfl (ev_ok rfl) (ev_ok rfl)) ?_);conv=>whnf));(first|exact Recast.refl _|exact Frz.recast (Recast.refl _) rfl|(refine Frz.one rfl rfl ?_;skip)|(refine Frz.tup ?_;skip))
end Go.Proofs.YtfpagioknjjacaaGreatDoor
