/- The texts Lf. -/
import Derived.Test.YtfpagioknjjacaaGreatDoorQMBareissKnown13
import Derived.Test.YtfpagioknjjacaaGreatDoorQMBareissKnown23
import Derived.Test.YtfpagioknjjacaaGreatDoorQMBareissKnown25
import Derived.Test.YtfpagioknjjacaaGreatDoorQMBareissKnown26
import Derived.Test.YtfpagioknjjacaaGreatDoorQMBareissKnown28
import Derived.Test.YtfpagioknjjacaaGreatDoorQMBareissKnown11
import Derived.Test.YtfpagioknjjacaaGreatDoorQMBareissKnown31
namespace Go.Proofs.YtfpagioknjjacaaGreatDoor
open Go.Sx
set_option linter.unusedSimpArgs false
set_option linter.unusedVariables false
set_option maxRecDepth 100000
set_option maxHeartbeats 40000000
theorem Dg {n:Int} (h0: -9223372036854775808≤n) (h1:n<9223372036854775808):(Lit.int .i64 n).wf=true:=by
 have f1:IntKind.i64.min= -9223372036854775808:=rfl
 have f2:IntKind.i64.max=9223372036854775807:=rfl
 show(decide (IntKind.i64.min≤n)&&decide (n≤IntKind.i64.max))=true
 rw[f1,f2,decide_eq_true h0,decide_eq_true aa];rfl
theorem Ii {n:Int} (h0:0≤n) (h1:n<256):(Lit.int .u8 n).wf=true:=by
 have f1:IntKind.u8.min=0:=rfl
 have f2:IntKind.u8.max=255:=rfl
 show(decide (IntKind.u8.min≤n)&&decide (n≤IntKind.u8.max))=true
 rw[f1,f2,decide_eq_true h0,decide_eq_true aa];rfl
theorem afi {n:Int} (h0:0≤n) (h1:n<4294967296):(Lit.int .u32 n).wf=true:=by
 have f1:IntKind.u32.min=0:=rfl
 have f2:IntKind.u32.max=4294967295:=rfl
 show(decide (IntKind.u32.min≤n)&&decide (n≤IntKind.u32.max))=true
 rw[f1,f2,decide_eq_true h0,decide_eq_true aa];rfl
theorem ada {q:Int×Int} (h:Ed q):((Lit.int .i64 q.1).wf=true)∧((Lit.int .u32 q.2).wf=true):=⟨Dg h.1.1 h.1.2,afi h.2.1 h.2.2⟩
theorem Rk:25≤maxLen:=aF
theorem Zz {l:List (Int×Int)} (hl:l.length≤25) (h:∀q∈l,Ed q):QWf l:=⟨Nat.le_trans hl Rk,fun q hq=>ada (h q hq)⟩
theorem ZA {A B:Nat} {l:List (Int×Int)} (hA:A<256) (hB:B<256) (hl:l.length≤25) (h:∀q∈l,Ed q):MWf ((A:Int),(B:Int),l):=⟨Ii (Int.natCast_nonneg _) (by show(A:Int)<256;omega),Ii (Int.natCast_nonneg _) (by show(B:Int)<256;omega),Zz hl h⟩
abbrev small (l:List Int):Prop:=∀x∈l, -100≤x∧x≤100
theorem xE {l:List Int} {y:Int} (h:small l) (hy: -100≤y∧y≤100):small (l++[y]):=fun x hx=>by
 rcases List.mem_append.1 hx with hx|hx
 ·exact h x hx
 ·rcases List.mem_cons.1 hx with rfl|hx
  ·exact hy
  ·cases hx
theorem HV {l:List Int} {y:Int} {i:Nat} (h:small l) (hy: -100≤y∧y≤100):small (l.set i y):=fun x hx=>by
 rcases List.mem_or_eq_of_mem_set hx with hx|rfl
 ·exact h x hx
 ·exact hy
theorem Mh {l:List Int} (hl:l.length≤25) (h:small l):l.length≤maxLen∧∀x∈l,(Lit.int .i64 x).wf=true:=⟨Nat.le_trans hl Rk,fun x hx=>by have:=h x hx;exact Dg aa aa⟩
theorem Mi {A B:Nat} {l:List Int} (hA:A<256) (hB:B<256) (hl:l.length≤25) (h:small l):MB ((A:Int),(B:Int),l):=⟨Ii (Int.natCast_nonneg _) (by show(A:Int)<256;omega),Ii (Int.natCast_nonneg _) (by show(B:Int)<256;omega),Mh hl h⟩
abbrev HW (l:List Int):aC:=⟨2,true,.ints .i64 l⟩
theorem zp {l:List Int} {i:Nat} (hl:l.length=i) (x:Int):HW (l++[x])=⟨2,true,.ints .i64 (List.take i l++List.take 1 (List.drop 0 [x]))⟩:=by
 rw[HW,List.take_of_length_le aa];rfl
theorem Mj {l:List (Int×Int)} {q:Int×Int} (h:∀q∈l,Ed q) (hq:Ed q):∀x∈l++[q],Ed x:=fun x hx=>by
 rcases List.mem_append.1 hx with hx|hx
 ·exact h x hx
 ·rcases List.mem_cons.1 hx with rfl|hx
  ·exact hq
  ·cases hx
abbrev Pr (l:List (Int×Int)):aC:=⟨25,true,.seq 2 (l.map qA)⟩
theorem HX {l:List (Int×Int)} {i:Nat} (hl:l.length=i) (q:Int×Int):Pr (l++[q])=⟨25,true,.seq 2 (List.take i (l.map qA)++[qA q])⟩:=by
 rw[Pr,List.map_append,List.take_of_length_le (by simp;omega)];rfl
theorem sR:ab Tryz.prog 6 [] [] (.val (.bool true)) [] []:=by
 have kw:=fO
 refine gX [7,8,100014,100015,100016] Tryz.func6 ?_
 intro w0 ρ0 hE
 conv=>whnf
 skip
 refine ai hE (fun k=>k) [1,2] [] (fun M fr hp=>∃n k:Nat,M=12 - n∧n≤12∧k<100003∧fr=[(1,iv (k:Nat)),(2,iv (n:Nat))]∧hp=[]) 12 ?_ ?_ ?_
 ·kernel_rfl
 ·exact⟨0,1,rfl,Nat.zero_le _,aF,rfl,rfl⟩
 rintro M _ _ ⟨n,k,rfl,hn,hk,rfl,rfl⟩
 conv=>whnf
 by_cases aA:n<12
 ·have t1:decide (((n:Nat):Int)<12)=true:=decide_eq_true aa
  have t2:=bA (i:=n) aa
  (repeat(first|(refine aE t1 ?_;conv=>whnf)|(rw[t1];conv=>whnf)))
  refine bR (t:=3) (k:=2001) (s:=1) (blk:=HW []) rfl rfl rfl ?_
  refine bR (t:=4) (k:=2002) (s:=1) (blk:=HW []) rfl rfl rfl ?_
  refine bR (t:=5) (k:=2003) (s:=2) (blk:=Pr []) rfl rfl rfl ?_
  refine dd hE (fun k=>k) [1,2,3,4,5,6] [2001,2002,2003] (fun M fr hp=>∃(i k:Nat) (la lb:List Int) (lq:List (Int×Int)),M=25 - i∧i≤25∧k<100003∧la.length=i∧lb.length=i∧lq.length=i∧small la∧small lb∧(∀q∈lq,Ed q)∧
   fr=[(1,iv (k:Nat)),(2,iv (n:Nat)),(3,.aN 2001 1 0 i),(4,.aN 2002 1 0 i),(5,.aN 2003 2 0 i),(6,iv (i:Nat))]∧hp=[(2001,HW la),(2002,HW lb),(2003,Pr lq)]) 25 ?_ ?_ ?_
  ·kernel_rfl
  ·exact⟨0,k,[],[],[],rfl,Nat.zero_le _,hk,rfl,rfl,rfl,fun q hq=>(by cases hq),fun q hq=>(by cases hq),fun q hq=>(by cases hq),rfl,rfl⟩
  clear hk k
  rintro M _ _ ⟨i,k,la,lb,lq,rfl,hi,hk,hla,QF,hlq,hoa,jr,hoq,rfl,rfl⟩
  have lqq:(lq.map qA).length=i:=by simp;omega
  by_cases hli:i<25
  ·have t3:decide (((i:Nat):Int)<25)=true:=decide_eq_true aa
   have t4:=bA (i:=i) aa
   have e1:Hid (IntKind.i64.wrap (((k:Nat):Int).tmod 7 - 3)=((k % 7:Nat):Int) - 3):=show IntKind.i64.wrap (((k:Nat):Int).tmod 7 - 3)=((k % 7:Nat):Int) - 3 from by rw[Int.tmod_eq_emod_of_nonneg aa,wrap_i64 aa aa];omega
   have e3:Hid (IntKind.i64.wrap (((k:Nat):Int).tdiv 7)=((k/7:Nat):Int)):=show IntKind.i64.wrap (((k:Nat):Int).tdiv 7)=((k/7:Nat):Int)from wrap_i64 (n:=((k/7:Nat):Int)) aa aa
   have e4:Hid (IntKind.i64.wrap (((k/7:Nat):Int).tmod 9 - 4)=((k/7 % 9:Nat):Int) - 4):=show IntKind.i64.wrap (((k/7:Nat):Int).tmod 9 - 4)=((k/7 % 9:Nat):Int) - 4 from by rw[Int.tmod_eq_emod_of_nonneg aa,wrap_i64 aa aa];omega
   have e5:Hid (IntKind.i64.wrap (((k:Nat):Int).tmod 11 - 5)=((k % 11:Nat):Int) - 5):=show IntKind.i64.wrap (((k:Nat):Int).tmod 11 - 5)=((k % 11:Nat):Int) - 5 from by rw[Int.tmod_eq_emod_of_nonneg aa,wrap_i64 aa aa];omega
   have e6:Hid (IntKind.u32.wrap (((k:Nat):Int).tmod 5)=((k % 5:Nat):Int)):=show IntKind.u32.wrap (((k:Nat):Int).tmod 5)=((k % 5:Nat):Int)from by rw[Int.tmod_eq_emod_of_nonneg aa,wrap_u32 aa aa];omega
   have e7:Hid (IntKind.i64.wrap (((k:Nat):Int)*31)=((k*31:Nat):Int)):=show IntKind.i64.wrap (((k:Nat):Int)*31)=((k*31:Nat):Int)from by rw[wrap_i64 aa aa];omega
   have e8:Hid (IntKind.i64.wrap (7*((i:Nat):Int))=((7*i:Nat):Int)):=show IntKind.i64.wrap (7*((i:Nat):Int))=((7*i:Nat):Int)from by rw[wrap_i64 aa aa];omega
   have e9:Hid (IntKind.i64.wrap (((k*31:Nat):Int)+((7*i:Nat):Int))=((k*31+7*i:Nat):Int)):=show IntKind.i64.wrap (((k*31:Nat):Int)+((7*i:Nat):Int))=((k*31+7*i:Nat):Int)from by rw[wrap_i64 aa aa];omega
   have Ib:Hid (IntKind.i64.wrap (((k*31+7*i:Nat):Int)+11)=((k*31+7*i+11:Nat):Int)):=show IntKind.i64.wrap (((k*31+7*i:Nat):Int)+11)=((k*31+7*i+11:Nat):Int)from by rw[wrap_i64 aa aa];omega
   have qq:Ed (((k % 11:Nat):Int) - 5,((k % 5:Nat):Int)):=⟨⟨by show _≤_ - _;omega,by show _ - _<_;omega⟩,⟨by show 0≤_;omega,by show _<_;omega⟩⟩
   have sa:=zp hla (((k % 7:Nat):Int) - 3)
   have sb:=zp QF (((k/7 % 9:Nat):Int) - 4)
   have sq:=HX hlq (((k % 11:Nat):Int) - 5,((k % 5:Nat):Int))
   refine ey.of hE ?_
   conv=>whnf
   (repeat(first|(refine ay Q3 ?_;conv=>whnf)|(refine bN Q3 ?_;conv=>whnf)|(refine aE t3 ?_;conv=>whnf)|(refine And.intro (by simp only[aaq,eR,List.length_map,List.length_append,List.length_cons,List.length_nil];omega) ?_;conv=>whnf)|(rw[t3];conv=>whnf)|(rw[e1.out];conv=>whnf)|(rw[e3.out];conv=>whnf)|(rw[e4.out];conv=>whnf)|(rw[e5.out];conv=>whnf)|(rw[e6.out];conv=>whnf)|(rw[e7.out];conv=>whnf)|(rw[e8.out];conv=>whnf)|(rw[e9.out];conv=>whnf)|(rw[Ib.out];conv=>whnf)|(rw[t4];conv=>whnf)))
   refine⟨25 - (i+1),cx [(22,2001),(29,2002),(39,2003)],[1,2,3,4,5,6],[22,29,39],aa,aB,i+1,(k*31+7*i+11) % 100003,la++[((k % 7:Nat):Int) - 3],lb++[((k/7 % 9:Nat):Int) - 4],lq++[(((k % 11:Nat):Int) - 5,((k % 5:Nat):Int))],rfl,hli,aa,by simp;omega,by simp;omega,by simp;omega,xE hoa aa,xE jr aa,Mj hoq qq,rfl, ?_⟩
   rw[sa,sb,sq]
   rfl
  ·have t3:decide (((i:Nat):Int)<25)=false:=decide_eq_false aa
   obtain rfl:i=25:=aa
   have htm:((n:Nat):Int).tmod 3=((n % 3:Nat):Int):=rfl
   have hos:small (la.set (0:Int).toNat (((n:Nat):Int).tmod 3)):=HV hoa (by rw[htm];omega)
   have hls:(la.set (0:Int).toNat (((n:Nat):Int).tmod 3)).length=25:=by rw[List.length_set];exact hla
   refine ey.of hE ?_
   conv=>whnf
   (repeat(first|(refine af rfl rfl ?_;conv=>whnf)|(rw[t3];conv=>whnf)))
   refine eM (fr1:= ?fr14) (hp1:= ?hp14) (fun K hK=>dC hE ?ra14) ?rb14
   case ra14=>
    conv=>whnf
    (repeat((first|refine aX Q3 ?_|refine ay Q3 ?_|refine bN Q3 ?_|rw[Nat.zero_add]);conv=>whnf))
    exact hK
   conv=>whnf
   skip
   generalize la.set (0:Int).toNat (((n:Nat):Int).tmod 3)=lc at*
   refine kM 3 2001 (fun _ h=>h) rfl rfl hls.symm ?_
   refine kM 4 2002 (fun _ h=>h) rfl rfl QF.symm ?_
   refine eB 5 2003 (fun _ h=>h) (fun _=>rfl) rfl rfl hlq.symm ?_
   have mv:MB (((n % 5:Nat):Int),((n % 4:Nat):Int),lc):=Mi aa aa aa hos
   have mw:MB (((n % 4:Nat):Int),((n % 5:Nat):Int),lb):=Mi aa aa aa jr
   have mq:MWf (((n % 5:Nat):Int),((n % 6:Nat):Int),lq):=ZA aa aa aa hoq
   have wb:=Mh (show lb.length≤25 by omega) jr
   have un:(Lit.int .u8 ((n:Nat):Int)).wf=true:=Ii aa aa
   have uh:(Lit.int .u8 ((n/2:Nat):Int)).wf=true:=Ii aa aa
   have u5:(Lit.int .u8 ((n % 5:Nat):Int)).wf=true:=Ii aa aa
   have u4:(Lit.int .u8 ((n % 4:Nat):Int)).wf=true:=Ii aa aa
   have u6:(Lit.int .u8 ((n % 6:Nat):Int)).wf=true:=Ii aa aa
   have afj:n % 4*(n % 3)≤6:=Nat.mul_le_mul (show n % 4≤3 by omega) (show n % 3≤2 by omega)
   have up:(Lit.int .u8 ((n % 4*(n % 3):Nat):Int)).wf=true:=Ii (Int.natCast_nonneg _) aa
   have k1:=rv _ ((n:Nat):Int) ((n % 5:Nat):Int) mv un u5
   have k2:=ot _ ((n:Nat):Int) ((n/2:Nat):Int) mv un uh
   have k3:=rI _ ((n:Nat):Int) lb mv un wb
   have k4:=pt _ _ ((n % 4:Nat):Int) mv mw u4
   have k5:=sQ _ ((n % 5:Nat):Int) mq u5
   have k6:=sD _ ((n % 6:Nat):Int) mw u6
   have k7:=lI (((n:Nat):Int).tmod 4) (((n:Nat):Int).tmod 3) ((n % 4*(n % 3):Nat):Int) ((n % 4:Nat):Int) (((n % 4:Nat):Int) - 1) (by rw[Int.tmod_eq_emod_of_nonneg aa];exact Dg aa aa) (by rw[Int.tmod_eq_emod_of_nonneg aa];exact Dg aa aa) up u4 (Dg aa aa)
   have e1:Hid (IntKind.u8.wrap (((n:Nat):Int).tmod 5)=((n % 5:Nat):Int)):=show IntKind.u8.wrap (((n:Nat):Int).tmod 5)=((n % 5:Nat):Int)from by rw[Int.tmod_eq_emod_of_nonneg aa,wrap_u8 aa aa];omega
   have e3:Hid (IntKind.i64.wrap (((n:Nat):Int).tdiv 2)=((n/2:Nat):Int)):=show IntKind.i64.wrap (((n:Nat):Int).tdiv 2)=((n/2:Nat):Int)from wrap_i64 (n:=((n/2:Nat):Int)) aa aa
   have e4:Hid (IntKind.u8.wrap (((n:Nat):Int).tmod 4)=((n % 4:Nat):Int)):=show IntKind.u8.wrap (((n:Nat):Int).tmod 4)=((n % 4:Nat):Int)from by rw[Int.tmod_eq_emod_of_nonneg aa,wrap_u8 aa aa];omega
   have e5:Hid (IntKind.u8.wrap ((n/2:Nat):Int)=((n/2:Nat):Int)):=show IntKind.u8.wrap ((n/2:Nat):Int)=((n/2:Nat):Int)from wrap_u8 aa aa
   have e6:Hid (IntKind.u8.wrap (((n:Nat):Int).tmod 6)=((n % 6:Nat):Int)):=show IntKind.u8.wrap (((n:Nat):Int).tmod 6)=((n % 6:Nat):Int)from by rw[Int.tmod_eq_emod_of_nonneg aa,wrap_u8 aa aa];omega
   have e7:Hid (IntKind.u8.wrap ((n:Nat):Int)=((n:Nat):Int)):=show IntKind.u8.wrap ((n:Nat):Int)=((n:Nat):Int)from wrap_u8 aa aa
   have e8:Hid (IntKind.i64.wrap (((n:Nat):Int).tmod 4*((n:Nat):Int).tmod 3)=((n % 4*(n % 3):Nat):Int)):=show IntKind.i64.wrap (((n:Nat):Int).tmod 4*((n:Nat):Int).tmod 3)=((n % 4*(n % 3):Nat):Int)from wrap_i64 (n:=((n % 4*(n % 3):Nat):Int)) aa aa
   have e9:Hid (IntKind.u8.wrap ((n % 4*(n % 3):Nat):Int)=((n % 4*(n % 3):Nat):Int)):=show IntKind.u8.wrap ((n % 4*(n % 3):Nat):Int)=((n % 4*(n % 3):Nat):Int)from wrap_u8 aa aa
   have Ib:Hid (IntKind.i64.wrap (((n:Nat):Int).tmod 4 - 1)=((n % 4:Nat):Int) - 1):=show IntKind.i64.wrap (((n:Nat):Int).tmod 4 - 1)=((n % 4:Nat):Int) - 1 from by rw[Int.tmod_eq_emod_of_nonneg aa,wrap_i64 aa aa];omega
   clear mv mw mq wb un uh u5 u4 u6 up afj hos hoa jr hoq lqq htm
   refine eM (fr1:= ?fr15) (hp1:= ?hp15) (fun K hK=>dC hE ?ra15) ?rb15
   case ra15=>
    conv=>whnf
    (repeat(first|(refine bN Q3 ?_;conv=>whnf)|(rw[e1.out];conv=>whnf)|(rw[e4.out];conv=>whnf)))
    exact hK
   conv=>whnf
   skip
   refine eM (fr1:= ?fr16) (hp1:= ?hp16) (fun K hK=>dC hE ?ra16) ?rb16
   case ra16=>
    conv=>whnf
    (repeat((first|refine ag rfl rfl ?_|refine bN Q3 ?_|refine aS (by assumption) ?_|refine ak jo ?_|rw[e1.out]|rw[e3.out]|rw[e4.out]|rw[e5.out]|rw[e6.out]|rw[e7.out]|rw[e8.out]|rw[e9.out]|rw[Ib.out]);conv=>whnf))
    exact hK
   conv=>whnf
   (repeat(first|(refine af rfl rfl ?_;conv=>whnf)))
   rw[t2]
   exact⟨12 - (n+1),fun k=>k,[1,2],[],aa,aB,n+1,k,rfl,aA,hk,rfl,rfl⟩
 ·have t1:decide (((n:Nat):Int)<12)=false:=decide_eq_false aa
  obtain rfl:n=12:=aa
  have mE:∀a b c d e:Int, -1≤a→a≤2049→0≤b→b≤2049→0≤c→c≤4→0≤d→d≤4→0≤e→e<9223372036854775808→ab Tryz.prog 48 [iv a,iv b,fV .u8 c,fV .u8 d,iv e] [] (.val (.bool true)) [] []:=fun a b c d e h1 h2 h3 h4 h5 h6 h7 h8 h9 ZH=>
   lI a b c d e (Dg aa aa) (Dg aa aa) (Ii aa aa) (Ii aa aa) (Dg aa aa)
  have m1:=mE (-1) 3 0 0 0 aF aF aF aF aF aF aF aF aF aF
  have m2:=mE 2049 0 0 0 0 aF aF aF aF aF aF aF aF aF aF
  have m3:=mE 0 2048 0 0 0 aF aF aF aF aF aF aF aF aF aF
  have m4:=mE 0 0 0 0 0 aF aF aF aF aF aF aF aF aF aF
  have m5:=mE 2 2 4 2 9223372036854775807 aF aF aF aF aF aF aF aF aF aF
  clear mE
  (repeat((first|refine ag rfl rfl ?_|refine af rfl rfl ?_|refine aS (by assumption) ?_|refine ak jJ ?_);conv=>whnf));exact Q5
end Go.Proofs.YtfpagioknjjacaaGreatDoor
