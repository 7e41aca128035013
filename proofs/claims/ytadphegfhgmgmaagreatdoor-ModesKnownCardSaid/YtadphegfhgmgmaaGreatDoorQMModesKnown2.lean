/- The texts SxH, SxI, SxN, SxO, SxP, SxR, SxS, SxW, SxX, SxT, SxU, SxV, SxY, Tab, Cg, Da, Db. -/
import Derived.Tactics
import Derived.Scope
import Derived.KernelRfl
import Derived.Carry
import Derived.OpenShut
import Derived.Deep.Slices
import Derived.Lib.LaidTab
import Derived.Laws.CopyRow
import Derived.Test.YtadphegfhgmgmaaGreatDoorRows
import Derived.Test.YtadphegfhgmgmaaGreatDoorQMModesKnown1
set_option linter.unusedSimpArgs false
set_option linter.unusedVariables false
set_option maxHeartbeats 2000000
set_option maxRecDepth 100000
open Array renaming ext'->ac0,getD_eq_getD_getElem?->Ϻ,getElem?_append_left->agY,length_toList->ϭ,replicate->aca
open BitVec renaming ofInt->acN,ofInt_natCast->ac8,toNat_and->akQ,toNat_ofNat->aeD
open Bool renaming and_eq_true->Μ,and_true->aiX,eq_iff_iff->ajq,false_eq_true->Κ,false_ne_true->afV,not_eq_true->ale,not_eq_true'->agk,or_eq_true->af8
open ByteArray renaming mk->ϱ
open Classical renaming axiomOfChoice->ajr,byContradiction->Ο
open Go.Act renaming put->ajt
open Go.Builtin renaming copy_->ahr,firstCells->Ω
open Go.ByteArray renaming toList_eq->aih
open Go.Code renaming wpIn_mono->age
open Go.DataW renaming TrodAll->alB
open Go.Deep renaming add_add->alX
open Go.Ending renaming returned->ajf
open Go.Fence renaming wide->ajD
open Go.Frame renaming atR->amh
open Go.IntKind renaming bits->abG,i64->ε,max->ajW,min->ajV,signed->aen,u32->Φ,u64->Ζ,wrap->agE
open Go.Lib renaming TabIs->ags
open Go.Lit renaming int->Ϸ
open Go.Machine renaming fenced->ak3
open Go.Op renaming eqFields->akP
open Go.Region renaming binds->agJ,wanted->af2
open Go.Result renaming andThen_ok->ν
open Go.RowKit renaming Below->aeR
open Go.RowKit.Below renaming refl->afO,trod->ami
open Go.Sem renaming run_bind->Β,run_pure->Ε
open Go.StepsIn renaming trans->alh
open Go.Value renaming int->adt,oneCell'->aaq
open Go.World renaming cell?->aj9,cells?_some->akS,putObj_heap_other->ajQ,var?->al9
open Go.stepG renaming exec->al7
open Int renaming add_mul_emod_self_left->ahJ,add_zero->ajU,ediv_emod_unique->akE,emod_eq_of_lt->ajw,le_of_lt->ahD,lt_or_gt_of_ne->ak7,lt_trichotomy->ai2,mul_le_mul_of_nonneg_right->acQ,mul_neg->akD,natAbs_mul->ac6,natAbs_natCast->abK,natCast_add->Ϫ,natCast_ediv->afA,natCast_mul->Ρ,neg_mul->akC,neg_mul_neg->alD,ofNat_lt->aiT,pow_pos->alq,pow_succ->ϫ,sign_eq_neg_one_of_neg->ϕ,sign_eq_one_of_pos->ϰ,toNat_natCast->ι,zero_mul->ajT
open List renaming all_cons->af7,all_eq_true->aiy,any_eq_true->alj,append_assoc->abA,append_nil->ϣ,drop_drop->afZ,ext_getElem?->ajj,find?_eq_none->akO,find?_some->agh,flatMap_def->ϸ,flatten_append->ϝ,getD_cons_succ->abt,getD_cons_zero->aeL,getD_eq_getElem?_getD->δ,getElem?_append_left->ϳ,getElem?_append_right->afW,getElem?_cons_succ->ϥ,getElem?_cons_zero->ϑ,getElem?_drop->akN,getElem?_eq_getElem->φ,getElem?_eq_none->Ϙ,getElem?_eq_some_iff->Ϩ,getElem?_map->ac4,getElem?_replicate->aii,getElem?_take->ahL,getElem?_toArray->ό,headD_cons->ads,length_append->ξ,length_cons->ϊ,length_drop->ϗ,length_eq_one_iff->aj1,length_map->Χ,length_nil->ajM,length_replicate->agr,length_set->ϒ,length_singleton->adg,length_take->ψ,length_zipWith->ahj,map->alC,map_cons->ϲ,map_drop->ahO,map_nil->af6,map_take->ahM,mem_append->ϖ,mem_cons->Λ,mem_cons_of_mem->Δ,mem_cons_self->η,mem_map->abo,mem_of_find?_eq_some->ac7,mem_of_mem_drop->Ψ,mem_of_mem_take->Θ,mem_range->af4,mem_singleton->μ,nodup_append->ae0,nodup_cons->aiA,not_mem_nil->afT,range->Η,rec->aiz,replicate->θ,size_toArray->af5,take_append_drop->ϟ,zipWith->ω
open List.cons renaming injEq->afR
open Nat renaming add_assoc->af1,add_mul->gx,and_le_left->alA,beq->ϋ,beq_refl->acZ,ble->agG,blt_eq->aj8,div_add_mod->abp,div_le_self->ac1,eq_of_beq_eq_true->χ,gcd->ac2,gcd_dvd_left->alr,gcd_dvd_right->ajv,le_of_ble_eq_true->abW,le_of_dvd->akA,le_refl->ζ,le_trans->Ι,lt_of_le_of_lt->ϓ,min_eq_left->acR,mod_eq_of_lt->Υ,mod_lt->ab8,mul_comm->Ϣ,mul_le_mul_right->ο,mul_ne_zero->agI,mul_pos->agj,pos_of_ne_zero->ak4,pow_succ->ϙ,strongRecOn->aiI,sub_self->af0,succ_le_of_lt->alg,succ_mul->ϯ,succ_ne_zero->Ϗ,testBit->agD,testBit_or->alP,two_pow_pos->aeo,zero_le->Γ,zero_mul->aeC
open Option renaming bind_some->akR
open Option.some renaming inj->abU,injEq->κ
open Prod.mk renaming injEq->ς
open Rat renaming den_inv->amk,mul_def'->akd,normalize_eq_mkRat->akb,num_eq_zero->ajR,num_inv->amj
open UInt8 renaming ofNat->aal
namespace Go.Sx
structure ia where
 rt:List Nat
 rk:List Nat
 wt:Option Nat
 wk:List Nat
def az:List (Nat×aC)->List Nat
 |[]=>[]
 |(k,_)::r=>k::az r
theorem aR {l:List (Nat×aC)} {k:Nat}:k∈az l↔∃b,(k,b)∈l:=by
 induction l with
 |nil=>simp[az]
 |cons x l ih=>
  obtain⟨j,b⟩:=x;simp only[az,Λ,ih,ς];constructor
  ·rintro(rfl|⟨b',h⟩)
   ·exact⟨b,.inl ⟨rfl,rfl⟩⟩
   ·exact⟨b',.inr h⟩
  ·rintro⟨b',⟨rfl,rfl⟩|h⟩
   ·exact .inl rfl
   ·exact .inr ⟨b',h⟩
def Ge (dst:Option Nat) (c:SV) (fr:List (Nat×SV)):List (Nat×SV):=
 match dst with
 |some d=>(d,c)::fr
 |none=>fr
def fi (hp:List (Nat×aC)) (k:Nat) (b:aC):List (Nat×aC):=
 match hp with
 |[]=>[(k,b)]
 |(j,c)::r=>match ϋ j k with
  |true=>(k,b)::r
  |false=>(j,c)::fi r k b
def zO (ks:List (Nat×aC)) (hp:List (Nat×aC)):List (Nat×aC):=
 match ks with
 |[]=>hp
 |(k,b)::r=>fi (zO r hp) k b
theorem bS {k:Nat} {b:aC}:∀(hp:List (Nat×aC)) (j:Nat),find (fi hp k b) j=if j=k then some b else find hp j
 |[],j=>by
  simp only[fi,find];cases h:ϋ k j with
  |true=>rw[if_pos (χ h).symm]
  |false=>rw[if_neg];rintro rfl;simp[acZ]at h
 |(i,c)::r,j=>by
  have ih:=bS (k:=k) (b:=b) r j;simp only[fi];cases h:ϋ i k with
  |true=>
   have N8:=χ h;subst N8;simp only[find];cases h2:ϋ i j with
   |true=>rw[if_pos (χ h2).symm]
   |false=>rw[if_neg];rintro rfl;simp[acZ]at h2
  |false=>
   simp only[find];cases h2:ϋ i j with
   |true=>
    have KG:=χ h2;subst KG;rw[if_neg];rintro rfl;simp[acZ]at h
   |false=>exact ih
theorem CB:∀(ks hp:List (Nat×aC)) (j:Nat),find (zO ks hp) j=match find ks j with
  |some b=>some b
  |none=>find hp j
 |[],hp,j=>by simp[zO,find]
 |(k,b)::r,hp,j=>by
  have ih:=CB r hp j;simp only[zO,bS,find];cases h:ϋ k j with
  |true=>rw[if_pos (χ h).symm]
  |false=>rw[if_neg (by rintro rfl;simp[acZ]at h),ih]
def fn (fr:List (Nat×SV)) (hp:List (Nat×aC)):Loc->LV
 |.t n=>.t (lk fr n)
 |.k n=>.k (find hp n)
theorem zP (dst:Option Nat) (c:SV) (ks:List (Nat×aC)) (fr:List (Nat×SV)) (hp:List (Nat×aC)):lay dst c ks (fn fr hp)=fn (Ge dst c fr) (zO ks hp):=by
 funext l;cases l with
 |t n=>
  simp only[lay,fn];cases dst with
  |none=>simp[Ge]
  |some d=>
   simp only[κ,Ge,lk];cases h:ϋ d n with
   |true=>rw[if_pos (χ h)]
   |false=>rw[if_neg (by rintro rfl;simp[acZ]at h)]
 |k n=>
  simp only[lay,fn,CB];cases find ks n<;>rfl
structure Env where
 P:Program
 T:List (TypeId×TI)
 W0:Nat->Prop
 w0:World
 n:Nat
 ρ0:bY
 fx:List Nat
 Z:List Nat
 ro:Option Nat
structure Ext (E:Env) (ρ:bY):Prop where
 le:E.ρ0.Le ρ
 aW:∀b o,ρ.aW b=some o->E.ρ0.aW b=some o\/E.w0.heap.size<=b
 fix:∀k,k∈E.fx->ρ.key k=E.ρ0.key k
def RR (E:Env) (s:Loc->LV) (a:Act) (w:World):Prop:=∃ρ,Ext E ρ/\(∀k,k∈E.fx->(s (.k k)).blk≠none)/\R E.W0 E.w0 E.n ρ s a w
def zQ (E:Env) (ops:Array Oper) (o:Oper) (fr:List (Nat×SV)) (hp:List (Nat×aC)) (f:ia) (c:SV) (ks:List (Nat×aC)):Prop:=
 f.wt=o.dst/\(∀k,k∈f.wk↔∃b,(k,b)∈ks)/\
  ∀s,(∀t,t∈f.rt->s (.t t)=fn fr hp (.t t))->(∀k,k∈f.rk\/k∈f.wk->s (.k k)=fn fr hp (.k k))->∀a w,RR E s a w->
   (if af2 o (yielded ops a.tmps)then goes E.P o a w (λa' w'=>RR E (lay o.dst c ks s) a' w')else RR E (lay o.dst c ks s) (a.put o.dst undef) w)
def CD (n:Nat):Option Nat->Bool
 |none=>true
 |some d=>Nat.blt d n
def zR (F:SV->(SV->Prop)->Prop) (l:List SV):(List SV->Prop)->Prop:=
 aiz (motive:=λ_=>(List SV->Prop)->Prop) (λK=>K []) (λc _ ih K=>F c λc'=>ih λl'=>K (c'::l')) l
def rS (F:SV->(SV->Prop)->Prop) (c:SV) (K:SV->Prop):Prop:=match c with
  |.agg cs=>zR F cs λl=>K (.agg l)
  |.bQ cs=>zR F cs λl=>K (.bQ l)
  |.any=>K .any
  |.val v=>K (.val v)
  |.ptr k s i r=>K (.ptr k s i r)
  |.aM k s i n=>K (.aM k s i n)
  |.nat n=>K (.nat n)
  |.int z=>K (.int z)
  |.frac q=>K (.frac q)
  |.atom p=>K (.atom p)
  |.clo f a b=>K (.clo f a b)
  |.yld l rc ts a=>K (.yld l rc ts a)
def IV (c:SV) (K:SV->Prop):Prop:=rS (rS (rS (rS λc K=>K c))) c K
def vp (b:aC) (K:aC->Prop):Prop:=match b with
 |⟨ty,wr,d⟩=>match d with
  |.one cs=>zR IV cs λl=>K ⟨ty,wr,.one l⟩
  |.ints kd xs=>K ⟨ty,wr,.ints kd xs⟩
  |.cf xs=>K ⟨ty,wr,.cf xs⟩
  |.seq w xs=>K ⟨ty,wr,.seq w xs⟩
  |.dead=>K ⟨ty,wr,.dead⟩
  |.loop rc=>K ⟨ty,wr,.loop rc⟩
def D6 (l:List (Nat×aC)):(List (Nat×aC)->Prop)->Prop:=
 aiz (motive:=λ_=>(List (Nat×aC)->Prop)->Prop) (λK=>K []) (λx _ ih K=>match x with
  |(k,b)=>vp b λb'=>ih λr'=>K ((k,b')::r')) l
def zS (l:List Nat):(List Nat->Prop)->Prop:=
 aiz (motive:=λ_=>(List Nat->Prop)->Prop) (λK=>K []) (λx _ ih K=>ih λr'=>K (x::r')) l
def D7 (l:List (Nat×SV)):(List (Nat×SV)->Prop)->Prop:=
 aiz (motive:=λ_=>(List (Nat×SV)->Prop)->Prop) (λK=>K []) (λx _ ih K=>match x with
  |(t,c)=>ih λr'=>K ((t,c)::r')) l
def OC (d:Option Nat) (K:Option Nat->Prop):Prop:=match d with
 |none=>K none
 |some t=>K (some t)
def X5 (dst:Option Nat) (c:SV) (fr:List (Nat×SV)) (K:List (Nat×SV)->Prop):Prop:=match dst with
 |some d=>K ((d,c)::fr)
 |none=>K fr
def KH (hp:List (Nat×aC)) (k:Nat) (b:aC):(List (Nat×aC)->Prop)->Prop:=
 aiz (motive:=λ_=>(List (Nat×aC)->Prop)->Prop) (λK=>K [(k,b)]) (λx r ih K=>match x with
  |(j,c)=>match ϋ j k with
   |true=>K ((k,b)::r)
   |false=>ih λr'=>K ((j,c)::r')) hp
def OD (ks hp:List (Nat×aC)):(List (Nat×aC)->Prop)->Prop:=
 aiz (motive:=λ_=>(List (Nat×aC)->Prop)->Prop) (λK=>K hp) (λx _ ih K=>match x with
  |(k,b)=>ih λcl=>KH cl k b K) ks
theorem xc {F:SV->(SV->Prop)->Prop} (hF:∀c K,F c K=K c):∀(l:List SV) (K:List SV->Prop),zR F l K=K l
 |[],K=>rfl
 |c::l,K=>by
  show F c (λc'=>zR F l λl'=>K (c'::l'))=_;rw[hF,xc hF l]
theorem pt {F:SV->(SV->Prop)->Prop} (hF:∀c K,F c K=K c) (c:SV) (K:SV->Prop):rS F c K=K c:=by
 cases c<;>simp only[rS,xc hF]
theorem CE (c:SV) (K:SV->Prop):IV c K=K c:=pt (pt (pt (pt λ_ _=>rfl))) c K
theorem Gf (b:aC) (K:aC->Prop):vp b K=K b:=by
 obtain⟨ty,wr,d⟩:=b;cases d<;>simp only[vp,xc CE]
theorem CF:∀(l:List (Nat×aC)) (K:List (Nat×aC)->Prop),D6 l K=K l
 |[],K=>rfl
 |(k,b)::l,K=>by
  show vp b (λb'=>D6 l λr'=>K ((k,b')::r'))=_;rw[Gf,CF l]
theorem CG:∀(l:List Nat) (K:List Nat->Prop),zS l K=K l
 |[],K=>rfl
 |x::l,K=>by
  show zS l (λr'=>K (x::r'))=_;rw[CG l]
theorem CH:∀(l:List (Nat×SV)) (K:List (Nat×SV)->Prop),D7 l K=K l
 |[],K=>rfl
 |(t,c)::l,K=>by
  show D7 l (λr'=>K ((t,c)::r'))=_;rw[CH l]
theorem MU (d:Option Nat) (K:Option Nat->Prop):OC d K=K d:=by cases d<;>rfl
theorem OE (dst:Option Nat) (c:SV) (fr:List (Nat×SV)) (K:List (Nat×SV)->Prop):X5 dst c fr K=K (Ge dst c fr):=by cases dst<;>rfl
theorem Gg:∀(hp:List (Nat×aC)) (k:Nat) (b:aC) (K:List (Nat×aC)->Prop),KH hp k b K=K (fi hp k b)
 |[],k,b,K=>rfl
 |(j,c)::r,k,b,K=>by
  show(match ϋ j k with
   |true=>K ((k,b)::r)
   |false=>KH r k b λr'=>K ((j,c)::r'))=_
  simp only[fi,Gg r];cases ϋ j k<;>rfl
theorem Gh:∀(ks hp:List (Nat×aC)) (K:List (Nat×aC)->Prop),OD ks hp K=K (zO ks hp)
 |[],hp,K=>rfl
 |(k,b)::r,hp,K=>by
  show OD r hp (λcl=>KH cl k b K)=_;rw[Gh r,Gg,zO]
def CI (dst:Option Nat) (rt:List Nat) (fr:List (Nat×SV)) (hp:List (Nat×aC)) (fs:List ia) (c:SV) (fk new upd:List (Nat×aC)) (K:List (Nat×SV)->List (Nat×aC)->List ia->Prop):Prop:=
 OC dst λdst=>IV c λc=>D6 new λnew=>D6 upd λupd=>X5 dst c fr λfr'=>OD (upd++new) hp λcl=>
  zS rt λrt=>zS (az fk) λrk=>zS (az (upd++new)) λwk=>K fr' cl (⟨rt,rk,dst,wk⟩::fs)
theorem OF (dst:Option Nat) (rt:List Nat) (fr:List (Nat×SV)) (hp:List (Nat×aC)) (fs:List ia) (c:SV) (fk new upd:List (Nat×aC)) (K:List (Nat×SV)->List (Nat×aC)->List ia->Prop):
  CI dst rt fr hp fs c fk new upd K=K (Ge dst c fr) (zO (upd++new) hp) (⟨rt,az fk,dst,az (upd++new)⟩::fs):=by
 simp only[CI,MU,CE,CF,OE,Gh,CG]
def D8 (E:Env) (ops:List Oper) (o:Oper) (_:List Oper) (ih:List (Nat×SV)->List (Nat×aC)->List ia->(List (Nat×SV)->List (Nat×aC)->List ia->Prop)->Prop)
  (fr:List (Nat×SV)) (hp:List (Nat×aC)) (fs:List ia) (K:List (Nat×SV)->List (Nat×aC)->List ia->Prop):Prop:=
  match CD E.n o.dst with
  |false=>False
  |true=>
   match o.guard with
   |none=>D7 (pick fr (looks o)) λp=>exec E.P E.T E.Z p hp o λc fk new upd=>CI o.dst (looks o) fr hp fs c fk new upd λfr' cl fs'=>ih fr' cl fs' K
   |some (j,want)=>
    match (ops[j]?).bind (·.dst)with
    |none=>False
    |some d=>match lk fr d with
     |some (.val (.bool b))=>
      (b=want->D7 (pick fr (looks o)) λp=>exec E.P E.T E.Z p hp o λc fk new upd=>CI o.dst (d::looks o) fr hp fs c fk new upd λfr' cl fs'=>ih fr' cl fs' K)/\
      (b= !want->CI o.dst [d] fr hp fs (.bQ []) [] [] [] λfr' cl fs'=>ih fr' cl fs' K)
     |some (.bQ [])=>CI o.dst [d] fr hp fs (.bQ []) [] [] [] λfr' cl fs'=>ih fr' cl fs' K
     |_=>False
def Z4 (fr:List (Nat×SV)) (hp:List (Nat×aC)) (fs:List ia) (K:List (Nat×SV)->List (Nat×aC)->List ia->Prop):Prop:=K fr hp fs
def lex (E:Env) (ops:List Oper) (l:List Oper):List (Nat×SV)->List (Nat×aC)->List ia->(List (Nat×SV)->List (Nat×aC)->List ia->Prop)->Prop:=
 aiz (motive:=λ_=>List (Nat×SV)->List (Nat×aC)->List ia->(List (Nat×SV)->List (Nat×aC)->List ia->Prop)->Prop) Z4 (D8 E ops) l
theorem lex_nil (E:Env) (ops:List Oper) (fr:List (Nat×SV)) (hp:List (Nat×aC)) (fs:List ia) (K:List (Nat×SV)->List (Nat×aC)->List ia->Prop):lex E ops [] fr hp fs K=K fr hp fs:=rfl
theorem OG (E:Env) (ops:List Oper) (o:Oper) (r:List Oper) (fr:List (Nat×SV)) (hp:List (Nat×aC)) (fs:List ia) (K:List (Nat×SV)->List (Nat×aC)->List ia->Prop):
  lex E ops (o::r) fr hp fs K=D8 E ops o r (lex E ops r) fr hp fs K:=rfl
theorem D9 {E:Env} {s:Loc->LV} {a:Act} {w:World} {dst:Option Nat} (h:RR E s a w) (hd:CD E.n dst=true):RR E (lay dst (.bQ []) [] s) (a.put dst undef) w:=by
 obtain⟨ρ,hle,hfx,h⟩:=h;have hk:∀k,lay dst (.bQ []) [] s (.k k)=s (.k k):=λk=>by simp[lay,find]
 refine⟨ρ,hle,λk hf=>by rw[hk];exact hfx k hf, ?_⟩;refine {defers:= ?_,size:= ?_,fr:= ?_,bE:=h.bE,hp:= ?_}
 ·have:(a.put dst undef).defers=a.defers:=by cases dst<;>simp[ajt]
  rw[this];exact h.defers
 ·cases dst<;>simp[ajt,h.size]
 ·intro t sv ht;simp only[lay]at ht;by_cases hdt:dst=some t
  ·rw[if_pos hdt]at ht;cases ht;have:(a.put dst undef).tmps.getD t undef=undef:=by
    subst hdt;simp only[CD]at hd;have aE:t<E.n:=by simpa [aj8]using hd
    simp[ajt,h.size,aE]
   rw[this];simp only[Has];exact⟨[],by simp[aw],by simp[undef]⟩
  ·rw[if_neg hdt]at ht;have:(a.put dst undef).tmps.getD t undef=a.tmps.getD t undef:=by
    cases IC:dst with
    |none=>rfl
    |some d=>
     have a8:d≠t:=λhe=>hdt (by rw[IC,he])
     simp[ajt,Array.getElem?_setIfInBounds_ne a8]
   rw[this];exact h.fr t sv ht
 ·exact {
   blk:=λk b hb=>h.hp.blk k b (by rwa [hk]at hb)
   sep:=λk k' x x' b b' h1 h2 h3 h4 hb ie=>h.hp.sep k k' x x' b b' h1 h2 h3 h4 (by rwa [hk]at hb) (by rwa [hk]at ie)
   own:=λk b x hb=>h.hp.own k b x (by rwa [hk]at hb)
   wW:=λk x hx=>by rw[hk];exact h.hp.wW k x hx
   aW:=h.hp.aW
   fB:=λk b x hb=>h.hp.fB k b x (by rwa [hk]at hb)}
theorem KI {E:Env} {ops:Array Oper} {o:Oper} {fr:List (Nat×SV)} {hp:List (Nat×aC)} {c:SV} {fk new upd:List (Nat×aC)} {rt:List Nat}
  (hd:CD E.n o.dst=true) (hop:bR E.P o (pick fr (looks o)) fk c new upd) (oq:∀j b,(j,b)∈fk->find hp j=some b) (gi:∀j b,(j,b)∈new->find hp j=none)
  (hupd:∀j b,(j,b)∈upd->∃b0,(j,b0)∈fk/\b0.wr=true/\b0.data.live=true/\b.wr=true) (hrt:∀t,t∈looks o->t∈rt)
  (hw:∀s,(∀t,t∈rt->s (.t t)=fn fr hp (.t t))->∀a w,RR E s a w->af2 o (yielded ops a.tmps)=true):
  zQ E ops o fr hp ⟨rt,az fk,o.dst,az (upd++new)⟩ c (upd++new):=by
 refine⟨rfl,λk=>aR,λs ht hk a w hR=> ?_⟩;rw[if_pos (hw s ht a w hR)];obtain⟨ρ,hle,hfx,hR⟩:=hR;have kQ:∀k,(∃b,(k,b)∈fk)\/(∃b,(k,b)∈upd++new)->(s (.k k)).blk=find hp k:=by
  intro k h;rw[hk k (h.imp aR.2 aR.2)];rfl
 have aE:∀d,o.dst=some d->d<E.n:=λd h=>by rw[h]at hd;simpa [CD,aj8]using hd
 refine rP ?_ (On hop hR (λt sv h=>by rw[ht t (hrt t (oz h).2)];exact(oz h).1) (λk b h=>by rw[kQ k (.inl ⟨b,h⟩)];exact oq k b h)
  (λk b h=>by rw[kQ k (.inr ⟨b,ϖ.2 (.inr h)⟩)];exact gi k b h) hupd aE)
 rintro a' w' ⟨ρ',h1,h4,h3,h2⟩;refine⟨ρ',⟨hle.le.trans h1,λb o hb=>(h3 b o hb).elim (hle.aW b o) .inr,λk hf=>by rw[h4 k (hfx k hf)];exact hle.fix k hf⟩,λk hf=> ?_,h2⟩;simp only[lay];cases find (upd++new) k with
 |some b=>simp[LV.blk]
 |none=>exact hfx k hf
theorem zT {E:Env} {ops:Array Oper} {o:Oper} {fr:List (Nat×SV)} {hp:List (Nat×aC)} {rt:List Nat} (hd:CD E.n o.dst=true)
  (hw:∀s,(∀t,t∈rt->s (.t t)=fn fr hp (.t t))->∀a w,RR E s a w->af2 o (yielded ops a.tmps)=false):
  zQ E ops o fr hp ⟨rt,[],o.dst,[]⟩ (.bQ []) []:=by
 refine⟨rfl,λk=>by simp,λs ht _ a w hR=> ?_⟩;rw[hw s ht a w hR];simp only[Κ,if_false];exact D9 hR hd
structure Rec where
 f:ia
 o:Oper
 c:SV
 ks:List (Nat×aC)
 fr:List (Nat×SV)
 hp:List (Nat×aC)
def IW (E:Env) (ops:Array Oper):List Oper->List (Nat×SV)->List (Nat×aC)->List Rec->List (Nat×SV)->List (Nat×aC)->Prop
 |[],fr,hp,recs,fr',cl=>recs=[]/\fr'=fr/\cl=hp
 |o::l,fr,hp,recs,fr',cl=>∃rc rest,recs=rc::rest/\rc.o=o/\rc.fr=fr/\rc.hp=hp/\zQ E ops o fr hp rc.f rc.c rc.ks/\IW E ops l (Ge o.dst rc.c fr) (zO rc.ks hp) rest fr' cl
theorem zU {ops:Array Oper} {a:Act} {j d:Nat} (h:(ops[j]?).bind (·.dst)=some d) {b:Bool} (hv:a.tmps.getD d undef= .bool b):yielded ops a.tmps j=some b:=by
 unfold yielded;rw[h];have:a.tmps[d]? =some (.bool b):=by
  rw[Ϻ]at hv;cases hx:a.tmps[d]? with
  |none=>rw[hx]at hv;simp[undef]at hv
  |some v=>rw[hx]at hv;simp at hv;rw[hv]
 simp[this]
theorem Cb {ops:Array Oper} {a:Act} {j d:Nat} (h:(ops[j]?).bind (·.dst)=some d) (hv:a.tmps.getD d undef=undef):yielded ops a.tmps j=none:=by
 unfold yielded;rw[h];rw[Ϻ]at hv;cases hx:a.tmps[d]? with
 |none=>simp[hx]
 |some v=>rw[hx]at hv;simp[undef]at hv;simp[hx,hv]
theorem vq {E:Env} (hT:dz E.P E.T) {ops:List Oper} {K:List (Nat×SV)->List (Nat×aC)->List ia->Prop}:∀(l:List Oper) (fr:List (Nat×SV)) (hp:List (Nat×aC)) (fs:List ia),lex E ops l fr hp fs K->
  ∃recs fr' cl,IW E ops.toArray l fr hp recs fr' cl/\K fr' cl ((recs.map (·.f)).reverse++fs)
 |[],fr,hp,fs,h=>⟨[],fr,hp,⟨rfl,rfl,rfl⟩,by simpa [lex_nil]using h⟩
 |o::l,fr,hp,fs,h=>by
  rw[OG]at h;unfold D8 at h;simp only[OF,CH]at h;split at h
  ·exact h.elim
  ·rename_i hd
   have U2:∀(f:ia) (c:SV) (ks:List (Nat×aC)),zQ E ops.toArray o fr hp f c ks->lex E ops l (Ge o.dst c fr) (zO ks hp) (f::fs) K->
     ∃recs fr' cl,IW E ops.toArray (o::l) fr hp recs fr' cl/\K fr' cl ((recs.map (·.f)).reverse++fs):=by
    intro f c ks hs hl;obtain⟨recs,fr',cl,h1,h2⟩:=vq hT l _ _ _ hl;exact⟨⟨f,o,c,ks,fr,hp⟩::recs,fr',cl,⟨_,_,rfl,rfl,rfl,rfl,hs,h1⟩,by simpa using h2⟩
   split at h
   ·rename_i hg;obtain⟨c,fk,new,upd,h1,h2,h3,h4,h5⟩:=CA hT h;exact U2 _ _ _ (KI hd h1 h2 h3 h4 (λt ht=>ht) (λs _ a w _=>by simp[af2,hg])) h5
   ·rename_i j want hg;split at h
    ·exact h.elim
    ·rename_i d hj;have qm:((ops.toArray)[j]?).bind (·.dst)=some d:=by simpa using hj
     have b7:∀(sv:SV) (rt:List Nat),lk fr d=some sv->d∈rt->∀s,(∀t,t∈rt->s (.t t)=fn fr hp (.t t))->∀a w,RR E s a w->∃ρ,Has ρ sv (a.tmps.getD d undef):=by
      intro sv rt hlk IC s hs a w hR;obtain⟨ρ,_,_,hR⟩:=hR;exact⟨ρ,hR.fr d sv (by rw[hs d IC];simp[fn,hlk,LV.sv])⟩
     split at h
     ·rename_i b hlk;rcases(show b=want\/b= !want by cases b<;>cases want<;>simp)with hb|hb
      ·obtain⟨c,fk,new,upd,h1,h2,h3,h4,h5⟩:=CA hT (h.1 hb);refine U2 _ _ _ (KI (rt:=d::looks o) hd h1 h2 h3 h4 (λt ht=>Δ _ ht) (λs hs a w hR=> ?_)) h5;obtain⟨ρ,hv⟩:=b7 _ _ hlk (η ..) s hs a w hR;have:=zU qm (aK hv);simp[af2,hg,this,hb]
      ·refine U2 _ _ _ (zT (rt:=[d]) hd (λs hs a w hR=> ?_)) (h.2 hb);obtain⟨ρ,hv⟩:=b7 _ _ hlk (η ..) s hs a w hR;have:=zU qm (aK hv);simp[af2,hg,this,hb]
     ·rename_i hlk;refine U2 _ _ _ (zT (rt:=[d]) hd (λs hs a w hR=> ?_)) h;obtain⟨ρ,hv⟩:=b7 _ _ hlk (η ..) s hs a w hR;simp only[Has,aw]at hv;obtain⟨z,rfl,hv⟩:=hv;have:=Cb qm (by rw[hv];rfl);simp[af2,hg,this]
     ·exact h.elim
theorem xd {E:Env} {ops:Array Oper} {Q:Exit->Act->World->Prop}:∀(l:List Oper) (fr:List (Nat×SV)) (hp:List (Nat×aC)) (recs:List Rec) (fr':List (Nat×SV)) (cl:List (Nat×aC)),IW E ops l fr hp recs fr' cl->
  (∀a w,RR E (fn fr' cl) a w->Q .normal a w)->∀a w,RR E (fn fr hp) a w->wpListIn (Ku E.ro) 0 E.P ops Q l a w
 |[],fr,hp,recs,fr',cl,h,hQ,a,w,hR=>by
  obtain⟨_,rfl,rfl⟩:=h;exact hQ a w hR
 |o::l,fr,hp,recs,fr',cl,h,hQ,a,w,hR=>by
  obtain⟨rc,rest,rfl,_,_,_,⟨_,_,hs⟩,h2⟩:=h;have ih:=xd l _ _ _ _ _ h2 hQ;have:=hs (fn fr hp) (λ_ _=>rfl) (λ_ _=>rfl) a w hR;unfold wpListIn;split
  ·rename_i hw;rw[if_pos hw]at this;refine w7 (rP ?_ this);intro a' w' lN;rw[zP]at lN;exact ih a' w' lN
  ·rename_i hw;rw[if_neg hw,zP]at this;exact⟨λ_ _=>trivial,ih _ _ this⟩
def uB (acc:List Nat):List Edge->Nat
 |[]=>0
 |e::r=>match agJ .any e with
  |true=>2^e.on|||(acc.getD e.on 0|||uB acc r)
  |false=>uB acc r
def CJ:List Oper->List Nat->List Nat
 |[],acc=>acc
 |o::r,acc=>CJ r (acc++[uB acc o.after.toList])
def vt (i:Nat):List Edge->Bool
 |[]=>true
 |e::r=>match agJ .any e with
  |true=>Nat.blt e.on i&&vt i r
  |false=>vt i r
def vu:Nat->List Oper->Bool
 |_,[]=>true
 |i,o::r=>vt i o.after.toList&&vu (i+1) r
def yw (x:Nat):List Nat->Bool
 |[]=>false
 |y::r=>ϋ x y||yw x r
def meets:List Nat->List Nat->Bool
 |[],_=>false
 |x::r,l=>yw x l||meets r l
def X6:Option Nat->List Nat
 |none=>[]
 |some d=>[d]
def Gi (f g:ia):Bool:=
 meets (X6 f.wt) g.rt||(meets (X6 f.wt) (X6 g.wt)||(meets (X6 g.wt) f.rt||(meets f.wk g.rk||(meets f.wk g.wk||meets g.wk f.rk))))
def Gj (f:ia) (m:Nat):Nat->List ia->Bool
 |_,[]=>true
 |i,g::r=>(!Gi g f||agD m i)&&Gj f m (i+1) r
def Ea (ms:List Nat) (done:List ia):Nat->List ia->Bool
 |_,[]=>true
 |j,f::r=>Gj f (ms.getD j 0) 0 done&&Ea ms (done++[f]) (j+1) r
def indep (ops:List Oper) (fs:List ia):Bool:=vu 0 ops&&Ea (CJ ops []) [] 0 fs
theorem kW {x:Nat}:∀{l:List Nat},yw x l=true↔x∈l
 |[]=>by simp[yw]
 |y::r=>by
  simp only[yw,af8,Λ,kW,Nat.beq_eq]
theorem CK:∀{l r:List Nat},meets l r=true↔∃x,x∈l/\x∈r
 |[],r=>by simp[meets]
 |y::l,r=>by
  simp only[meets,af8,kW,CK,Λ];constructor
  ·rintro(h|⟨x,h1,h2⟩)
   ·exact⟨y,.inl rfl,h⟩
   ·exact⟨x,.inr h1,h2⟩
  ·rintro⟨x,rfl|h1,h2⟩
   ·exact .inl h2
   ·exact .inr ⟨x,h1,h2⟩
theorem vv {ops:Array Oper} {o:Oper} {j:Nat} (ho:ops[j]? =some o) {acc:List Nat} (hacc:∀k m i,acc[k]? =some m->agD m i=true->ql ops k i):
  ∀(es:List Edge),(∀e∈es,e∈o.after)->∀i,agD (uB acc es) i=true->ql ops j i
 |[],_,i,h=>by simp[uB]at h
 |e::r,hes,i,h=>by
  have ih:=vv ho hacc r (λx hx=>hes x (Δ _ hx)) i;unfold uB at h;split at h
  ·rename_i hb;rw[alP,alP,Nat.testBit_two_pow]at h;have he:=hes e (η ..);simp only[af8,decide_eq_true_eq]at h;rcases h with h|h|h
   ·rw[<-h];exact .one ho he hb
   ·cases hg:acc[e.on]? with
    |none=>simp[hg]at h
    |some m=>
     have:acc.getD e.on 0=m:=by simp[hg]
     rw[this]at h;exact .trans (.one ho he hb) (hacc _ _ _ hg h)
   ·exact ih h
  ·exact ih h
theorem xW {ops:Array Oper}:∀(l:List Oper) (acc:List Nat),(∀j,l[j]? =ops[acc.length+j]?)->(∀k m i,acc[k]? =some m->agD m i=true->ql ops k i)->
  ∀k m i,(CJ l acc)[k]? =some m->agD m i=true->ql ops k i
 |[],acc,_,h=>by simpa [CJ]using h
 |o::r,acc,hl,h=>by
  have h0:ops[acc.length]? =some o:=by have:=hl 0;simpa using this.symm
  refine xW r (acc++[uB acc o.after.toList]) (λj=> ?_) (λk m i hk hb=> ?_)
  ·have:=hl (j+1);simpa [af1,Nat.add_comm 1 j]using this
  ·rcases Nat.lt_trichotomy k acc.length with aE|rfl|XZ
   ·rw[ϳ aE]at hk;exact h k m i hk hb
   ·simp at hk;subst hk;exact vv h0 h _ (λe he=>by simpa using he) i hb
   ·rw[Ϙ (by simp;omega)]at hk;cases hk
theorem pw {i:Nat}:∀{es:List Edge},vt i es=true->∀e∈es,agJ .any e=true->e.on<i
 |e::r,h,x,hx,hb=>by
  unfold vt at h;rcases Λ.1 hx with rfl|hx
  ·rw[hb]at h;simp only[Μ,aj8]at h;exact h.1
  ·split at h
   ·simp only[Μ]at h;exact pw h.2 x hx hb
   ·exact pw h x hx hb
theorem Cd (l:List Oper):∀i:Nat,vu i l=true->∀j o,l[j]? =some o->∀e∈o.after,agJ .any e=true->e.on<i+j:=by
 induction l with
 |nil=>intro i _ j o ho;simp at ho
 |cons o r ih=>
  intro i h j o' ho e he hb;simp only[vu,Μ]at h;cases j with
  |zero=>
   simp only[ϑ,κ]at ho;rw[<-ho]at he;exact pw h.1 e (by simpa using he) hb
  |succ j=>
   have:=ih (i+1) h.2 j o' (by simpa using ho) e he hb;omega
theorem zW {f:ia} {m:Nat}:∀{l:List ia} {i:Nat},Gj f m i l=true->∀j g,l[j]? =some g->Gi g f=true->agD m (i+j)=true
 |g::r,i,h,0,g',hg,hc=>by
  simp only[Gj,Μ]at h;simp at hg;subst hg;simpa [hc]using h.1
 |g::r,i,h,j+1,g',hg,hc=>by
  simp only[Gj,Μ]at h;have:=zW h.2 j g' (by simpa using hg) hc;rw[show i+(j+1)=i+1+j from by omega];exact this
theorem xX {ms:List Nat}:∀{l done:List ia} {j0:Nat},done.length=j0->Ea ms done j0 l=true->∀i j f g,i<j->j0<=j->(done++l)[i]? =some f->(done++l)[j]? =some g->Gi f g=true->agD (ms.getD j 0) i=true
 |[],done,j0,hd,_,i,j,f,g,_,hj,_,hg,_=>by
  rw[ϣ,Ϙ aa]at hg;cases hg
 |x::l,done,j0,hd,h,i,j,f,g,KG,hj,hf,hg,hc=>by
  simp only[Ea,Μ]at h;rcases Nat.eq_or_lt_of_le hj with rfl|aE
  ·rw[afW aa]at hg;simp[hd]at hg;subst hg;rw[ϳ aa]at hf;have:=zW h.1 i f hf hc;simpa using this
  ·exact xX (l:=l) (done:=done++[x]) (j0:=j0+1) (by simp[hd]) h.2 i j f g KG aa (by simpa using hf) (by simpa using hg) hc
def lZ (rc:Rec):kL Loc LV where
 rd:=λ
  |.t t=>decide (t∈rc.f.rt)
  |.k k=>decide (k∈rc.f.rk)
 wr:=λ
  |.t t=>decide (rc.o.dst=some t)
  |.k k=>(find rc.ks k).isSome
 val:=λ
  |.t _=>.t (some rc.c)
  |.k k=>.k (find rc.ks k)
theorem zX (rc:Rec) (s:Loc->LV):(lZ rc).ap s=lay rc.o.dst rc.c rc.ks s:=by
 funext l;cases l with
 |t n=>simp only[kL.ap,lZ,lay];by_cases h:rc.o.dst=some n<;>simp[h]
 |k n=>
  have key:∀(x:Option aC) (y:LV),(if x.isSome=true then LV.k x else y)=match x with
    |some b=>LV.k (some b)
    |none=>y:=λx y=>by cases x<;>rfl
  exact key (find rc.ks n) (s (.k n))
def kX (recs:List Rec) (j:Nat):kL Loc LV:=
 match recs[j]? with
 |some r=>lZ r
 |none=>⟨λ_=>false,λ_=>false,λ_=>.t none⟩
theorem l0 {recs:List Rec} {j:Nat} {r:Rec} (h:recs[j]? =some r):kX recs j=lZ r:=by simp[kX,h]
theorem Eb {L V:Type} (steps:Nat->kL L V) (s0:L->V) (n:Nat):sx steps s0 (λ_=>true) (n+1)=(steps n).ap (sx steps s0 (λ_=>true) n):=by simp[sx]
theorem Gk {E:Env} {ops:Array Oper}:∀{l:List Oper} {fr:List (Nat×SV)} {hp:List (Nat×aC)} {recs:List Rec} {fr':List (Nat×SV)} {cl:List (Nat×aC)},IW E ops l fr hp recs fr' cl->
  recs.length=l.length/\(∀i rc,recs[i]? =some rc->l[i]? =some rc.o/\zQ E ops rc.o rc.fr rc.hp rc.f rc.c rc.ks/\fn rc.fr rc.hp=sx (kX recs) (fn fr hp) (λ_=>true) i)/\
  fn fr' cl=sx (kX recs) (fn fr hp) (λ_=>true) l.length
 |[],fr,hp,recs,fr',cl,h=>by
  obtain⟨rfl,rfl,rfl⟩:=h;exact⟨rfl,λi rc h=>by simp at h,rfl⟩
 |o::l,fr,hp,recs,fr',cl,h=>by
  obtain⟨rc,rest,rfl,rfl,rfl,rfl,hs,h2⟩:=h;obtain⟨g1,g2,g3⟩:=Gk h2
  have shift:∀n,sx (kX (rc::rest)) (fn rc.fr rc.hp) (λ_=>true) (n+1)=
    sx (kX rest) (fn (Ge rc.o.dst rc.c rc.fr) (zO rc.ks rc.hp)) (λ_=>true) n:=by
   intro n;induction n with
   |zero=>rw[Eb,l0 (r:=rc) (by simp),zX];exact zP ..
   |succ n ih=>rw[Eb,ih,Eb];simp[kX]
  refine⟨by simp[g1],λi rc' hi=> ?_, ?_⟩
  ·cases i with
   |zero=>simp at hi;subst hi;exact⟨by simp,hs,rfl⟩
   |succ i=>
    obtain⟨e1,e2,e3⟩:=g2 i rc' (by simpa using hi);exact⟨by simpa using e1,e2,by rw[shift];exact e3⟩
  ·rw[ϊ,shift];exact g3
theorem OH {E:Env} (hm:E.P.follows .mixedOrders=true) {l:List Oper} {Q:Exit->Act->World->Prop} {fr:List (Nat×SV)} {hp:List (Nat×aC)} {recs:List Rec} {fr':List (Nat×SV)} {cl:List (Nat×aC)}
  (h:IW E l.toArray l fr hp recs fr' cl) (hi:indep l (recs.map (·.f))=true) (hQ:∀a w,RR E (fn fr' cl) a w->Q .normal a w) (id:Nat) (a:Act) (w:World) (hR:RR E (fn fr hp) a w):
  (Code.region id l.toArray true).wpIn (Ku E.ro) 0 E.P Q a w:=by
 obtain⟨g1,g2,g3⟩:=Gk h;simp only[indep,Μ]at hi;have oc:∀i,i<l.length->∃rc,recs[i]? =some rc:=λi hi=>⟨recs[i],by simp[g1,hi]⟩
 refine MH (Rel:=RR E) (steps:=kX recs) (s0:=fn fr hp) hm ?_ ?_ ?_ ?_ a w ?_
 ·intro i hi s' hs' a w hR;obtain⟨rc,hrc⟩:=oc i (by simpa using hi);obtain⟨e1,⟨e2,e3,e4⟩,e5⟩:=g2 i rc hrc;rw[l0 hrc]at hs' ⊢;rw[<-e5]at hs'
  have:=e4 s' (λt ht=>hs' _ (.inl (by simpa [lZ]using ht))) (λk hk=>hs' _ (by
   rcases hk with hk|hk
   ·exact .inl (by simpa [lZ]using hk)
   ·right;obtain⟨b,hb⟩:=(e3 k).1 hk;simp only[lZ];cases hf:find rc.ks k with
    |some b'=>rfl
    |none=>exact absurd hb (rQ hf b))) a w hR
  unfold wpOpIn;have ho:l.toArray[i]? =some rc.o:=by simpa using e1
  rw[ho];simp only[zX];split
  ·rename_i hw;rw[if_pos hw]at this;exact w7 this
  ·rename_i hw;rw[if_neg hw]at this;exact⟨λ_ _=>trivial,this⟩
 ·intro i j KG hj hc;have qm:j<l.length:=by simpa using hj
  obtain⟨ri,hri⟩:=oc i aa;obtain⟨rj,hrj⟩:=oc j qm;obtain⟨_,⟨i2,i3,_⟩,_⟩:=g2 i ri hri;obtain⟨_,⟨j2,j3,_⟩,_⟩:=g2 j rj hrj;rw[l0 hri,l0 hrj]at hc;have wki:∀k,(find ri.ks k).isSome=true->k∈ri.f.wk:=λk hk=>by
   cases hf:find ri.ks k with
   |none=>rw[hf]at hk;cases hk
   |some b=>exact(i3 k).2 ⟨b,kO hf⟩
  have wkj:∀k,(find rj.ks k).isSome=true->k∈rj.f.wk:=λk hk=>by
   cases hf:find rj.ks k with
   |none=>rw[hf]at hk;cases hk
   |some b=>exact(j3 k).2 ⟨b,kO hf⟩
  have Ct:Gi ri.f rj.f=true:=by
   obtain⟨loc,hc⟩:=hc;simp only[Gi,af8,CK];cases loc with
   |t n=>
    simp only[lZ,decide_eq_true_eq]at hc;rcases hc with⟨h1,h2|h2⟩|⟨h1,h2⟩
    ·exact .inl ⟨n,by rw[i2,h1];simp[X6],h2⟩
    ·exact .inr (.inl ⟨n,by rw[i2,h1];simp[X6],by rw[j2,h2];simp[X6]⟩)
    ·exact .inr (.inr (.inl ⟨n,by rw[j2,h2];simp[X6],h1⟩))
   |k n=>
    simp only[lZ,decide_eq_true_eq]at hc;rcases hc with⟨h1,h2|h2⟩|⟨h1,h2⟩
    ·exact .inr (.inr (.inr (.inl ⟨n,wki n h1,h2⟩)))
    ·exact .inr (.inr (.inr (.inr (.inl ⟨n,wki n h1,wkj n h2⟩))))
    ·exact .inr (.inr (.inr (.inr (.inr ⟨n,wkj n h2,h1⟩))))
  have Z5:=xX (l:=recs.map (·.f)) (done:=[]) (j0:=0) rfl hi.2 i j ri.f rj.f KG (Γ _) (by simp[hri]) (by simp[hrj]) Ct;cases hmj:(CJ l [])[j]? with
  |none=>simp[hmj]at Z5
  |some m=>
   have:(CJ l []).getD j 0=m:=by simp[hmj]
   rw[this]at Z5;exact xW l [] (by simp) (by simp) j m i hmj Z5
 ·intro i o ho e he hb;have:=Cd l 0 hi.1 i o (by simpa using ho) e he hb;omega
 ·intro a w hR;rw[af5,<-g3]at hR;exact hQ a w hR
 ·obtain⟨ρ,h1,h3,h2⟩:=hR;exact⟨ρ,h1,h3,{h2 with bE:=⟨h2.bE.os,h2.bE.tape,h2.bE.output,h2.bE.size,h2.bE.block⟩,hp:=⟨h2.hp.blk,h2.hp.sep,h2.hp.own,h2.hp.wW,h2.hp.aW,h2.hp.fB⟩}⟩
end Go.Sx
namespace Go.Sx
abbrev bF:=Exit->List (Nat×SV)->List (Nat×aC)->Prop
def xY (E:Env) (K:bF):Exit->Act->World->Prop:=λe a w=>∃fr hp,K e fr hp/\RR E (fn fr hp) a w
def SW (E:Env) (c:Code) (K:bF) (fr:List (Nat×SV)) (hp:List (Nat×aC)):Prop:=
 ∀a w,RR E (fn fr hp) a w->c.wpIn (Ku E.ro) 0 E.P (xY E K) a w
theorem SW.mono {E:Env} {c:Code} {K K':bF} {fr:List (Nat×SV)} {hp:List (Nat×aC)} (h:SW E c K fr hp) (hk:∀e fr hp,K e fr hp->K' e fr hp):SW E c K' fr hp:=
 λa w hR=>age (λ_ _ _ ⟨fr,hp,h1,h2⟩=>⟨fr,hp,hk _ _ _ h1,h2⟩) (h a w hR)
structure dY (E:Env) (c:Code) (K:bF) (fr:List (Nat×SV)) (hp:List (Nat×aC)):Prop where
 run:SW E c K fr hp
def qu (E:Env):Code->bF->List (Nat×SV)->List (Nat×aC)->Prop
 |.skip,K,fr,hp=>K .normal fr hp
 |.region id ops draw,K,fr,hp=>match inN (100000+id) E.Z with
  |true=>dY E (.region id ops draw) K fr hp
  |false=>lex E ops.toList ops.toList fr hp [] λfr' cl fs=>match draw with
   |true=>indep ops.toList fs.reverse=true/\K .normal fr' cl
   |false=>K .normal fr' cl
 |.seq a b,K,fr,hp=>qu E a (λe fr' cl=>match e with
  |.normal=>qu E b K fr' cl
  |e=>K e fr' cl) fr hp
 |.cond c a b,K,fr,hp=>match ev fr c with
  |some (.val (.bool t))=>(t=true->qu E a K fr hp)/\(t=false->qu E b K fr hp)
  |_=>False
 |.block id c,K,fr,hp=>qu E c (λe fr' cl=>match e with
  |.exit i=>match ϋ i id with
   |true=>K .normal fr' cl
   |false=>K (.exit i) fr' cl
  |e=>K e fr' cl) fr hp
 |.exit id,K,fr,hp=>K (.exit id) fr hp
 |.ret,K,fr,hp=>K .ret fr hp
 |.scope c,K,fr,hp=>qu E c (λe fr' cl=>match e with
  |.goto _=>False
  |e=>K e fr' cl) fr hp
 |.label _,K,fr,hp=>K .normal fr hp
 |c,K,fr,hp=>dY E c K fr hp
def Z6 (K:bF) (fr:List (Nat×SV)) (hp:List (Nat×aC)):Prop:=K .normal fr hp
def KJ (E:Env) (ops:Array Oper) (draw:Bool) (K:bF) (fr:List (Nat×SV)) (hp:List (Nat×aC)):Prop:=lex E ops.toList ops.toList fr hp [] λfr' cl fs=>match draw with
  |true=>indep ops.toList fs.reverse=true/\K .normal fr' cl
  |false=>K .normal fr' cl
def OI (E:Env) (id:Nat) (ops:Array Oper) (draw:Bool) (K:bF) (fr:List (Nat×SV)) (hp:List (Nat×aC)):Prop:=match inN (100000+id) E.Z with
 |true=>dY E (.region id ops draw) K fr hp
 |false=>KJ E ops draw K fr hp
def OJ (_ _:Code) (iha ihb:bF->List (Nat×SV)->List (Nat×aC)->Prop) (K:bF) (fr:List (Nat×SV)) (hp:List (Nat×aC)):Prop:=iha (λe fr' cl=>match e with
  |.normal=>ihb K fr' cl
  |e=>K e fr' cl) fr hp
def IX (c:Operand) (_ _:Code) (iha ihb:bF->List (Nat×SV)->List (Nat×aC)->Prop) (K:bF) (fr:List (Nat×SV)) (hp:List (Nat×aC)):Prop:=match ev fr c with
  |some (.val (.bool t))=>(t=true->iha K fr hp)/\(t=false->ihb K fr hp)
  |_=>False
def Ec (id:Nat) (_:Code) (ih:bF->List (Nat×SV)->List (Nat×aC)->Prop) (K:bF) (fr:List (Nat×SV)) (hp:List (Nat×aC)):Prop:=ih (λe fr' cl=>match e with
  |.exit i=>match ϋ i id with
   |true=>K .normal fr' cl
   |false=>K (.exit i) fr' cl
  |e=>K e fr' cl) fr hp
def Z7 (E:Env) (c:Code) (_:bF->List (Nat×SV)->List (Nat×aC)->Prop) (K:bF) (fr:List (Nat×SV)) (hp:List (Nat×aC)):Prop:=dY E (.loop c) K fr hp
def U3 (E:Env) (f:Operand) (ps:Array Tmp) (a b:Code) (_ _:bF->List (Nat×SV)->List (Nat×aC)->Prop) (K:bF) (fr:List (Nat×SV)) (hp:List (Nat×aC)):Prop:=dY E (.rangeFunc f ps a b) K fr hp
def Z8 (id:Nat) (K:bF) (fr:List (Nat×SV)) (hp:List (Nat×aC)):Prop:=K (.exit id) fr hp
def Ed (_:Code) (ih:bF->List (Nat×SV)->List (Nat×aC)->Prop) (K:bF) (fr:List (Nat×SV)) (hp:List (Nat×aC)):Prop:=ih (λe fr' cl=>match e with
  |.goto _=>False
  |e=>K e fr' cl) fr hp
def U4 (_:Nat) (K:bF) (fr:List (Nat×SV)) (hp:List (Nat×aC)):Prop:=K .normal fr hp
def Z9 (E:Env) (l:Nat) (K:bF) (fr:List (Nat×SV)) (hp:List (Nat×aC)):Prop:=dY E (.goto l) K fr hp
def adl (K:bF) (fr:List (Nat×SV)) (hp:List (Nat×aC)):Prop:=K .ret fr hp
def OL (E:Env) (l:String) (K:bF) (fr:List (Nat×SV)) (hp:List (Nat×aC)):Prop:=dY E (.refuse l) K fr hp
def Ee (E:Env) (c:Code):bF->List (Nat×SV)->List (Nat×aC)->Prop:=
 Code.rec (motive:=λ_=>bF->List (Nat×SV)->List (Nat×aC)->Prop) Z6 (OI E) OJ IX Ec (Z7 E) (U3 E) Z8 Ed U4 (Z9 E) adl (OL E) c
theorem aaa (E:Env) (c:Code):Ee E c=qu E c:=by
 induction c with
 |seq a b iha ihb=>
  funext K fr hp;show OJ a b (Ee E a) (Ee E b) K fr hp=_;rw[iha,ihb];simp only[qu,OJ]
 |cond c a b iha ihb=>
  funext K fr hp;show IX c a b (Ee E a) (Ee E b) K fr hp=_;rw[iha,ihb];simp only[qu,IX]
 |block id c ih=>
  funext K fr hp;show Ec id c (Ee E c) K fr hp=_;rw[ih];simp only[qu,Ec]
 |scope c ih=>
  funext K fr hp;show Ed c (Ee E c) K fr hp=_;rw[ih];simp only[qu,Ed]
 |_=>funext K fr hp;simp only[qu];rfl
structure Env.OK (E:Env):Prop where
 FK:dz E.P E.T
 mixed:E.P.follows .mixedOrders=true
 wW:∀k x,E.ρ0.key k=some x->k∈E.fx
theorem vw {E:Env} (hE:E.OK) {id:Nat} {ops:Array Oper} {draw:Bool} {K:bF} {fr:List (Nat×SV)} {hp:List (Nat×aC)} (h:KJ E ops draw K fr hp):SW E (.region id ops draw) K fr hp:=by
 intro a w hR;simp only[KJ]at h;obtain⟨recs,fr',cl,h1,h2⟩:=vq hE.FK _ _ _ _ h;have jB:K .normal fr' cl->∀a w,RR E (fn fr' cl) a w->xY E K .normal a w:=λh3 a w hR=>⟨fr',cl,h3,hR⟩
 cases draw with
 |false=>
  have jB:=jB h2;have:=xd _ _ _ _ _ _ h1 jB a w hR;exact wpIn_region_list (by simpa using this)
 |true=>
  have hi:=h2.1;have jB:=jB h2.2;simp only[ϣ,List.reverse_reverse]at hi;have:=OH hE.mixed h1 hi jB id a w hR;simpa using this
theorem cv {E:Env} (hE:E.OK) {id:Nat} {ops:Array Oper} {draw:Bool} {K:bF} {fr:List (Nat×SV)} {hp:List (Nat×aC)} (h:KJ E ops draw K fr hp):dY E (.region id ops draw) K fr hp:=⟨vw hE h⟩
theorem iU {P:Program} {b:Frame} {a:Act} {k:List Item} {cs:List Frame} {w:World} {c:Code}:step P (lone (b.atR a (.code (.scope c)::k)) cs w)= .next (lone (b.atR a (.code c:: .inScope c::k)) cs w):=
 step_lone_go (by simp[stepG,al7,amh])
theorem Ce {P:Program} {b:Frame} {a:Act} {k:List Item} {cs:List Frame} {w:World} {c:Code}:step P (lone (b.atR a (.inScope c::k)) cs w)= .next (lone (b.atR a k) cs w):=
 step_lone_go (by simp[stepG,al7,amh])
theorem sY {F:Fence} {n:Nat} {P:Program} {Q:Exit->Act->World->Prop} {a:Act} {w:World} {c:Code} (h:c.wpIn F n P (Exit.noGoto Q) a w):(Code.scope c).wpIn F n P Q a w:=by
 intro b k cs hro hb hr;obtain⟨e,a₁,w₁,hq,jL⟩:=h b (.inScope c::k) cs hro hb hr;have h0:(lone (b.atR a (.code (.scope c)::k)) cs w).fenced P F:=fenced_calm hb hr rfl;cases e with
 |normal=>exact⟨.normal,a₁,w₁,hq,.head h0 iU (alh jL (.one (fenced_calm hb hr rfl) Ce))⟩
 |exit id=>
  have hx:exitTo id (.inScope c::k)=exitTo id k:=by simp[exitTo]
  exact⟨.exit id,a₁,w₁,hq,λk' hk=>.head h0 iU (jL.1 k' (by rw[hx];exact hk)),λhr' hk=>let ⟨k₁,h1,h2⟩:=jL.2 hr' (by rw[hx];exact hk);⟨k₁,h1,.head h0 iU h2⟩⟩
 |goto l=>exact hq.elim
 |ret=>exact⟨_,a₁,w₁,hq,.of_steps (.one h0 iU) jL⟩
 |panic ch=>exact⟨_,a₁,w₁,hq,.of_steps (.one h0 iU) jL⟩
 |outgrown=>exact⟨_,a₁,w₁,hq,.of_steps (.one h0 iU) jL⟩
theorem iJ {E:Env} (hE:E.OK):∀(c:Code) (K:bF) (fr:List (Nat×SV)) (hp:List (Nat×aC)),qu E c K fr hp->SW E c K fr hp
 |.skip,K,fr,hp,h=>λa w hR=>wpIn_skip ⟨fr,hp,h,hR⟩
 |.region id ops draw,K,fr,hp,h=>by
  simp only[qu]at h;split at h
  ·exact h.run
  ·exact vw hE h
 |.seq x y,K,fr,hp,h=>by
  intro a w hR;simp only[qu]at h;refine wpIn_seq (age ?_ (iJ hE x _ fr hp h a w hR));rintro e a' w' ⟨fr',cl,h1,h2⟩;cases e<;>first|exact iJ hE y K fr' cl h1 a' w' h2|exact⟨fr',cl,h1,h2⟩
 |.cond c x y,K,fr,hp,h=>by
  intro a w hR;simp only[qu]at h;split at h
  ·rename_i t ht;have hv:a.eval c= .bool t:=by
    obtain⟨ρ,_,_,hR⟩:=hR;have:Has ρ (.val (.bool t)) (a.eval c):=by
     cases c with
     |tmp u=>exact hR.fr u _ (by simp only[fn,LV.sv];exact ht)
     |const v=>exact ai (fr:=[]) (by simpa [ev]using ht) ρ a (λ_ _ h=>by cases h)
     |func f=>simp[ev]at ht
     |global g=>simp[ev]at ht
    exact aK this
   refine wpIn_cond_split hv (λhb=>iJ hE x K fr hp (h.1 hb) a w hR) (λhb=>iJ hE y K fr hp (h.2 hb) a w hR)
  ·exact h.elim
 |.block id c,K,fr,hp,h=>by
  intro a w hR;simp only[qu]at h;refine wpIn_block (age ?_ (iJ hE c _ fr hp h a w hR));rintro e a' w' ⟨fr',cl,h1,h2⟩;cases e with
  |exit i=>
   simp only[Exit.inBlock];simp only at h1;split at h1
   ·rename_i hb;rw[if_pos (χ hb)];exact⟨fr',cl,h1,h2⟩
   ·rename_i hb;rw[if_neg (by rintro rfl;simp[acZ]at hb)];exact⟨fr',cl,h1,h2⟩
  |_=>exact⟨fr',cl,h1,h2⟩
 |.exit id,K,fr,hp,h=>λa w hR=>wpIn_exit ⟨fr,hp,h,hR⟩
 |.ret,K,fr,hp,h=>λa w hR=>wpIn_ret ⟨fr,hp,h,hR⟩
 |.loop c,K,fr,hp,h=>h.run
 |.rangeFunc _ _ _ _,K,fr,hp,h=>h.run
 |.scope c,K,fr,hp,h=>by
  intro a w hR;simp only[qu]at h;refine sY (age ?_ (iJ hE c _ fr hp h a w hR));rintro e a' w' ⟨fr',cl,h1,h2⟩;cases e<;>first|exact h1.elim|exact⟨fr',cl,h1,h2⟩
 |.label _,K,fr,hp,h=>λa w hR=>wpIn_label ⟨fr,hp,h,hR⟩
 |.goto _,K,fr,hp,h=>h.run
 |.refuse _,K,fr,hp,h=>h.run
theorem jM {E:Env} (hE:E.OK) (c:Code) (K:bF) (fr:List (Nat×SV)) (hp:List (Nat×aC)) (h:Ee E c K fr hp):SW E c K fr hp:=
 iJ hE c K fr hp (by rw[aaa]at h;exact h)
theorem Ef {E:Env} {c:Code} {K:bF} {fr:List (Nat×SV)} {hp:List (Nat×aC)} (I:Nat->List (Nat×SV)->List (Nat×aC)->Prop) (m:Nat) (h0:I m fr hp)
  (h:∀m fr hp,I m fr hp->SW E c (λe fr' cl=>match e with
   |.normal=>∃m',m'<m/\I m' fr' cl
   |e=>K e fr' cl) fr hp):SW E (.loop c) K fr hp:=by
 intro a w hR b k cs hro hb hr
 have key:∀m fr hp a w,I m fr hp->RR E (fn fr hp) a w->
   ∃e a' w',xY E K e a' w'/\ArrivesIn (ak3 E.P (Ku E.ro)) E.P (lone (b.atR a (.code c:: .inLoop c::k)) cs w) b k cs e a' w':=by
  intro m;induction m using aiI with
  |_ m ih=>
   intro fr hp a w hI hR;obtain⟨e,a₁,w₁,⟨fr',cl,hq,lN⟩,jL⟩:=h m fr hp hI a w hR b (.inLoop c::k) cs hro hb hr;cases e with
   |normal=>
    obtain⟨m',aE,KK⟩:=hq;obtain⟨e₂,a₂,w₂,hq₂,harr₂⟩:=ih m' aE fr' cl a₁ w₁ KK lN;exact⟨e₂,a₂,w₂,hq₂,.of_steps (alh jL (.one (fenced_calm hb hr rfl) stepR_inLoop)) harr₂⟩
   |exit id=>exact⟨_,a₁,w₁,⟨fr',cl,hq,lN⟩,.pass (x:=.inLoop c) rfl (λ_ _=>.inl (by simp)) jL⟩
   |goto l=>exact⟨_,a₁,w₁,⟨fr',cl,hq,lN⟩,.pass (x:=.inLoop c) rfl (λ_ _=>.inl (by simp)) jL⟩
   |ret=>exact⟨_,a₁,w₁,⟨fr',cl,hq,lN⟩,.pass (x:=.inLoop c) rfl (λ_ _=>.inl (by simp)) jL⟩
   |panic ch=>exact⟨_,a₁,w₁,⟨fr',cl,hq,lN⟩,.pass (x:=.inLoop c) rfl (λ_ _=>.inl (by simp)) jL⟩
   |outgrown=>exact⟨_,a₁,w₁,⟨fr',cl,hq,lN⟩,.pass (x:=.inLoop c) rfl (λ_ _=>.inl (by simp)) jL⟩
 obtain⟨e,a',w',hq,jL⟩:=key m fr hp a w h0 hR;exact⟨e,a',w',hq,.of_steps (.one (fenced_calm hb hr rfl) stepR_loop) jL⟩
def Eg (T:List (TypeId×TI)) (fr:List (Nat×SV)) (hp:List (Nat×aC)):ResultVar->Option (Option Prop×SV)
 |.tmp t=>match lk fr t with
  |some c=>match bs c with
   |true=>some (none,c)
   |false=>none
  |none=>none
 |.cell a ty=>match lk fr a,dT T ty with
  |some (.ptr key s i r),some ti=>match find hp key with
   |some blk=>match elem blk.data s i with
    |some (ob,cs)=>match sub 64 cs r ti.size,ti.size with
     |some l,_+1=>match eR ti l with
      |some c=>match bs c with
       |true=>some (ob,c)
       |false=>none
      |none=>none
     |_,_=>none
    |none=>none
   |none=>none
  |_,_=>none
def both:Option Prop->Option Prop->Option Prop
 |none,q=>q
 |p,none=>p
 |some p,some q=>some (p/\q)
theorem CL {p q:Option Prop} (h:DS (both p q)):DS p/\DS q:=by
 cases p<;>cases q<;>first|exact⟨trivial,h⟩|exact⟨h,trivial⟩|exact h
def mH (T:List (TypeId×TI)) (fr:List (Nat×SV)) (hp:List (Nat×aC)):List ResultVar->Option (Option Prop×List SV)
 |[]=>some (none,[])
 |r::rs=>match Eg T fr hp r,mH T fr hp rs with
  |some (ob,c),some (ob',l)=>some (both ob ob',c::l)
  |_,_=>none
def uc:List SV->SV
 |[c]=>c
 |l=>.bQ l
def N9 (T:List (TypeId×TI)) (rs:List ResultVar) (K:SV->List (Nat×aC)->Prop):bF:=λe fr hp=>match e with
 |.normal=>match mH T fr hp rs with
  |some (ob,l)=>ZL ob (K (uc l) hp)
  |none=>False
 |.ret=>match mH T fr hp rs with
  |some (ob,l)=>ZL ob (K (uc l) hp)
  |none=>False
 |_=>False
def Eh (tmps:Array Value):ResultVar->Sem Value
 |.tmp t=>pure (tmps.getD t undef)
 |.cell p t=>do loadVar t (<-asAddr (tmps.getD p undef))
theorem IY {E:Env} (hE:E.OK) {fr:List (Nat×SV)} {hp:List (Nat×aC)} {r:ResultVar} {ob:Option Prop} {c:SV} (h:Eg E.T fr hp r=some (ob,c)) (jH:DS ob) {ρ:bY} {a:Act} {w:World} (hR:R E.W0 E.w0 E.n ρ (fn fr hp) a w):
  ∃v,(Eh a.tmps r).run E.P w= .ok v w/\Has ρ c v/\bs c=true:=by
 cases r with
 |tmp t=>
  simp only[Eg]at h;split at h
  ·rename_i d hd;split at h
   ·rename_i cl;simp only[κ,ς]at h;obtain⟨rfl,rfl⟩:=h;exact⟨_,rfl,hR.fr t d (by simp only[fn,LV.sv];exact hd),cl⟩
   ·simp at h
  ·simp at h
 |cell p ty=>
  simp only[Eg]at h;split at h
  ·rename_i key s i r ti hx vl;split at h
   ·rename_i blk fQ;split at h
    ·rename_i ob' cs he;split at h
     ·rename_i l _ hs gM;split at h
      ·rename_i d hd;split at h
       ·rename_i cl;simp only[κ,ς]at h;obtain⟨rfl,rfl⟩:=h;have hv:=hR.fr p _ (by simp only[fn,LV.sv];exact hx);simp only[Has,aI]at hv;obtain⟨_,⟨b,n,bZ,rfl⟩,b7⟩:=hv;simp only[cV,SV.aZ,if_true,ads]at b7;obtain⟨v,h1,h2⟩:=Kx (hE.FK.get vl) bZ (hR.hp.blk _ _ (by simp only[fn,LV.blk];exact fQ)) he jH hs aa hd;exact⟨v,by simp only[Eh,b7,asAddr,Β,Ε,ν,h1],h2,cl⟩
       ·simp at h
      ·simp at h
     ·simp at h
    ·simp at h
   ·simp at h
  ·simp at h
theorem zY {E:Env} (hE:E.OK) {fr:List (Nat×SV)} {hp:List (Nat×aC)} {ρ:bY} {a:Act} {w:World} (hR:R E.W0 E.w0 E.n ρ (fn fr hp) a w):∀(rs:List ResultVar) (ob:Option Prop) (l:List SV),mH E.T fr hp rs=some (ob,l)->DS ob->
  ∃vs:List Value,(rs.mapM (Eh a.tmps)).run E.P w= .ok vs w/\
   (∃z,aw ρ l z/\vs=ω cV l z)/\(∀c∈l,bs c=true)/\l.length=rs.length
 |[],ob,l,h,_=>by
  simp only[mH,κ,ς]at h;obtain⟨_,rfl⟩:=h;exact⟨[],rfl,⟨[],by simp[aw],rfl⟩,by simp,rfl⟩
 |r::rs,ob,l,h,jH=>by
  unfold mH at h;split at h
  ·rename_i ob1 c ob2 l' h1 h2;simp only[κ,ς]at h;obtain⟨rfl,rfl⟩:=h;obtain⟨v,e1,e2,e3⟩:=IY hE h1 (CL jH).1 hR;obtain⟨vs,f1,⟨z,f2,rfl⟩,f3,f4⟩:=zY hE hR rs ob2 l' h2 (CL jH).2;obtain⟨x,g1,rfl⟩:=FZ e3 e2;refine⟨cV c x::ω cV l' z, ?_,⟨x::z,by simp only[aw];exact⟨x,z,rfl,g1,f2⟩,rfl⟩, ?_,by simp[f4]⟩
   ·rw[List.mapM_cons,Β,e1];simp only[ν,Β,f1,Ε]
   ·intro d hd;rcases Λ.1 hd with rfl|hd
    ·exact e3
    ·exact f3 d hd
  ·simp at h
theorem nL {E:Env} (hE:E.OK) {fn':Func} {fr:List (Nat×SV)} {hp:List (Nat×aC)} {ρ:bY} {a:Act} {w:World} (hR:R E.W0 E.w0 E.n ρ (fn fr hp) a w) {ob:Option Prop} {l:List SV}
  (h:mH E.T fr hp fn'.results.toList=some (ob,l)) (jH:DS ob):∃v,(results fn' a.tmps).run E.P w= .ok v w/\Has ρ (uc l) v:=by
 obtain⟨vs,h1,⟨z,h2,rfl⟩,h3,h4⟩:=zY hE hR _ ob l h jH;have hz:l.length=z.length:=by
  clear h h1 h3 h4;induction l generalizing z with
  |nil=>simp only[aw]at h2;subst h2;rfl
  |cons c l ih=>simp only[aw]at h2;obtain⟨x,r,rfl,_,h⟩:=h2;simp[ih r h]
 refine⟨if l.length=1 then(ω cV l z).headD undef else .tuple (ω cV l z).toArray, ?_, ?_⟩
 ·have aab:results fn' a.tmps=(do
    let vs <-fn'.results.mapM (Eh a.tmps)
    pure (if h:vs.size=1 then vs[0]else .tuple vs)):=by
   unfold results;congr 1
  rw[aab,Array.mapM_eq_mapM_toList,Β,Sem.run_map,h1];simp only[ν,Ε,af5,ahj,hz,Nat.min_self];congr 1;by_cases hl:z.length=1
  ·rw[dif_pos hl,if_pos hl];obtain⟨c,rfl⟩:=aj1.1 (hz.trans hl);obtain⟨x,rfl⟩:=aj1.1 hl;rfl
  ·rw[dif_neg hl,if_neg hl]
 ·have hp:=h3
  match l,z,h2,hz with
  |[c],z,h2,hz=>
   simp only[aw]at h2;obtain⟨x,r,rfl,g1,rfl⟩:=h2;have:=h3 c (by simp);simp only[uc,adg,if_true];have:Has ρ c (cV c x):=by
    cases c<;>simp[bs]at this<;>simp only[Has]<;>exact⟨x,g1,rfl⟩
   simpa using this
  |[],z,h2,hz=>simp only[uc,Has];exact⟨z,h2,by simp⟩
  |c::d::l,z,h2,hz=>simp only[uc,Has];exact⟨z,h2,by simp⟩
def enum:Nat->List SV->List (Nat×SV)
 |_,[]=>[]
 |i,c::l=>(i,c)::enum (i+1) l
theorem vx:∀(l:List SV) (i t:Nat) (c:SV),lk (enum i l) t=some c->i<=t/\l[t - i]? =some c
 |d::l,i,t,c,h=>by
  unfold enum lk at h;split at h
  ·rename_i hb;have:=χ hb;subst this;cases h;simp
  ·rename_i hb;obtain⟨h1,h2⟩:=vx l (i+1) t c h;refine⟨aa, ?_⟩;rw[show t - i=(t - (i+1))+1 from by omega];simpa using h2
def au (c d:SV):Prop:=∀ρ v,Has ρ c v->Has ρ d v
theorem au.refl (c:SV):au c c:=λ_ _ h=>h
def shut:List Nat->World->World
 |[],w=>w
 |D::Ds,w=>shut Ds (w.putObj D (.deferred none))
theorem CM:∀(Ds:List Nat) (w:World),(shut Ds w).heap.size=w.heap.size
 |[],_=>rfl
 |D::Ds,w=>by rw[shut,CM Ds,World.putObj_size]
theorem rT:∀(Ds:List Nat) (w:World) (b:Nat),b∉Ds->(shut Ds w).heap[b]? =w.heap[b]?
 |[],_,_,_=>rfl
 |D::Ds,w,b,h=>by
  simp only[Λ,not_or]at h;rw[shut,rT Ds _ b h.2,ajQ h.1]
theorem CN:∀(Ds:List Nat) (w:World),(shut Ds w).os=w.os/\(shut Ds w).tape=w.tape/\(shut Ds w).output=w.output
 |[],_=>⟨rfl,rfl,rfl⟩
 |D::Ds,w=>CN Ds (w.putObj D (.deferred none))
theorem R.shut {W0:Nat->Prop} {w0:World} {n:Nat} {ρ:bY} {s:Loc->LV} {a:Act} {w:World} (h:R W0 w0 n ρ s a w) {Ds:List Nat}
  (hd:∀D∈Ds,w0.heap.size<=D/\w.heap[D]? =some (.deferred (some []))/\ρ.aW D=none):R W0 w0 n ρ s {a with defers:=[]} (Sx.shut Ds w):=by
 obtain⟨r1,r2,r3⟩:=CN Ds w;refine {defers:=.nil,size:=h.size,fr:=h.fr,bE:= ?_,hp:= ?_}
 ·refine⟨r1.trans h.bE.os,r2.trans h.bE.tape,r3.trans h.bE.output,by rw[CM];exact h.bE.size,λb hb hw=> ?_⟩;rw[rT,h.bE.block b hb hw];intro hm;have:=(hd b hm).1;omega
 ·refine {blk:=λk b hb=> ?_,sep:=h.hp.sep,own:=h.hp.own,wW:=h.hp.wW,aW:=λb o hb=> ?_,fB:=h.hp.fB}
  ·rcases h.hp.blk k b hb with h4|⟨b',t',vs,ex,h4,h5,h6⟩|h4
   ·exact .inl h4
   ·refine .inr (.inl ⟨b',t',vs,ex,h4, ?_,h6⟩);rw[rT _ _ _ (λhm=>by rw[(hd b' hm).2.1]at h5;exact Data.lO (abU h5).symm)];exact h5
   ·exact .inr (.inr h4)
  ·rw[rT _ _ _ (λhm=>by rw[(hd b hm).2.2]at hb;cases hb)];exact h.hp.aW b o hb
theorem qR {P:Program} {fn':Func} {tmps:Array Value} {Q:Ending->World->Prop}:∀(Ds:List Nat) (w:World),Ds.Nodup->(∀D∈Ds,w.heap[D]? =some (.deferred (some [])))->
  (∃v,(results fn' tmps).run P (shut Ds w)= .ok v (shut Ds w)/\Q (.returned v) (shut Ds w))->LeavesInM ajD 0 P fn' tmps Q (Ds.map mk1) .returning w
 |[],w,_,_,h=>by
  simp only[af6,LeavesInM,LeavesIn];exact h
 |D::Ds,w,hn,hd,h=>by
  rw[aiA]at hn;refine⟨by simp,.inl ⟨D,w.putObj D (.deferred none),rfl,run_takeDeferred (hd D (η ..)),qR Ds _ hn.2 (λD' hD'=> ?_) h⟩⟩;have a8:D'≠D:=by rintro rfl;exact hn.1 hD'
  rw[ajQ a8];exact hd D' (Δ _ hD')
theorem l7 {E:Env} {f:FuncId} {fn':Func} {code:Code} {args:Array Value} {w:World} {Q:Ending->World->Prop} {K:bF} (hro:E.ro=none) (hf:E.P.funcs[f]? =some fn') (hb:fn'.body=some code)
  (hK1:∀ch fr hp,¬K (.panic ch) fr hp) (hK2:∀fr hp,¬K .outgrown fr hp)
  (Uy:code.wpIn (Ku E.ro) 0 E.P (xY E K) {tmps:=args++aca (fn'.ntmps - args.size) undef,defers:=[]} w)
  (h:∀e a' w',a'.defers=[]->xY E K e a' w'->bodyPost E.P fn' Q e a' w'):Calls E.P f args w Q:=by
 rw[hro]at Uy;refine callsIn_wide.1 (callsIn_of_wp_marks (n:=0) hf hb trivial (wpIn_mono (F:=ajD) Uy ?_));rintro e a' w' ⟨fr,hp,hk,ρ,hx,hfx,hR⟩;obtain⟨Ds,d1,d2,d3⟩:=hR.defers;have:=h e {a' with defers:=[]} (shut Ds w') rfl ⟨fr,hp,hk,ρ,hx,hfx,hR.shut d3⟩;cases e with
 |normal=>
  simp only[bodyPostM,d1];exact qR Ds w' d2 (λD hD=>(d3 D hD).2.1) this.2
 |ret=>
  simp only[bodyPostM,d1];exact qR Ds w' d2 (λD hD=>(d3 D hD).2.1) this.2
 |panic ch=>exact absurd hk (hK1 _ _ _)
 |outgrown=>exact absurd hk (hK2 _ _)
 |exit id=>exact this
 |goto l=>exact this
theorem adm {P:Program} {T:List (TypeId×TI)} {Z:List Nat} (hT:dz P T) (hm:P.follows .mixedOrders=true) {f:FuncId} {fn':Func} {code:Code} (hf:P.funcs[f]? =some fn') (hb:fn'.body=some code)
  (hn:(fn'.name== "runtime.NumGoroutine")=false) {args:List SV} {c:SV} (ha:aS args=true) (hc:bI c=true) (hnt:agG args.length fn'.ntmps=true) (hpass:args.all bs=true)
  (h:∀W0 w0 ρ0,Env.OK ⟨P,T,W0,w0,fn'.ntmps,ρ0,[],Z,none⟩->Ee ⟨P,T,W0,w0,fn'.ntmps,ρ0,[],Z,none⟩ code (N9 T fn'.results.toList λsv _=>au sv c) (enum 0 args) []):aL P f args [] c [] []:=by
 have OM:=abW hnt;refine .inl ⟨⟨fn',hf,hn,by rw[hb];rfl⟩,λρ w z hz Ei=> ?_⟩
 let ρ1:bY:=⟨λ_=>none,ρ.aW,ρ.cA⟩
 let E:Env:=⟨P,T,λ_=>False,w,fn'.ntmps,ρ1,[],Z,none⟩
 have hE:E.OK:=⟨hT,hm,λk x hx=>by cases hx⟩;have rR:z.length=args.length:=by
  clear h hnt OM hpass ha;induction args generalizing z with
  |nil=>simp only[aw]at hz;subst hz;rfl
  |cons c l ih=>simp only[aw]at hz;obtain⟨x,r,rfl,_,h⟩:=hz;simp[ih r h]
 have MW:=cx (ρ:=ρ) (ρ':=ρ1) (λb o hb=>hb) args z ha hz;have oc:∀(l:List SV) (y:List (List Value)),aw ρ1 l y->l.all bs=true->∀(j:Nat) (c:SV),l[j]? =some c->∃v,(ω cV l y)[j]? =some v/\Has ρ1 c v:=by
  intro l;induction l with
  |nil=>intro y _ _ j c h;simp at h
  |cons d l ih=>
   intro y hy hp j c hj;simp only[aw]at hy;obtain⟨x,r,rfl,g1,g2⟩:=hy;simp only[af7,Μ]at hp;cases j with
   |zero=>
    simp at hj;subst hj;refine⟨cV d x,by simp, ?_⟩;have hp1:=hp.1;cases d<;>simp[bs]at hp1<;>simp only[Has]<;>exact⟨x,g1,rfl⟩
   |succ j=>simpa using ih r g2 hp.2 j c (by simpa using hj)
 have qn:((ω cV args z).toArray++aca (fn'.ntmps - (ω cV args z).toArray.size) undef).size=fn'.ntmps:=by
  simp[rR];omega
 have hR:R E.W0 E.w0 E.n ρ1 (fn (enum 0 args) []) {tmps:=(ω cV args z).toArray++aca (fn'.ntmps - (ω cV args z).toArray.size) undef,defers:=[]} w:={
  defers:=.nil
  size:=qn
  fr:=λt sv ht=>by
   simp only[fn,LV.sv]at ht;obtain⟨_,h2⟩:=vx args 0 t sv ht;obtain⟨v,h3,h4⟩:=oc args z MW hpass t sv (by simpa using h2);have aE:t<(ω cV args z).length:=(Ϩ.1 h3).1;have:((ω cV args z).toArray++aca (fn'.ntmps - (ω cV args z).toArray.size) undef).getD t undef=v:=by
    rw[Ϻ,agY (by simpa using aE)];simp[h3]
   rw[this];exact h4
  bE:=.refl _ _
  hp:={
   blk:=λk b hb=>by simp[fn,find,LV.blk]at hb
   sep:=λk k' x x' b b' hx=>by cases hx
   own:=λk b x hb=>by simp[fn,find,LV.blk]at hb
   wW:=λk x hx=>by cases hx
   aW:=Ei.aW
   fB:=λk b x hb=>by simp[fn,find,LV.blk]at hb}}
 have Uy:=jM hE code _ _ _ (h E.W0 w ρ1 hE) _ w ⟨ρ1,⟨.refl _,λb o hb=>.inl hb,(λ_ h=>by cases h)⟩,(λ_ h=>by cases h),hR⟩;refine l7 (E:=E) rfl hf hb (λ_ _ _ h=>h) (λ_ _ h=>h) Uy ?_;rintro e a' w' hdf ⟨fr',cl,hK,ρ',hext,_,lN⟩;have fin:∀ob l,mH T fr' cl fn'.results.toList=some (ob,l)->DS ob->au (uc l) c->a'.defers=[]/\∃v,(results fn' a'.tmps).run P w'= .ok v w'/\∃v' ρ'',ajf v= .returned v'/\kN ρ w c [] [] v' ρ'' w':=by
  intro ob l h1 h2 h3;obtain⟨v,r1,r2⟩:=nL hE lN h1 h2;refine⟨hdf,v,r1,v,⟨ρ.key,ρ'.aW,ρ'.cA⟩,rfl,⟨⟨λk x hx=>hx,λb o hb=>hext.le.aW b o hb⟩, ?_,λ_ _=>rfl, ?_,(λk b h=>by rcases h with h|h<;>cases h),(λ_ _ _ h=>by cases h),(λk b x h=>by cases h),(λk b k' b' x x' h=>by cases h), ?_⟩⟩
  ·exact pn (ρ:=ρ') (ρ':=⟨ρ.key,ρ'.aW,ρ'.cA⟩) (λb o hb=>hb) c v hc (h3 ρ' v r2)
  ·exact lN.bE.mono (λb _ hb=>hb.elim)
  ·intro b o hb;rcases hext.aW b o hb with h4|h4
   ·exact .inl h4
   ·exact .inr ⟨h4,lN.hp.aW b o hb,λk blk x h=>by cases h⟩
 cases e<;>simp only[N9]at hK<;>simp only[bodyPost]
 ·split at hK
  ·rename_i ob l hl;exact fin ob l hl (cy hK).1 (cy hK).2
  ·exact hK.elim
 ·split at hK
  ·rename_i ob l hl;exact fin ob l hl (cy hK).1 (cy hK).2
  ·exact hK.elim
end Go.Sx
namespace Go.Sx
mutual
def fT (σ:Nat->Nat):SV->SV
 |.ptr k s i r=>.ptr (σ k) s i r
 |.aM k s i n=>.aM (σ k) s i n
 |.agg cs=>.agg (mI σ cs)
 |.bQ vs=>.bQ (mI σ vs)
 |.clo f a b=>.clo f (mI σ a) (mI σ b)
 |.yld k rc ts a=>.yld (σ k) rc ts (mI σ a)
 |.any=>.any
 |.val v=>.val v
 |.nat n=>.nat n
 |.int z=>.int z
 |.frac q=>.frac q
 |.atom p=>.atom p
def mI (σ:Nat->Nat):List SV->List SV
 |[]=>[]
 |c::l=>fT σ c::mI σ l
end
mutual
def refs:SV->List Nat
 |.ptr k _ _ _=>[k]
 |.aM k _ _ _=>[k]
 |.agg cs=>il cs
 |.bQ vs=>il vs
 |.clo _ a b=>il a++il b
 |.yld k _ _ a=>k::il a
 |_=>[]
def il:List SV->List Nat
 |[]=>[]
 |c::l=>refs c++il l
end
def Cf (σ:Nat->Nat):Data->Data
 |.one cs=>.one (mI σ cs)
 |.seq w xs=>.seq w xs
 |.ints k xs=>.ints k xs
 |.cf xs=>.cf xs
 |.dead=>.dead
 |.loop rc=>.loop rc
def qU:Data->List Nat
 |.one cs=>il cs
 |.seq _ _=>[]
 |_=>[]
def eC (σ:Nat->Nat) (b:aC):aC:=⟨b.ty,b.wr,Cf σ b.data⟩
def lJ (σ:Nat->Nat):List (Nat×aC)->List (Nat×aC)
 |[]=>[]
 |(k,b)::r=>(σ k,eC σ b)::lJ σ r
theorem IZ (σ:Nat->Nat) (c:SV):(fT σ c).aZ=c.aZ:=by cases c<;>simp[fT,SV.aZ]
theorem z6 (σ:Nat->Nat) (c:SV) (x:List Value):cV (fT σ c) x=cV c x:=by simp[cV,IZ]
theorem rU (σ:Nat->Nat):∀(l:List SV) (z:List (List Value)),ω cV (mI σ l) z=ω cV l z
 |[],z=>by simp[mI]
 |c::l,[]=>by simp[mI]
 |c::l,x::z=>by simp[mI,z6,rU σ l z]
mutual
theorem vy {ρ ρ':bY} {σ:Nat->Nat} (hi:ρ'.aW=ρ.aW):∀(c:SV) (x:List Value),(∀k∈refs c,ρ'.key (σ k)=ρ.key k)->(aI ρ' (fT σ c) x↔aI ρ c x)
 |.any,_,_=>by simp only[fT,aI]
 |.val _,_,_=>by simp only[fT,aI]
 |.nat _,_,_=>by simp only[fT,aI]
 |.int _,_,_=>by simp only[fT,aI]
 |.frac _,_,_=>by simp only[fT,aI]
 |.atom p,_,_=>by simp only[fT,aI,hi]
 |.ptr k s i r,_,h=>by simp only[fT,aI,h k (by simp[refs])]
 |.aM k s i n,_,h=>by simp only[fT,aI,h k (by simp[refs])]
 |.agg cs,_,h=>by
  simp only[fT,aI];constructor
  ·rintro⟨z,h1,h2⟩;exact⟨z,(dV hi cs z (by simpa [refs]using h)).1 h1,h2⟩
  ·rintro⟨z,h1,h2⟩;exact⟨z,(dV hi cs z (by simpa [refs]using h)).2 h1,h2⟩
 |.bQ vs,_,_=>by simp only[fT,aI]
 |.clo f a b,_,h=>by
  have ha:∀k∈il a,ρ'.key (σ k)=ρ.key k:=λk hk=>h k (by simp[refs,hk])
  have hb:∀k∈il b,ρ'.key (σ k)=ρ.key k:=λk hk=>h k (by simp[refs,hk])
  simp only[fT,aI,rU];constructor
  ·rintro⟨fz,cz,h1,h2,h3⟩;exact⟨fz,cz,(dV hi a fz ha).1 h1,(dV hi b cz hb).1 h2,h3⟩
  ·rintro⟨fz,cz,h1,h2,h3⟩;exact⟨fz,cz,(dV hi a fz ha).2 h1,(dV hi b cz hb).2 h2,h3⟩
 |.yld k rc ts a,_,h=>by
  have h0:ρ'.key (σ k)=ρ.key k:=h k (by simp[refs]);have ha:∀k∈il a,ρ'.key (σ k)=ρ.key k:=λk hk=>h k (by simp[refs,hk])
  simp only[fT,aI,rU,h0];constructor
  ·rintro⟨l,t,h1,h2,z,h3,h4⟩;exact⟨l,t,h1,h2,z,(dV hi a z ha).1 h3,h4⟩
  ·rintro⟨l,t,h1,h2,z,h3,h4⟩;exact⟨l,t,h1,h2,z,(dV hi a z ha).2 h3,h4⟩
theorem dV {ρ ρ':bY} {σ:Nat->Nat} (hi:ρ'.aW=ρ.aW):∀(l:List SV) (z:List (List Value)),(∀k∈il l,ρ'.key (σ k)=ρ.key k)->(aw ρ' (mI σ l) z↔aw ρ l z)
 |[],_,_=>by simp only[mI,aw]
 |c::l,_,h=>by
  have hc:∀k∈refs c,ρ'.key (σ k)=ρ.key k:=λk hk=>h k (by simp[il,hk])
  have hl:∀k∈il l,ρ'.key (σ k)=ρ.key k:=λk hk=>h k (by simp[il,hk])
  simp only[mI,aw];constructor
  ·rintro⟨x,r,h1,h2,h3⟩;exact⟨x,r,h1,(vy hi c x hc).1 h2,(dV hi l r hl).1 h3⟩
  ·rintro⟨x,r,h1,h2,h3⟩;exact⟨x,r,h1,(vy hi c x hc).2 h2,(dV hi l r hl).2 h3⟩
end
theorem l8 {ρ:bY} {c:SV} {v:Value} (h:bs c=true):Has ρ c v↔∃x,aI ρ c x/\v=cV c x:=by
 cases c<;>simp only[bs,Κ]at h<;>simp only[Has]
theorem ON (σ:Nat->Nat) (c:SV):bs (fT σ c)=bs c:=by cases c<;>rfl
theorem yJ {ρ ρ':bY} {σ:Nat->Nat} (hi:ρ'.aW=ρ.aW) (c:SV) (v:Value) (h:∀k∈refs c,ρ'.key (σ k)=ρ.key k):Has ρ' (fT σ c) v↔Has ρ c v:=by
 cases hp:bs c with
 |true=>
  rw[l8 hp,l8 (by rw[ON];exact hp)];constructor
  ·rintro⟨x,h1,h2⟩;exact⟨x,(vy hi c x h).1 h1,by rw[h2,z6]⟩
  ·rintro⟨x,h1,h2⟩;exact⟨x,(vy hi c x h).2 h1,by rw[h2,z6]⟩
 |false=>
  cases c<;>simp only[bs,Bool.true_eq_false]at hp
  case bQ l=>
   simp only[fT,Has,rU];constructor
   ·rintro⟨z,h1,h2⟩;exact⟨z,(dV hi l z (by simpa [refs]using h)).1 h1,h2⟩
   ·rintro⟨z,h1,h2⟩;exact⟨z,(dV hi l z (by simpa [refs]using h)).2 h1,h2⟩
  case any=>simp only[fT,Has]
mutual
theorem MX (σ:Nat->Nat):∀c:SV,(fT σ c).width=c.width
 |.any=>rfl
 |.val _=>rfl
 |.nat _=>rfl
 |.int _=>rfl
 |.frac _=>rfl
 |.atom _=>rfl
 |.ptr .. =>rfl
 |.aM .. =>rfl
 |.agg cs=>by simp only[fT,SV.width];exact z7 σ cs
 |.bQ _=>rfl
 |.clo .. =>rfl
 |.yld .. =>rfl
theorem z7 (σ:Nat->Nat):∀l:List SV,SV.cP (mI σ l)=SV.cP l
 |[]=>rfl
 |c::l=>by simp only[mI,SV.cP];rw[MX σ c,z7 σ l]
end
theorem Gl {ρ ρ':bY} {σ:Nat->Nat} (hi:ρ'.aW=ρ.aW) (d:Data) (vs:List Value) (h:∀k∈qU d,ρ'.key (σ k)=ρ.key k):df ρ' (Cf σ d) vs↔df ρ d vs:=by
 cases d
 case one cs=>
  simp only[Cf,df];constructor
  ·rintro⟨z,h1,h2⟩;exact⟨z,(dV hi cs z h).1 h1,h2⟩
  ·rintro⟨z,h1,h2⟩;exact⟨z,(dV hi cs z h).2 h1,h2⟩
 case seq w xs=>
  have e:cW ρ'.aW ρ'.cA=cW ρ.aW ρ.cA:=by
   cases ρ;cases ρ';simp only at hi;subst hi;rfl
  simp only[Cf,df,e]
 all_goals simp only[Cf,df]
theorem cT (σ:Nat->Nat) (d:Data):(Cf σ d).live=d.live:=by cases d<;>rfl
theorem I0 (σ:Nat->Nat) (d:Data):(Cf σ d).empty↔d.empty:=by
 cases d<;>simp[Cf,Data.empty]
theorem OO (σ:Nat->Nat) (d:Data) (l:List Value) (ty:TypeId):(Cf σ d).obj l ty=d.obj l ty:=by cases d<;>rfl
theorem kY {ρ ρ':bY} {σ:Nat->Nat} {w:World} (hi:ρ'.aW=ρ.aW) (k:Nat) (b:aC) (hk:ρ'.key (σ k)=ρ.key k) (h:∀k∈qU b.data,ρ'.key (σ k)=ρ.key k):jl ρ' w (σ k) (eC σ b)↔jl ρ w k b:=by
 simp only[jl,eC,hk,cT,I0,OO];constructor
 ·rintro(h0|⟨b',t,vs,ex,h1,h2,h3,h4⟩|h0)
  ·exact .inl h0
  ·exact .inr (.inl ⟨b',t,vs,ex,h1,h2,(Gl hi b.data vs h).1 h3,h4⟩)
  ·exact .inr (.inr h0)
 ·rintro(h0|⟨b',t,vs,ex,h1,h2,h3,h4⟩|h0)
  ·exact .inl h0
  ·exact .inr (.inl ⟨b',t,vs,ex,h1,h2,(Gl hi b.data vs h).2 h3,h4⟩)
  ·exact .inr (.inr h0)
def dA (l:List (Nat×Nat)) (k:Nat):Nat:=match l with
 |[]=>k
 |(a,b)::r=>match ϋ a k with|true=>b|false=>dA r k
def fC (σ:Nat->Nat) (fr:List (Nat×SV)):List Nat->List (Nat×SV)
 |[]=>[]
 |t::r=>match lk fr t with
  |some c=>(t,fT σ c)::fC σ fr r
  |none=>fC σ fr r
def iV (σ:Nat->Nat) (hp:List (Nat×aC)):List Nat->List (Nat×aC)
 |[]=>[]
 |k::r=>match find hp k with
  |some b=>(σ k,eC σ b)::iV σ hp r
  |none=>iV σ hp r
def fD (l r:List Nat):Bool:=match l with
 |[]=>true
 |x::t=>yw x r&&fD t r
theorem ed {l r:List Nat} (h:fD l r=true):∀x∈l,x∈r:=by
 induction l with
 |nil=>intro x hx;cases hx
 |cons y l ih=>
  simp only[fD,Μ]at h;intro x hx;rcases Λ.1 hx with rfl|hx
  ·exact kW.1 h.1
  ·exact ih h.2 x hx
def ek (ks:List Nat) (fr:List (Nat×SV)):List Nat->Bool
 |[]=>true
 |t::r=>match lk fr t with
  |some c=>fD (refs c) ks&&ek ks fr r
  |none=>ek ks fr r
def dI (ks:List Nat) (hp:List (Nat×aC)):List Nat->Bool
 |[]=>true
 |k::r=>match find hp k with
  |some b=>fD (qU b.data) ks&&dI ks hp r
  |none=>false
def ud (σ:Nat->Nat):List Nat->Bool
 |[]=>true
 |k::r=> !(yw (σ k) (r.map σ))&&ud σ r
def vz (σ:Nat->Nat) (ks:List Nat):List Nat->Bool
 |[]=>true
 |k::r=>(yw k ks&&ϋ (σ k) k)&&vz σ ks r
def iK (fx:List Nat) (σ:Nat->Nat) (ts ks:List Nat) (fr:List (Nat×SV)) (hp:List (Nat×aC)):Bool:=
 ek ks fr ts&&(dI ks hp ks&&(ud σ ks&&vz σ ks fx))
theorem uC {σ:Nat->Nat}:∀{ks:List Nat},ud σ ks=true->∀a∈ks,∀b∈ks,σ a=σ b->a=b
 |k::r,h,a,ha,b,hb,he=>by
  simp only[ud,Μ,agk,<-ale,kW]at h;rcases Λ.1 ha with ha'|ha'
  ·rcases Λ.1 hb with ie|ie
   ·rw[ha',ie]
   ·exact absurd (abo.2 ⟨b,ie,by rw[<-he,ha']⟩) h.1
  ·rcases Λ.1 hb with ie|ie
   ·exact absurd (abo.2 ⟨a,ha',by rw[he,ie]⟩) h.1
   ·exact uC h.2 a ha' b ie he
theorem vC {σ:Nat->Nat} {fr:List (Nat×SV)} {ks:List Nat}:∀{ts:List Nat},ek ks fr ts=true->∀t sv,lk (fC σ fr ts) t=some sv->∃c,lk fr t=some c/\sv=fT σ c/\∀k∈refs c,k∈ks
 |u::r,h,t,sv,hl=>by
  unfold ek at h;unfold fC at hl;cases hu:lk fr u with
  |none=>rw[hu]at h hl;exact vC h t sv hl
  |some c=>
   rw[hu]at h hl;simp only[Μ]at h;simp only[lk]at hl;cases hb:ϋ u t with
   |true=>
    rw[hb]at hl;simp only[κ]at hl;obtain rfl:=χ hb;exact⟨c,hu,hl.symm,ed h.1⟩
   |false=>rw[hb]at hl;exact vC h.2 t sv hl
theorem uD {σ:Nat->Nat} {hp:List (Nat×aC)} {ks:List Nat}:∀{l:List Nat},dI ks hp l=true->∀k' b',find (iV σ hp l) k'=some b'->∃k∈l,σ k=k'/\∃b,find hp k=some b/\b'=eC σ b/\∀j∈qU b.data,j∈ks
 |k::r,h,k',b',hf=>by
  unfold dI at h;unfold iV at hf;cases hk:find hp k with
  |none=>rw[hk]at h;cases h
  |some b=>
   rw[hk]at h hf;simp only[Μ]at h;simp only[find]at hf;cases hb:ϋ (σ k) k' with
   |true=>
    rw[hb]at hf;simp only[κ]at hf;exact⟨k,η ..,χ hb,b,hk,hf.symm,ed h.1⟩
   |false=>
    rw[hb]at hf;obtain⟨j,h1,h2⟩:=uD h.2 k' b' hf;exact⟨j,Δ _ h1,h2⟩
theorem oE {σ:Nat->Nat} {hp:List (Nat×aC)} {ks:List Nat}:∀{l:List Nat},dI ks hp l=true->∀k∈l,∃b,find (iV σ hp l) (σ k)=some b
 |j::r,h,k,hk=>by
  unfold dI at h;unfold iV;cases hj:find hp j with
  |none=>rw[hj]at h;cases h
  |some b=>
   rw[hj]at h;simp only[Μ]at h;simp only[find];cases hb:ϋ (σ j) (σ k)with
   |true=>exact⟨_,rfl⟩
   |false=>
    rcases Λ.1 hk with rfl|hk
    ·simp[acZ]at hb
    ·exact oE h.2 k hk
theorem z8 {σ:Nat->Nat} {ks:List Nat}:∀{l:List Nat},vz σ ks l=true->∀k∈l,k∈ks/\σ k=k
 |j::r,h,k,hk=>by
  simp only[vz,Μ,kW]at h;rcases Λ.1 hk with rfl|hk
  ·exact⟨h.1.1,χ h.1.2⟩
  ·exact z8 h.2 k hk
theorem px {E:Env} (hE:E.OK) {σ:Nat->Nat} {ts ks:List Nat} {fr:List (Nat×SV)} {hp:List (Nat×aC)} (h:iK E.fx σ ts ks fr hp=true) {a:Act} {w:World} (hR:RR E (fn fr hp) a w):
  RR E (fn (fC σ fr ts) (iV σ hp ks)) a w:=by
 simp only[iK,Μ]at h;obtain⟨h1,h2,h3,h4⟩:=h;obtain⟨ρ,hext,hfx,hR⟩:=hR;have aac:=uC h3;have MY:=z8 h4
 let ρ':bY:=⟨λk'=>match ks.find? (λk=>σ k==k')with
  |some k=>ρ.key k
  |none=>none,ρ.aW,ρ.cA⟩
 have bZ:∀k∈ks,ρ'.key (σ k)=ρ.key k:=by
  intro k hk;show(match ks.find? (λj=>σ j==σ k)with|some k=>ρ.key k|none=>none)=ρ.key k;cases hf:ks.find? (λj=>σ j==σ k)with
  |none=>have:=akO.1 hf k hk;simp at this
  |some j=>
   have hj:=ac7 hf;have hs:=agh hf;have:j=k:=aac j hj k hk (by simpa using hs);rw[this]
 have OP:∀k' x,ρ'.key k'=some x->∃k∈ks,σ k=k'/\ρ.key k=some x:=by
  intro k' x hx;have hx:(match ks.find? (λj=>σ j==k')with|some k=>ρ.key k|none=>none)=some x:=hx;cases hf:ks.find? (λj=>σ j==k')with
  |none=>rw[hf]at hx;cases hx
  |some j=>rw[hf]at hx;exact⟨j,ac7 hf,by simpa using agh hf,hx⟩
 have hold:∀k' b',(fn (fC σ fr ts) (iV σ hp ks) (.k k')).blk=some b'->∃k∈ks,σ k=k'/\∃b,find hp k=some b/\b'=eC σ b/\∀j∈qU b.data,j∈ks:=λk' b' hb=>uD h2 k' b' hb
 refine⟨ρ',⟨⟨λk x hx=> ?_,hext.le.aW⟩,hext.aW,λk hk=> ?_⟩,λk hk=> ?_,{defers:=hR.defers,size:=hR.size,fr:= ?_,bE:=hR.bE,hp:= ?_}⟩
 ·obtain⟨e1,e2⟩:=MY k (hE.wW k x hx);have:=bZ k e1;rw[e2]at this;rw[this];exact hext.le.key k x hx
 ·obtain⟨e1,e2⟩:=MY k hk;have:=bZ k e1;rw[e2]at this;rw[this];exact hext.fix k hk
 ·obtain⟨e1,e2⟩:=MY k hk;obtain⟨b,hb⟩:=oE (σ:=σ) h2 k e1;rw[e2]at hb;simp[fn,LV.blk,hb]
 ·intro t sv ht;obtain⟨c,c1,rfl,c3⟩:=vC h1 t sv ht;exact(yJ (ρ:=ρ) (ρ':=ρ') (σ:=σ) rfl c _ (λk hk=>bZ k (c3 k hk))).2 (hR.fr t c (by simp only[fn,LV.sv];exact c1))
 ·constructor
  ·intro k' b' hb;obtain⟨k,hk,rfl,b,b1,rfl,b3⟩:=hold k' b' hb;exact(kY (ρ:=ρ) (ρ':=ρ') (σ:=σ) rfl k b (bZ k hk) (λj hj=>bZ j (b3 j hj))).2 (hR.hp.blk k b (by simp only[fn,LV.blk];exact b1))
  ·intro k1 k2 x1 x2 b1 b2 hx1 Om a8 he hb1 hb2 iT iD;obtain⟨j1,m1,rfl,c1,d1,rfl,_⟩:=hold k1 b1 hb1;obtain⟨j2,m2,rfl,c2,d2,rfl,_⟩:=hold k2 b2 hb2;rw[bZ j1 m1]at hx1;rw[bZ j2 m2]at Om;exact hR.hp.sep j1 j2 x1 x2 c1 c2 hx1 Om (λh=>a8 (by rw[h])) he (by simp only[fn,LV.blk];exact d1) (by simp only[fn,LV.blk];exact d2) (by rwa [eC,cT]at iT) (by rwa [eC,cT]at iD)
  ·intro k' b' x hb hw hl hx;obtain⟨k,hk,rfl,b,b1,rfl,_⟩:=hold k' b' hb;rw[bZ k hk]at hx;exact hR.hp.own k b x (by simp only[fn,LV.blk];exact b1) hw (by rwa [eC,cT]at hl) hx
  ·intro k' x hx;obtain⟨k,hk,rfl,_⟩:=OP k' x hx;obtain⟨b,hb⟩:=oE (σ:=σ) h2 k hk;exact⟨b,by simp only[fn,LV.blk];exact hb⟩
  ·exact hR.hp.aW
  ·intro k' b' x hb hw hl hx;obtain⟨k,hk,rfl,b,b1,rfl,_⟩:=hold k' b' hb;rw[bZ k hk]at hx;exact hR.hp.fB k b x (by simp only[fn,LV.blk];exact b1) hw (by rwa [eC,cT]at hl) hx
theorem yK {E:Env} (hE:E.OK) (σ:Nat->Nat) (ts ks:List Nat) {c:Code} {K:bF} {fr:List (Nat×SV)} {hp:List (Nat×aC)} (h:iK E.fx σ ts ks fr hp=true)
  (hs:SW E c K (fC σ fr ts) (iV σ hp ks)):SW E c K fr hp:=λa w hR=>hs a w (px hE h hR)
def Aa (t k s:Nat) (fr:List (Nat×SV)):List (Nat×SV):=(t,.aM k s 0 0)::fr
theorem OQ {E:Env} {t k s:Nat} {blk:aC} {fr:List (Nat×SV)} {hp:List (Nat×aC)} (ht:lk fr t=some (.val (.slice none 0 0))) (hk:find hp k=none) (he:blk.data.empty) {a:Act} {w:World} (hR:RR E (fn fr hp) a w):
  RR E (fn (Aa t k s fr) ((k,blk)::hp)) a w:=by
 obtain⟨ρ,hext,hfx,hR⟩:=hR;have ua:ρ.key k=none:=by
  cases hx:ρ.key k with
  |none=>rfl
  |some x=>
   obtain⟨b,hb⟩:=hR.hp.wW k x hx;simp only[fn,LV.blk,hk]at hb;cases hb
 have fQ:∀j b,(fn (Aa t k s fr) ((k,blk)::hp) (.k j)).blk=some b->(j=k/\b=blk)\/(j≠k/\(fn fr hp (.k j)).blk=some b):=by
  intro j b hb;simp only[fn,LV.blk,find]at hb ⊢;cases hj:ϋ k j with
  |true=>rw[hj]at hb;simp only[κ]at hb;exact .inl ⟨(χ hj).symm,hb.symm⟩
  |false=>rw[hj]at hb;exact .inr ⟨by rintro rfl;simp[acZ]at hj,hb⟩
 have a8:∀j x,ρ.key j=some x->j≠k:=λj x hx h=>by rw[h,ua]at hx;cases hx
 refine⟨ρ,hext,λj hj=> ?_,{defers:=hR.defers,size:=hR.size,fr:= ?_,bE:=hR.bE,hp:= ?_}⟩
 ·have:=hfx j hj;simp only[fn,LV.blk,find]at this ⊢;cases hb:ϋ k j with
  |true=>simp
  |false=>exact this
 ·intro u sv hu;simp only[fn,LV.sv,Aa,lk]at hu;cases hb:ϋ t u with
  |true=>
   rw[hb]at hu;simp only[κ]at hu;subst hu;obtain rfl:=χ hb;have:=aK (hR.fr t _ (by simp only[fn,LV.sv];exact ht));rw[this];exact iE (.inr ⟨rfl,none,rfl⟩)
  |false=>
   rw[hb]at hu;exact hR.fr u sv (by simp only[fn,LV.sv];exact hu)
 ·constructor
  ·intro j b hb;rcases fQ j b hb with⟨rfl,rfl⟩|⟨_,h1⟩
   ·exact .inr (.inr ⟨ua,he⟩)
   ·exact hR.hp.blk j b h1
  ·intro j j' x x' b b' hx sU hn hxe hb ie;rcases fQ j b hb with⟨h1,_⟩|⟨_,h1⟩
   ·exact absurd h1 (a8 j x hx)
   ·rcases fQ j' b' ie with⟨h2,_⟩|⟨_,h2⟩
    ·exact absurd h2 (a8 j' x' sU)
    ·exact hR.hp.sep j j' x x' b b' hx sU hn hxe h1 h2
  ·intro j b x hb hw hl hx;rcases fQ j b hb with⟨h1,_⟩|⟨_,h1⟩
   ·exact absurd h1 (a8 j x hx)
   ·exact hR.hp.own j b x h1 hw hl hx
  ·intro j x hx;obtain⟨b,hb⟩:=hR.hp.wW j x hx;have:=a8 j x hx;refine⟨b, ?_⟩;simp only[fn,LV.blk,find]at hb ⊢;cases hj:ϋ k j with
   |true=>exact absurd (χ hj).symm this
   |false=>exact hb
  ·exact hR.hp.aW
  ·intro j b x hb hw hl hx;rcases fQ j b hb with⟨h1,_⟩|⟨_,h1⟩
   ·exact absurd h1 (a8 j x hx)
   ·exact hR.hp.fB j b x h1 hw hl hx
theorem OR {E:Env} (t k s:Nat) (blk:aC) {c:Code} {K:bF} {fr:List (Nat×SV)} {hp:List (Nat×aC)} (ht:lk fr t=some (.val (.slice none 0 0))) (hk:find hp k=none) (he:blk.data.empty)
  (hs:SW E c K (Aa t k s fr) ((k,blk)::hp)):SW E c K fr hp:=λa w hR=>hs a w (OQ ht hk he hR)
theorem dD {E:Env} {t k s:Nat} {c:Code} {K:bF} {blk:aC} {fr:List (Nat×SV)} {hp:List (Nat×aC)} (ht:lk fr t=some (.val (.slice none 0 0))) (hk:find hp k=none) (he:blk.data.empty)
  (hs:dY E c K (Aa t k s fr) ((k,blk)::hp)):dY E c K fr hp:=⟨OR t k s blk ht hk he hs.run⟩
theorem av {E:Env} (hE:E.OK) {c:Code} {K:bF} {fr:List (Nat×SV)} {hp:List (Nat×aC)} (σ:Nat->Nat) (ts ks:List Nat) (I:Nat->List (Nat×SV)->List (Nat×aC)->Prop) (m:Nat)
  (h0:iK E.fx σ ts ks fr hp=true) (hI:I m (fC σ fr ts) (iV σ hp ks))
  (h:∀m fr hp,I m fr hp->Ee E c (λe fr' cl=>match e with
   |.normal=>∃m' σ ts ks,m'<m/\iK E.fx σ ts ks fr' cl=true/\I m' (fC σ fr' ts) (iV σ cl ks)
   |e=>K e fr' cl) fr hp):dY E (.loop c) K fr hp:=by
 refine⟨?_⟩;refine yK hE σ ts ks h0 (Ef (λm fr hp=>∃fr0 vD,(∀a w,RR E (fn fr hp) a w->RR E (fn fr0 vD) a w)/\I m fr0 vD) m ⟨_,_,λ_ _ h=>h,hI⟩ ?_);rintro m fr hp ⟨fr0,vD,hw,hI⟩ a w hR;refine age ?_ (jM hE c _ fr0 vD (h m fr0 vD hI) a w (hw a w hR));rintro e a' w' ⟨fr',cl,h1,h2⟩;cases e with
 |normal=>
  obtain⟨m',σ,ts,ks,aE,hok,KK⟩:=h1;exact⟨fr',cl,⟨m',aE,_,_,λa w hR=>px hE hok hR,KK⟩,h2⟩
 |_=>exact⟨fr',cl,h1,h2⟩
end Go.Sx
namespace Go.Sx
def Fin (c:SV) (new upd:List (Nat×aC)) (sv:SV) (hp:List (Nat×aC)):Prop:=
 au sv c/\(∀k b,(k,b)∈new->find hp k=some b)/\(∀k b,(k,b)∈upd->find hp k=some b)
def vE:List (Nat×aC)->Bool
 |[]=>true
 |(_,b)::r=>(b.wr&&b.data.live)&&vE r
def jo:List (Nat×aC)->List Nat
 |[]=>[]
 |(_,b)::r=>qU b.data++jo r
def qW:List Nat->Bool
 |[]=>true
 |x::r=> !(yw x r)&&qW r
structure cb (args:List SV) (fk:List (Nat×aC)) (c:SV) (new upd:List (Nat×aC)):Prop where
 aad:fD (il args) (az fk)=true
 fkr:fD (jo fk) (az fk)=true
 nd:qW (az fk++az new)=true
 aae:vE new=true
 aaf:vE upd=true
 OS:∀k b,(k,b)∈upd->∃b0,(k,b0)∈fk/\b0.wr=true/\b0.data.live=true
 I1:∀k b,(k,b)∈fk->b.wr=true->b.data.live=true->∃b',(k,b')∈upd
 cr:fD (refs c) (az fk++az new)=true
 nr:fD (jo new) (az fk++az new)=true
 ur:fD (jo upd) (az fk++az new)=true
 pass:args.all bs=true
structure bl (fk new:List (Nat×aC)) (σ:Nat->Nat):Prop where
 inj:∀q q' b b',(q,b)∈fk->(q',b')∈fk->q≠q'->b.wr=true->σ q≠σ q'
 OT:∀m m',m∈az new->m'∈az new->m≠m'->σ m≠σ m'
 OU:∀m q,m∈az new->q∈az fk->σ m≠σ q
theorem nM:∀{l:List Nat},qW l=true->l.Nodup
 |[],_=>List.nodup_nil
 |x::r,h=>by
  simp only[qW,Μ,agk,<-ale,kW]at h;exact aiA.2 ⟨h.1,nM h.2⟩
theorem kZ:∀{l:List (Nat×aC)} {k:Nat} {b:aC},(az l).Nodup->(k,b)∈l->find l k=some b
 |(j,c)::r,k,b,hn,hm=>by
  simp only[az,aiA]at hn;simp only[find];rcases Λ.1 hm with h|h
  ·cases h;simp[acZ]
  ·have a8:j≠k:=by rintro rfl;exact hn.1 (aR.2 ⟨b,h⟩)
   cases hb:ϋ j k with
   |true=>exact absurd (χ hb) a8
   |false=>exact kZ hn.2 h
theorem py:∀{l:List (Nat×aC)},vE l=true->∀k b,(k,b)∈l->b.wr=true/\b.data.live=true
 |(j,c)::r,h,k,b,hm=>by
  simp only[vE,Μ]at h;rcases Λ.1 hm with h1|h1
  ·cases h1;exact h.1
  ·exact py h.2 k b h1
theorem jN:∀{l:List (Nat×aC)} {k:Nat} {b:aC},(k,b)∈l->∀x∈qU b.data,x∈jo l
 |(j,c)::r,k,b,hm,x,hx=>by
  simp only[jo,ϖ];rcases Λ.1 hm with h1|h1
  ·cases h1;exact .inl hx
  ·exact .inr (jN h1 x hx)
theorem bG {σ:Nat->Nat}:∀{l:List (Nat×aC)} {k:Nat} {b:aC},(k,b)∈lJ σ l↔∃q b0,(q,b0)∈l/\k=σ q/\b=eC σ b0
 |[],k,b=>by simp[lJ]
 |(j,c)::r,k,b=>by
  simp only[lJ,Λ,ς,bG (l:=r)];constructor
  ·rintro(⟨rfl,rfl⟩|⟨q,b0,h1,h2,h3⟩)
   ·exact⟨j,c,.inl ⟨rfl,rfl⟩,rfl,rfl⟩
   ·exact⟨q,b0,.inr h1,h2,h3⟩
  ·rintro⟨q,b0,⟨rfl,rfl⟩|h1,h2,h3⟩
   ·exact .inl ⟨h2,h3⟩
   ·exact .inr ⟨q,b0,h1,h2,h3⟩
theorem gY {P:Program} {T:List (TypeId×TI)} {Z:List Nat} (hT:dz P T) (hm:P.follows .mixedOrders=true) {f:FuncId} {fn':Func} {code:Code} (hf:P.funcs[f]? =some fn') (hb:fn'.body=some code)
  (hn:(fn'.name== "runtime.NumGoroutine")=false) {args:List SV} {fk:List (Nat×aC)} {c:SV} {new upd:List (Nat×aC)} (hs:cb args fk c new upd) (hnt:agG args.length fn'.ntmps=true)
  (σ:Nat->Nat) (hσ:bl fk new σ)
  (h:∀W0 w0 ρ0,Env.OK ⟨P,T,W0,w0,fn'.ntmps,ρ0,az fk,Z,none⟩->Ee ⟨P,T,W0,w0,fn'.ntmps,ρ0,az fk,Z,none⟩ code (N9 T fn'.results.toList (Fin c new upd)) (enum 0 args) fk):
  aL P f (mI σ args) (lJ σ fk) (fT σ c) (lJ σ new) (lJ σ upd):=by
 have OM:=abW hnt;refine .inl ⟨⟨fn',hf,hn,by rw[hb];rfl⟩,λρ w z hz Ei=> ?_⟩;have X7:=nM hs.nd;have OV:(az fk).Nodup:=(ae0.1 X7).1;have agC:(az new).Nodup:=(ae0.1 X7).2.1;have OW:∀m∈az new,m∉az fk:=λm hm hq=>(ae0.1 X7).2.2 m hq m hm rfl
 let ρ1:bY:=⟨λq=>if q∈az fk then ρ.key (σ q)else none,ρ.aW,ρ.cA⟩
 have FL:∀q∈az fk,ρ.key (σ q)=ρ1.key q:=λq hq=>by
  show _=if q∈az fk then _ else _
  rw[if_pos hq]
 have OX:∀q x,ρ1.key q=some x->q∈az fk:=λq x hx=>by
  have hx:(if q∈az fk then ρ.key (σ q)else none)=some x:=hx;by_cases hq:q∈az fk
  ·exact hq
  ·rw[if_neg hq]at hx;cases hx
 let W0:Nat->Prop:=λb=>∃q blk t,(q,blk)∈upd/\ρ1.key q=some (b,t)
 let E:Env:=⟨P,T,W0,w,fn'.ntmps,ρ1,az fk,Z,none⟩
 have hE:E.OK:=⟨hT,hm,OX⟩;have OY:=ed hs.aad;have MW:aw ρ1 args z:=(dV (ρ:=ρ1) (ρ':=ρ) (σ:=σ) rfl args z (λk hk=>FL k (OY k hk))).1 hz;have rR:z.length=args.length:=da MW;have oc:∀(l:List SV) (y:List (List Value)),aw ρ1 l y->l.all bs=true->∀(j:Nat) (c:SV),l[j]? =some c->∃v,(ω cV l y)[j]? =some v/\Has ρ1 c v:=by
  intro l;induction l with
  |nil=>intro y _ _ j c h;simp at h
  |cons d l ih=>
   intro y hy hp j c hj;simp only[aw]at hy;obtain⟨x,r,rfl,g1,g2⟩:=hy;simp only[af7,Μ]at hp;cases j with
   |zero=>
    simp at hj;subst hj;exact⟨cV d x,by simp,(l8 hp.1).2 ⟨x,g1,rfl⟩⟩
   |succ j=>simpa using ih r g2 hp.2 j c (by simpa using hj)
 have qn:((ω cV args z).toArray++aca (fn'.ntmps - (ω cV args z).toArray.size) undef).size=fn'.ntmps:=by
  simp[rR];omega
 have aag:=ed hs.fkr;have qY:∀k b,find fk k=some b->(k,b)∈fk:=λk b hb=>kO hb
 have hR:R E.W0 E.w0 E.n ρ1 (fn (enum 0 args) fk) {tmps:=(ω cV args z).toArray++aca (fn'.ntmps - (ω cV args z).toArray.size) undef,defers:=[]} w:={
  defers:=.nil
  size:=qn
  fr:=λt sv ht=>by
   simp only[fn,LV.sv]at ht;obtain⟨_,h2⟩:=vx args 0 t sv ht;obtain⟨v,h3,h4⟩:=oc args z MW hs.pass t sv (by simpa using h2);have aE:t<(ω cV args z).length:=(Ϩ.1 h3).1;have:((ω cV args z).toArray++aca (fn'.ntmps - (ω cV args z).toArray.size) undef).getD t undef=v:=by
    rw[Ϻ,agY (by simpa using aE)];simp[h3]
   rw[this];exact h4
  bE:=.refl _ _
  hp:={
   blk:=λk b hb=>by
    have hm:=qY k b hb;have:=Ei.oq (σ k) (eC σ b) (bG.2 ⟨k,b,hm,rfl,rfl⟩);exact(kY (ρ:=ρ1) (ρ':=ρ) (σ:=σ) rfl k b (FL k (aR.2 ⟨b,hm⟩)) (λj hj=>FL j (aag j (jN hm j hj)))).1 this
   sep:=λk k' x x' b b' hx sU a8 he hb ie hl ux=>by
    have hm:=qY k b hb;have FM:=qY k' b' ie;have N6:ρ.key (σ k)=some x:=by rw[FL k (aR.2 ⟨b,hm⟩)];exact hx
    have aah:ρ.key (σ k')=some x':=by rw[FL k' (aR.2 ⟨b',FM⟩)];exact sU
    cases hw:b.wr with
    |false=>rfl
    |true=>
     have:=Ei.sep (σ k) (σ k') x x' (eC σ b) (eC σ b') (bG.2 ⟨k,b,hm,rfl,rfl⟩) (bG.2 ⟨k',b',FM,rfl,rfl⟩) N6 aah (hσ.inj k k' b b' hm FM a8 hw) he (by rw[eC,cT];exact hl) (by rw[eC,cT];exact ux);rw[eC]at this;rw[hw]at this;exact this
   own:=λk b x hb hw hl hx=>by
    have hm:=qY k b hb;obtain⟨b',hu⟩:=hs.I1 k b hm hw hl;exact .inr ⟨k,b',x.2,hu,hx⟩
   wW:=λk x hx=>by
    obtain⟨b,hb⟩:=aR.1 (OX k x hx);exact⟨b,by simp only[fn,LV.blk];exact kZ OV hb⟩
   aW:=Ei.aW
   fB:=λk b x hb hw hl hx=>by
    have hm:=qY k b hb;have N6:ρ.key (σ k)=some x:=by rw[FL k (aR.2 ⟨b,hm⟩)];exact hx
    exact Ei.fB (σ k) (eC σ b) x (bG.2 ⟨k,b,hm,rfl,rfl⟩) hw (by rw[eC,cT];exact hl) N6}}
 have Uy:=jM hE code _ _ _ (h E.W0 w ρ1 hE) _ w ⟨ρ1,⟨.refl _,(λb o hb=>.inl hb),(λ_ _=>rfl)⟩,(λk hk=>by
  obtain⟨b,hb⟩:=aR.1 hk;simp only[fn,LV.blk,kZ OV hb]
  simp),hR⟩
 rw[rU];refine l7 (E:=E) rfl hf hb (λ_ _ _ h=>h) (λ_ _ h=>h) Uy ?_;rintro e a' w' hdf ⟨fr',cl,hK,ρ',hext,_,lN⟩;have fin:∀ob l,mH T fr' cl fn'.results.toList=some (ob,l)->DS ob->Fin c new upd (uc l) cl->a'.defers=[]/\∃v,(results fn' a'.tmps).run P w'= .ok v w'/\∃v' ρ'',ajf v= .returned v'/\kN ρ w (fT σ c) (lJ σ new) (lJ σ upd) v' ρ'' w':=by
  rintro ob l h1 h2 ⟨h3,gi,hupd⟩;obtain⟨v,r1,r2⟩:=nL hE lN h1 h2
  let ρ2:bY:=⟨λk=>match (az new).find? (λm=>σ m==k)with
   |some m=>ρ'.key m
   |none=>ρ.key k,ρ'.aW,ρ'.cA⟩
  have qZ:∀m∈az new,ρ2.key (σ m)=ρ'.key m:=by
   intro m hm;show(match (az new).find? (λj=>σ j==σ m)with|some m=>ρ'.key m|none=>ρ.key (σ m))=ρ'.key m;cases qE:(az new).find? (λj=>σ j==σ m)with
   |none=>have:=akO.1 qE m hm;simp at this
   |some j=>
    have hj:=ac7 qE;have hjs:=agh qE;have:j=m:=Ο λa8=>hσ.OT j m hj hm a8 (by simpa using hjs)
    rw[this]
  have Ab:∀k,(∀m∈az new,σ m≠k)->ρ2.key k=ρ.key k:=by
   intro k hk;show(match (az new).find? (λj=>σ j==k)with|some m=>ρ'.key m|none=>ρ.key k)=ρ.key k;cases qE:(az new).find? (λj=>σ j==k)with
   |none=>rfl
   |some j=>exact absurd (by simpa using agh qE) (hk j (ac7 qE))
  have k2:∀q∈az fk++az new,ρ2.key (σ q)=ρ'.key q:=by
   intro q hq;rcases ϖ.1 hq with hq|hq
   ·rw[Ab (σ q) (λm hm=>hσ.OU m q hm hq),FL q hq,hext.fix q hq]
   ·exact qZ q hq
  have dN:∀m∈az new,ρ.key (σ m)=none:=by
   intro m hm;obtain⟨b,hb⟩:=aR.1 hm;exact Ei.fresh (σ m) (eC σ b) (bG.2 ⟨m,b,hb,rfl,rfl⟩)
  have jq:=py hs.aae;have OZ:=py hs.aaf;have hnr:=ed hs.nr;have hur:=ed hs.ur;have hcr:=ed hs.cr;have pz:∀q b,(q,b)∈upd->q∈az fk:=λq b hq=>by
   obtain⟨b0,h1,_⟩:=hs.OS q b hq;exact aR.2 ⟨b0,h1⟩
  refine⟨hdf,v,r1,v,ρ2,rfl,⟨⟨λk x hx=> ?_,λb o hb=>hext.le.aW b o hb⟩, ?_,λk hk=> ?_, ?_, ?_, ?_, ?_, ?_, ?_⟩⟩
  ·rw[Ab k]
   ·exact hx
   ·rintro m hm rfl;rw[dN m hm]at hx;cases hx
  ·exact(yJ (ρ:=ρ') (ρ':=ρ2) (σ:=σ) rfl c v (λk hk=>k2 k (hcr k hk))).2 (h3 ρ' v r2)
  ·refine Ab k λm hm he=> ?_
   obtain⟨b,hb⟩:=aR.1 hm;exact hk (eC σ b) (bG.2 ⟨m,b,hb,he.symm,rfl⟩)
  ·refine lN.bE.mono (λb _ hb=> ?_);obtain⟨q,blk,t,hq,hx⟩:=hb;refine⟨σ q,eC σ blk,t,bG.2 ⟨q,blk,hq,rfl,rfl⟩, ?_⟩;rw[FL q (pz q blk hq)];exact hx
  ·intro k b hk;rcases hk with hk|hk
   ·obtain⟨q,b0,hq,rfl,rfl⟩:=bG.1 hk;exact(kY (ρ:=ρ') (ρ':=ρ2) (σ:=σ) rfl q b0 (k2 q (ϖ.2 (.inl (pz q b0 hq)))) (λj hj=>k2 j (hur j (jN hq j hj)))).2 (lN.hp.blk q b0 (by simp only[fn,LV.blk];exact hupd q b0 hq))
   ·obtain⟨q,b0,hq,rfl,rfl⟩:=bG.1 hk;exact(kY (ρ:=ρ') (ρ':=ρ2) (σ:=σ) rfl q b0 (k2 q (ϖ.2 (.inr (aR.2 ⟨b0,hq⟩)))) (λj hj=>k2 j (hnr j (jN hq j hj)))).2 (lN.hp.blk q b0 (by simp only[fn,LV.blk];exact gi q b0 hq))
  ·intro k b b' hk _ hl _;obtain⟨q,b0,hq,rfl,rfl⟩:=bG.1 hk;rw[eC,cT]at hl;rw[(OZ q b0 hq).2]at hl;cases hl
  ·intro k b x hk hx;obtain⟨m,b0,hm,rfl,rfl⟩:=bG.1 hk;rw[qZ m (aR.2 ⟨b0,hm⟩)]at hx;have hfm:(fn fr' cl (.k m)).blk=some b0:=by simp only[fn,LV.blk];exact gi m b0 hm
   rcases lN.hp.own m b0 x hfm (jq m b0 hm).1 (jq m b0 hm).2 hx with h4|⟨q,bu,t,hq,hxq⟩
   ·exact .inl h4
   ·exfalso;have hqf:=pz q bu hq;have a8:m≠q:=λhe=>OW m (aR.2 ⟨b0,hm⟩) (he▸hqf)
    have aai:ρ'.key q=some (x.1,t):=by rw[hext.fix q hqf];exact hxq
    have:=lN.hp.sep m q x (x.1,t) b0 bu hx aai a8 rfl hfm (by simp only[fn,LV.blk];exact hupd q bu hq) (jq m b0 hm).2 (OZ q bu hq).2;rw[(jq m b0 hm).1]at this;cases this
  ·intro k b k' b' x x' hk kQ a8 hx sU he;obtain⟨m,b0,hm,rfl,rfl⟩:=bG.1 hk;obtain⟨m',b0',FM,rfl,rfl⟩:=bG.1 kQ;rw[qZ m (aR.2 ⟨b0,hm⟩)]at hx;rw[qZ m' (aR.2 ⟨b0',FM⟩)]at sU;have:=lN.hp.sep m m' x x' b0 b0' hx sU (λh=>a8 (by rw[h])) he (by simp only[fn,LV.blk];exact gi m b0 hm) (by simp only[fn,LV.blk];exact gi m' b0' FM) (jq m b0 hm).2 (jq m' b0' FM).2;rw[(jq m b0 hm).1]at this;cases this
  ·intro b o hb;rcases hext.aW b o hb with h4|h4
   ·exact .inl h4
   ·refine .inr ⟨h4,lN.hp.aW b o hb,λk blk x hk hx he=> ?_⟩;obtain⟨m,b0,hm,rfl,rfl⟩:=bG.1 hk;rw[qZ m (aR.2 ⟨b0,hm⟩)]at hx;have:=lN.hp.fB m b0 x (by simp only[fn,LV.blk];exact gi m b0 hm) (jq m b0 hm).1 (jq m b0 hm).2 hx;rw[he]at this;have ie:ρ'.aW b=some o:=hb;rw[ie]at this;cases this
 cases e<;>simp only[N9]at hK<;>simp only[bodyPost]
 ·split at hK
  ·rename_i ob l hl;exact fin ob l hl (cy hK).1 (cy hK).2
  ·exact hK.elim
 ·split at hK
  ·rename_i ob l hl;exact fin ob l hl (cy hK).1 (cy hK).2
  ·exact hK.elim
def ro (b:aC):aC:=⟨b.ty,false,b.data⟩
theorem n7.ro {ρ:bY} {w:World} {fk new:List (Nat×aC)} (hp:n7 fk new ρ w):n7 (fk.map λx=>(x.1,ro x.2)) new ρ w:=by
 refine⟨λk b hk=> ?_,λk k' x x' b b' hk _ _ _ _ _ _ _=> ?_,hp.aW,λk b x hk hw=> ?_,hp.fresh⟩
 ·obtain⟨⟨q,b0⟩,hq,he⟩:=abo.1 hk;cases he;exact hp.oq q b0 hq
 ·obtain⟨⟨q,b0⟩,hq,he⟩:=abo.1 hk;cases he;rfl
 ·obtain⟨⟨q,b0⟩,hq,he⟩:=abo.1 hk;cases he;cases hw
theorem aL.vF {P:Program} {f:FuncId} {args:List SV} {fk:List (Nat×aC)} {c:SV} {new:List (Nat×aC)} (h:aL P f args (fk.map λx=>(x.1,ro x.2)) c new []):aL P f args fk c new []:=by
 rcases h with⟨h1,h2⟩|h
 ·exact .inl ⟨h1,λρ w z hz hp=>h2 ρ w z hz hp.ro⟩
 ·exact .inr λρ w z hz hp=>h ρ w z hz hp.ro
end Go.Sx
namespace Go.Sx
def rV:List Nat->Nat
 |[]=>0
 |w::l=>w+4294967296*rV l
theorem l9:∀(f n:Nat),n<=f->rV (cZ f n)=n/\(∀w∈cZ f n,w<4294967296)/\(cZ f n≠[]->(cZ f n).getLast?≠some 0)/\(cZ f n=[]↔n=0)
 |0,n,h=>by
  obtain rfl:n=0:=aa;simp[cZ,rV]
 |f+1,n,h=>by
  simp only[cZ];by_cases hn:n=0
  ·simp[hn,rV]
  ·have ih:=l9 f (n/4294967296) aa;simp only[hn,if_false];refine⟨?_, ?_,λ_=> ?_,by simp⟩
   ·simp only[rV,ih.1];omega
   ·intro w hw;rcases Λ.1 hw with rfl|hw
    ·omega
    ·exact ih.2.1 w hw
   ·by_cases hz:n/4294967296=0
    ·have:cZ f (n/4294967296)=[]:=ih.2.2.2.2 hz;rw[this];simp;omega
    ·have a8:cZ f (n/4294967296)≠[]:=λhe=>hz (ih.2.2.2.1 he)
     rw[List.getLast?_cons,Option.getD_of_ne_none (by simp[a8])];have:=ih.2.2.1 a8;exact this
theorem ue (n:Nat):rV (words n)=n:=(l9 n n (ζ n)).1
theorem Ac {n w:Nat} (h:w∈words n):w<4294967296:=(l9 n n (ζ n)).2.1 w h
theorem MZ {n:Nat}:words n=[]↔n=0:=(l9 n n (ζ n)).2.2.2
theorem Ch {a b:Nat} (ha:a<4294967296) (hb:b<4294967296) (h:bJ a=bJ b):a=b:=by
 simp only[bJ,afR,and_true]at h;obtain⟨h1,h2,h3,h4⟩:=h;have e:=λ(x y:Nat) (h:aal x=aal y)=>by
  have:=congrArg UInt8.toNat h;simpa [UInt8.toNat_ofNat']using this
 have e1:=e _ _ h1;have e2:=e _ _ h2;have e3:=e _ _ h3;have e4:=e _ _ h4;omega
theorem bytes_inj:∀(l m:List Nat),(∀w∈l,w<4294967296)->(∀w∈m,w<4294967296)->l.flatMap bJ=m.flatMap bJ->l=m
 |[],[],_,_,_=>rfl
 |[],y::m,_,_,h=>by simp[bJ]at h
 |x::l,[],_,_,h=>by simp[bJ]at h
 |x::l,y::m,hl,hm,h=>by
  simp only[List.flatMap_cons]at h;have:=List.append_inj h (by simp[bJ]);rw[Ch (hl x (η ..)) (hm y (η ..)) this.1,bytes_inj l m (λw hw=>hl w (Δ _ hw)) (λw hw=>hm w (Δ _ hw)) this.2]
theorem Ad (n:Nat):(sQ n).toList=if n<18446744073709551616 then[]else(words n).flatMap bJ:=by
 unfold sQ;split
 ·rw[aih];rfl
 ·rw[aih]
theorem oF {n:Nat}:(sQ n).toList=[]↔n<18446744073709551616:=by
 rw[Ad];split
 ·simp[*]
 ·rename_i h;refine iff_of_false (λhe=> ?_) h;cases hw:words n with
  |nil=>have:=MZ.1 hw;omega
  |cons x l=>rw[hw]at he;simp[bJ]at he
theorem pA (a b:Nat):((low a==low b)&&((sQ a).toList==(sQ b).toList))=decide (a=b):=by
 rw[ajq];simp only[Μ,beq_iff_eq,decide_eq_true_eq];constructor
 ·rintro⟨h1,h2⟩;by_cases ha:a<18446744073709551616
  ·have hb:b<18446744073709551616:=oF.1 (h2▸oF.2 ha);simp only[low,ha,hb,if_true]at h1;omega
  ·have hb:¬b<18446744073709551616:=λhb=>ha (oF.1 (h2▸oF.2 hb))
   simp only[Ad,ha,hb,if_false]at h2;have:=bytes_inj _ _ (λw=>Ac) (λw=>Ac) h2;rw[<-ue a,<-ue b,this]
 ·rintro rfl;exact⟨rfl,rfl⟩
def Ej:TK->List Value->List Value->Option Bool
 |.int _,[.int k a],[.int k' b]=>if k=k' then some (a==b)else none
 |.bool,[.bool a],[.bool b]=>some (a==b)
 |.str,[.string a],[.string b]=>some (a.toList==b.toList)
 |_,_,_=>none
mutual
def Ae (T:List (TypeId×TI)) (fu:List TypeId):Nat->TypeId->List Value->List Value->Option Bool
 |0,_,_,_=>none
 |f+1,t,xs,ys=>match dT T t with
  |some ti=>match ti.kind with
   |.agg fs=>match fu.contains t with
    |true=>M0 T fu f fs xs ys
    |false=>none
   |k=>Ej k xs ys
  |none=>none
def M0 (T:List (TypeId×TI)) (fu:List TypeId):Nat->List (Nat×TypeId×Nat)->List Value->List Value->Option Bool
 |0,_,_,_=>none
 |_+1,[],_,_=>some true
 |f+1,(off,t,n)::fs,xs,ys=>match Ae T fu f t ((xs.drop off).take n) ((ys.drop off).take n),M0 T fu f fs xs ys with
  |some a,some b=>some (a&&b)
  |_,_=>none
end
def Af (P:Program) (fu:List TypeId):Prop:=∀t∈fu,P.stoodInHeld t=false/\(P.fieldsOf t).toList.all (λf=>f.name != "_")=true
def U5 (ti:TI) (xs:List Value):Value:=match ti.kind with
 |.agg _=>.agg xs.toArray
 |_=>xs.headD undef
theorem Gm {P:Program} {t:TypeId} {ti:TI} (ht:b6 P t ti) {xs:Array Value} {off:Nat} (gM:ti.kind.isAgg=false->∃v,(xs.toList.drop off).take ti.size=[v]) (jL:∀n e,ti.kind≠ .arr n e) (w:World):
  (part t xs off).run P w= .ok (U5 ti ((xs.toList.drop off).take ti.size)) w:=by
 unfold part;rw[Β,ht.isAgg];simp only[ν];cases hk:ti.kind.isAgg with
 |true=>
  have:∃fs,ti.kind= .agg fs:=by
   cases hq:ti.kind<;>rw[hq]at hk<;>simp[TK.isAgg]at hk
   ·exact⟨_,rfl⟩
   ·exact absurd hq (jL _ _)
  obtain⟨fs,O0⟩:=this;simp only[if_true,Β,ht.sizeOf,ν,Ε,U5,O0];congr 2;apply ac0;simp[List.take_drop]
 |false=>
  obtain⟨v,hv⟩:=gM hk;have hg:xs[off]? =some v:=by
   have:((xs.toList.drop off).take ti.size)[0]? =some v:=by rw[hv];rfl
   rw[ahL]at this;split at this
   ·rw[akN]at this;simpa using this
   ·cases this
  simp only[Κ,if_false,hg,Ε,U5];cases hq:ti.kind<;>rw[hq]at hk<;>simp[TK.isAgg]at hk<;>simp[hv]
theorem I2 {P:Program} {t:TypeId} {d:Nat} {w:World} {k:TK} (hk:k.ok P t) {xs ys:List Value} {r:Bool} (h:Ej k xs ys=some r):∃x y,xs=[x]/\ys=[y]/\(Op.equalIn (d+1) t x y).run P w= .ok r w:=by
 unfold Ej at h;split at h
 ·split at h
  ·rename_i hkk;subst hkk;simp only[κ]at h;subst h;exact⟨_,_,rfl,rfl,run_equalIn_int w d t _ _ _ _ hk⟩
  ·simp at h
 ·simp only[κ]at h;subst h;exact⟨_,_,rfl,rfl,run_equalIn_bool' w d t _ _ hk⟩
 ·simp only[κ]at h;subst h;exact⟨_,_,rfl,rfl,run_equalIn_string w d t _ _ hk⟩
 ·simp at h
mutual
theorem Ag {P:Program} {T:List (TypeId×TI)} {fu:List TypeId} (hT:dz P T) (hg:Af P fu):∀(f:Nat) (t:TypeId) (xs ys:List Value) (r:Bool),Ae T fu f t xs ys=some r->∀(d:Nat) (w:World),f<=d->∃ti,dT T t=some ti/\(∀n e,ti.kind≠ .arr n e)/\(ti.kind.isAgg=false->(∃v,xs=[v])/\∃v,ys=[v])/\(Op.equalIn d t (U5 ti xs) (U5 ti ys)).run P w= .ok r w
 |0,_,_,_,_,h,_,_,_=>by simp[Ae]at h
 |f+1,t,xs,ys,r,h,d,w,hd=>by
  obtain⟨d,rfl⟩:∃d',d=d'+1:=⟨d - 1,aa⟩;unfold Ae at h;split at h
  ·rename_i ti vl;have hk:=(hT.get vl).kind;refine⟨ti,vl, ?_⟩;cases hq:ti.kind<;>rw[hq]at h hk<;>simp only at h
   case agg fs=>
    split at h
    ·rename_i hgood;obtain⟨h1,h2,h3⟩:=hk;obtain⟨g1,g2⟩:=hg t (by simpa using hgood);refine⟨by simp,by simp[TK.isAgg], ?_⟩;simp only[U5,hq];rw[run_equalIn_struct w d t _ _ h1 g1];exact Gn hT hg f fs xs ys r h (P.fieldsOf t).toList h2 g2 d w aa
    ·simp at h
   case arr=>simp[Ej]at h
   all_goals (obtain⟨x,y,rfl,rfl,h1⟩:=I2 (d:=d) (w:=w) hk h;exact⟨by simp,λ_=>⟨⟨_,rfl⟩,⟨_,rfl⟩⟩,by simpa only[U5,hq,ads]using h1⟩)
  ·simp at h
theorem Gn {P:Program} {T:List (TypeId×TI)} {fu:List TypeId} (hT:dz P T) (hg:Af P fu):∀(f:Nat) (fs:List (Nat×TypeId×Nat)) (xs ys:List Value) (r:Bool),M0 T fu f fs xs ys=some r->
  ∀(l:List Field),l.map (λf=>(f.offset,f.type,P.cellsOf f.type))=fs->l.all (λf=>f.name != "_")=true->∀(d:Nat) (w:World),f<=d->(akP d xs.toArray ys.toArray l).run P w= .ok r w
 |0,_,_,_,_,h,_,_,_,_,_,_=>by simp[M0]at h
 |f+1,[],xs,ys,r,h,l,hl,_,d,w,_=>by
  simp only[M0,κ]at h;subst h;obtain rfl:l=[]:=by simpa using hl
  simp[akP]
 |f+1,(off,t,n)::fs,xs,ys,r,h,l,hl,hn,d,w,hd=>by
  cases l with
  |nil=>simp at hl
  |cons g l=>
   simp only[ϲ,afR,ς]at hl;obtain⟨⟨rfl,rfl,rfl⟩,hl⟩:=hl;simp only[af7,Μ,bne_iff_ne,ne_eq]at hn;unfold M0 at h;split at h
   ·rename_i a b ha hb;simp only[κ]at h;subst h;obtain⟨ti,h1,h2,h3,h4⟩:=Ag hT hg f _ _ _ _ ha d w aa;have ht:=hT.get h1;have gM:P.cellsOf g.type=ti.size:=by
     obtain⟨i,z,e1,e2,_⟩:=ht.info;simp[Program.cellsOf,e1,e2]
    rw[gM]at h3 h4;have cF:=Gn hT hg f fs xs ys b hb l hl hn.2 d w aa;have p1:=Gm ht (xs:=xs.toArray) (off:=g.offset) (λhk=>(h3 hk).1) h2 w;have p2:=Gm ht (xs:=ys.toArray) (off:=g.offset) (λhk=>(h3 hk).2) h2 w;have M3:¬g.name= "_" :=hn.1
    simp only[akP,M3,ne_eq,not_false_eq_true,if_true,Β,p1,p2,ν,h4];cases a
    ·simp
    ·simp[cF]
   ·simp at h
end
def ld:SV->Option (List Value)
 |.nat n=>some (bU n)
 |.int z=>some (ef z)
 |.frac q=>some (bL q)
 |.agg cs=>flatL cs
 |_=>none
where flatL:List SV->Option (List Value)
 |[]=>some []
 |.val v::l=>(flatL l).map (v::·)
 |.nat n::l=>(flatL l).map (bU n++·)
 |.int z::l=>(flatL l).map (ef z++·)
 |.frac q::l=>(flatL l).map (bL q++·)
 |_=>none
theorem uE {ρ:bY}:∀{l:List SV} {cells:List Value} {z:List (List Value)},ld.flatL l=some cells->aw ρ l z->z.flatten=cells
 |[],cells,z,h,hz=>by simp only[ld.flatL,κ]at h;simp only[aw]at hz;subst h;subst hz;rfl
 |c::l,cells,z,h,hz=>by
  simp only[aw]at hz;obtain⟨x,r,rfl,h1,h2⟩:=hz;cases c<;>simp only[ld.flatL,Option.map_eq_some_iff,reduceCtorEq]at h<;>obtain⟨m,hm,rfl⟩:=h<;>simp only[aI]at h1<;>have ih:=uE hm h2
  case val=>obtain⟨rfl,_⟩:=h1;simp[ih]
  all_goals (subst h1;simp[ih])
theorem jO {ρ:bY} {c:SV} {cells:List Value} {v:Value} (h:ld c=some cells) (hv:Has ρ c v):v= .agg cells.toArray:=by
 cases c<;>simp only[ld,κ,reduceCtorEq]at h<;>simp only[Has,aI]at hv<;>obtain⟨x,hx,rfl⟩:=hv<;>simp only[cV,SV.aZ,Κ,if_false]
 case agg=>obtain⟨z,h1,rfl⟩:=hx;rw[uE h h1]
 all_goals (subst h;subst hx;rfl)
section
variable {P:Program} {o:Oper} {ft:List (Nat×SV)} {fk:List (Nat×aC)} {c c':SV}
theorem bV {T:List (TypeId×TI)} {fu:List TypeId} {t t2:TypeId} {x y:Operand} {l l':List Value} {r:Bool} {fs:List (Nat×TypeId×Nat)} {ti:TI} (hT:dz P T) (hg:Af P fu) (ho:o.op= .binOp .eql t x y t2) (hx:bg ft x c) (hy:bg ft y c')
  (hl:ld c=some l) (ux:ld c'=some l') (vl:dT T t=some ti) (hk:ti.kind= .agg fs) (hr:Ae T fu 10 t l l'=some r) (hgd:P.eqGuardType P.depth t=false):bR P o ft fk (.val (.bool r)) [] []:=
 br λρ a w hp=>by
  have e1:=jO hl (hx ρ a hp.dR);have e2:=jO ux (hy ρ a hp.dR);obtain⟨ti',h1,_,_,h4⟩:=Ag hT hg 10 t l l' r hr 10000 w aa;rw[vl]at h1;cases h1;simp only[U5,hk]at h4;refine⟨_, ?_,ck rfl⟩;simp only[execOp,ho,e1,e2,Β,run_eqGuard_agg w .eql t x y _ _ hgd,ν,run_eql_struct,h4,Ε]
theorem fE {T:List (TypeId×TI)} {fu:List TypeId} {t t2:TypeId} {x y:Operand} {l l':List Value} {r:Bool} {fs:List (Nat×TypeId×Nat)} {ti:TI} (hT:dz P T) (hg:Af P fu) (ho:o.op= .binOp .neq t x y t2) (hx:bg ft x c) (hy:bg ft y c')
  (hl:ld c=some l) (ux:ld c'=some l') (vl:dT T t=some ti) (hk:ti.kind= .agg fs) (hr:Ae T fu 10 t l l'=some r) (hgd:P.eqGuardType P.depth t=false):bR P o ft fk (.val (.bool (!r))) [] []:=
 br λρ a w hp=>by
  have e1:=jO hl (hx ρ a hp.dR);have e2:=jO ux (hy ρ a hp.dR);obtain⟨ti',h1,_,_,h4⟩:=Ag hT hg 10 t l l' r hr 10000 w aa;rw[vl]at h1;cases h1;simp only[U5,hk]at h4;refine⟨_, ?_,ck rfl⟩;simp only[execOp,ho,e1,e2,Β,run_eqGuard_agg w .neq t x y _ _ hgd,ν,run_neq_struct,h4,Ε]
end
section
variable {P:Program} {o:Oper} {ft fr:List (Nat×SV)} {fk:List (Nat×aC)} {c c':SV}
theorem Gp {f:FuncId} {xs ys:Array Operand} {l m:List SV} (ho:o.op= .makeFunc (.func f) xs ys) (hx:Ou fr xs.toList=some l) (hy:Ou fr ys.toList=some m):bR P o fr fk (.clo f l m) [] []:=
 br λρ a w hp=>by
  obtain⟨z,h1,h2⟩:=zE hx ρ a hp.dR;obtain⟨y,h3,h4⟩:=zE hy ρ a hp.dR;refine⟨.func (.func f) (xs.map (Act.eval a)) (ys.map (Act.eval a)),by simp[execOp,ho,Instr.makeFunc], ?_⟩;simp only[Has,aI];refine⟨_,⟨z,y,h1,h3,rfl⟩, ?_⟩;simp only[cV,SV.aZ,if_true,ads,<-h2,<-h4];congr 1<;>(apply ac0;simp)
theorem eG {t e:TypeId} {x ix:Operand} {ti te:TI} {n:Nat} {kd kd':IntKind} {j:Int} {l:List Value} {v:Value} (ho:o.op= .index t x ix) (hx:bg ft x c) (hl:ld c=some l) (hi:bg ft ix (.val (.int kd j)))
  (ht:b6 P t ti) (hk:ti.kind= .arr n e) (he:b6 P e te) (X3:te.kind= .int kd') (hs:te.size=1) (h0:0<=j) (hj:j<n) (hv:l[j.toNat]? =some v) (w9:v.oneCell'=true):bR P o ft fk (.val v) [] []:=
 br λρ a w hp=>by
  have e1:=jO hl (hx ρ a hp.dR);have e2:=aK (hi ρ a hp.dR);have hu:=ht.kind;rw[hk]at hu;have hue:=he.kind;rw[X3]at hue;refine⟨v, ?_,ck w9⟩;have aE:0<=j/\j<(n:Int):=⟨h0,hj⟩;have cl:(part e l.toArray j.toNat).run P w= .ok v w:=by
   unfold part;rw[Β,he.isAgg];simp[X3,TK.isAgg,hv]
  simp only[execOp,ho,Instr.index,e1,e2,asIntOf,Β,Ε,ν,run_underlying hu,aE,and_self,if_true,he.sizeOf,hs,Nat.mul_one,cl]
end
theorem fb {c d:SV} {l:List Value} (hc:ld c=some l) (hd:ld d=some l) (hnc:∀cs,d≠ .agg cs):au c d:=by
 intro ρ v h;have:=jO hc h;subst this;cases d<;>simp only[ld,κ,reduceCtorEq]at hd
 case agg cs=>exact absurd rfl (hnc cs)
 all_goals (subst hd;simp only[Has,aI];exact⟨_,rfl,by simp[cV,SV.aZ]⟩)
mutual
def ado:SV->SV->Prop
 |.bQ l,.bQ m=>X8 l m
 |c,d=>∀ρ x,aI ρ c x->aI ρ d x/\c.aZ=d.aZ
def X8:List SV->List SV->Prop
 |[],[]=>True
 |c::l,d::m=>ado c d/\X8 l m
 |_,_=>False
end
theorem Gq {a b a' b':SV} (h1:∀ρ x,aI ρ a x->aI ρ a' x) (i1:a.aZ=a'.aZ) (h2:∀ρ x,aI ρ b x->aI ρ b' x) (i2:b.aZ=b'.aZ):au (.bQ [a,b]) (.bQ [a',b']):=by
 intro ρ v h;simp only[Has,aw]at h ⊢;obtain⟨_,⟨x,_,rfl,hx,y,_,rfl,hy,rfl⟩,rfl⟩:=h;exact⟨_,⟨x,_,rfl,h1 ρ x hx,y,_,rfl,h2 ρ y hy,rfl⟩,by simp[cV,i1,i2]⟩
theorem xZ {a b c a' b' c':SV} (h1:∀ρ x,aI ρ a x->aI ρ a' x) (i1:a.aZ=a'.aZ) (h2:∀ρ x,aI ρ b x->aI ρ b' x) (i2:b.aZ=b'.aZ) (h3:∀ρ x,aI ρ c x->aI ρ c' x) (i3:c.aZ=c'.aZ):au (.bQ [a,b,c]) (.bQ [a',b',c']):=by
 intro ρ v h;simp only[Has,aw]at h ⊢;obtain⟨_,⟨x,_,rfl,hx,y,_,rfl,hy,z,_,rfl,hz,rfl⟩,rfl⟩:=h;exact⟨_,⟨x,_,rfl,h1 ρ x hx,y,_,rfl,h2 ρ y hy,z,_,rfl,h3 ρ z hz,rfl⟩,by simp[cV,i1,i2,i3]⟩
theorem M4 {c d:SV} {l:List Value} (hc:ld c=some l) (hd:ld d=some l) (hnc:∀cs,d≠ .agg cs):∀ρ x,aI ρ c x->aI ρ d x:=by
 intro ρ x h;have hx:x=l:=by
  cases c<;>simp only[ld,κ,reduceCtorEq]at hc<;>simp only[aI]at h
  case agg cs=>obtain⟨z,h1,rfl⟩:=h;exact uE hc h1
  all_goals (subst hc;exact h)
 subst hx;cases d<;>simp only[ld,κ,reduceCtorEq]at hd
 case agg cs=>exact absurd rfl (hnc cs)
 all_goals (subst hd;simp only[aI])
theorem wrap_u64 {n:Int} (h0:0<=n) (h:n<18446744073709551616):Ζ.wrap n=n:=by simp[agE,abG,aen];omega
theorem wrap_u32 {n:Int} (h0:0<=n) (h:n<4294967296):Φ.wrap n=n:=by simp[agE,abG,aen];omega
theorem wrap_i64 {n:Int} (h0: -9223372036854775808<=n) (h:n<9223372036854775808):ε.wrap n=n:=by
 simp only[agE,abG,aen,Bool.true_and];split<;>simp_all<;>omega
theorem rW (n:Int):Ζ.wrap n=n % 18446744073709551616:=by simp[agE,abG,aen]
theorem wrap_u32' (n:Int):Φ.wrap n=n % 4294967296:=by simp[agE,abG,aen]
theorem cD {n:Nat} (h:n<18446744073709551616):low n=n:=by simp[low,h]
theorem M5 {n:Nat} (h:n<18446744073709551616):sQ n=ByteArray.empty:=by simp[sQ,h]
theorem mJ {n:Nat} (h:n<18446744073709551616):bU n=[.int .u64 n,.string .empty]:=by simp[bU,cD h,M5 h]
theorem O1 {x y:Nat} (hx:x<18446744073709551616) (hy:y<18446744073709551616):DU .u64 x y=((x&&& y:Nat):Int):=by
 have:x&&& y<18446744073709551616:=ϓ alA hx;show Ζ.wrap (((acN 64 x&&& acN 64 y).toNat:Nat):Int)=_;rw[akQ,ac8,ac8,aeD,aeD,Υ (a:=x) aa,Υ (a:=y) aa];exact wrap_u64 aa aa
theorem Gr {x y:Nat} (hx:x<4294967296) (hy:y<4294967296):DU .u32 x y=((x&&& y:Nat):Int):=by
 have:x&&& y<4294967296:=ϓ alA hx;show Φ.wrap (((acN 32 x&&& acN 32 y).toNat:Nat):Int)=_;rw[akQ,ac8,ac8,aeD,aeD,Υ (a:=x) aa,Υ (a:=y) aa];exact wrap_u32 aa aa
theorem yL {x y:Nat} (hx:x<18446744073709551616) (hy:y<18446744073709551616):ID .u64 x y=((x|||y:Nat):Int):=by
 have:x|||y<2^64:=Nat.or_lt_two_pow hx hy
 show Ζ.wrap (((acN 64 x|||acN 64 y).toNat:Nat):Int)=_;rw[BitVec.toNat_or,ac8,ac8,aeD,aeD,Υ (a:=x) aa,Υ (a:=y) aa];exact wrap_u64 aa aa
theorem jr (k:IntKind) {x s:Nat} (hs:s<=k.bits):lG k x s=((x/2^s:Nat):Int):=by
 simp only[lG,ι,acR hs];rw[Int.fdiv_eq_ediv_of_nonneg _ (by exact ahD (alq ax))];simp
end Go.Sx
namespace Go.Sx
def sz (n:Nat):Nat:=if n=0 then 0 else Nat.log2 n+1
theorem eW {n k:Nat}:sz n<=k↔n<2^k:=by
 unfold sz;split
 ·rename_i h;subst h;simp[aeo]
 ·rename_i h;rw[<-Nat.log2_lt h];omega
theorem KM (n:Nat):n<2^sz n:=eW.1 (ζ _)
theorem fY {a b:Nat} (h:a<=b):sz a<=sz b:=eW.2 (ϓ h (KM b))
theorem Ah {a b k:Nat} (ha:sz a<=k) (hb:sz b<=k):sz (a+b)<=k+1:=by
 rw[eW]at*;rw[ϙ];omega
theorem fU (a b:Nat):sz (a*b)<=sz a+sz b:=by
 rw[eW,Nat.pow_add];rcases Nat.eq_zero_or_pos a with h|h
 ·subst h;rw[aeC];exact agj (aeo _) (aeo _)
 ·exact Nat.mul_lt_mul_of_lt_of_le (KM a) (Nat.le_of_lt (KM b)) (by have:=KM b;omega)
theorem I3 (a b:Nat):sz (a/b)<=sz a:=fY (ac1 a b)
theorem aaj (a b:Nat):sz (a % b)<=sz a:=fY (Nat.mod_le a b)
theorem O2 {n:Nat} (h:n≠0):1<=sz n:=by unfold sz;rw[if_neg h];omega
theorem aak:sz 1=1:=aD
theorem O3 {a b:Nat} (h:b≠0):sz (ac2 a b)<=sz b:=fY (akA (ak4 h) (ajv a b))
theorem ag {b w w':Bool} {A B:Prop} (h:b=w) (hn:(w==w')=false) (a:A):(b=w->A)/\(b=w'->B):=⟨λ_=>a,λh'=>absurd (h.symm.trans h') (by simpa using hn)⟩
theorem ae {b w w':Bool} {A B:Prop} (h:b=w') (hn:(w==w')=false) (a:B):(b=w->A)/\(b=w'->B):=⟨λh'=>absurd (h'.symm.trans h) (by simpa using hn),λ_=>a⟩
theorem aq {ops:List Oper} {fs:List ia} {A:Prop} (ht:indep ops fs=true) (h:A):(indep ops fs=true)/\A:=And.intro ht h
section
variable {P:Program} {o:Oper} {ft:List (Nat×SV)} {fk:List (Nat×aC)}
theorem O4 {x y z:Operand} {c:SV} (ho:o.op= .pick x y z) (hx:bg ft x (.val (.bool true))) (hy:bg ft y c):bR P o ft fk c [] []:=nK ho hx (λ_=>hy) (λhb=>by cases hb) rfl (c2:=.any)
theorem O5 {x y z:Operand} {c:SV} (ho:o.op= .pick x y z) (hx:bg ft x (.val (.bool false))) (hy:bg ft z c):bR P o ft fk c [] []:=nK ho hx (λhb=>by cases hb) (λ_=>hy) rfl (c1:=.any)
end
end Go.Sx
namespace Go.Sx
open Go.ChangeShapes
theorem aL.calls {P:Program} {f:FuncId} {args:List SV} {fk:List (Nat×aC)} {c:SV} {new upd:List (Nat×aC)} (hf:FY P f) (h:aL P f args fk c new upd)
  {ρ:bY} {w:World} {z:List (List Value)} (hz:aw ρ args z) (hp:n7 fk new ρ w):
  Calls P f (ω cV args z).toArray w λe w'=>∃v ρ',e= .returned v/\kN ρ w c new upd v ρ' w':=by
 rcases h with⟨_,h⟩|h
 ·exact h ρ w z hz hp
 ·obtain⟨v,ρ',w',h1,_⟩:=h ρ w z hz hp;obtain⟨fn,hfn,hn,hb⟩:=hf;have hn':¬fn.name= "runtime.NumGoroutine" :=by simpa using hn
  have ie:¬fn.body=none:=λh=>by rw[h]at hb;cases hb
  simp[callFunc,hfn,hn',ie]at h1
theorem cell_of_heap {w W:World} {g:Nat} (h:w.heap[g]? =W.heap[g]?) (j:Nat):w.cell? ⟨g,j,none⟩=W.cell? ⟨g,j,none⟩:=by
 simp only[aj9,h]
theorem U6 {W:World} (h:zz W):
  jG (λb=>if ou.any (λt=>t.1==b)then W.heap[b]? else none):=by
 intro g kd l hm;obtain⟨a8,hc,ty,fz,hx⟩:=h g kd l hm;have oy:ou.any (λt=>t.1==g)=true:=alj.2 ⟨_,hm,by simp⟩;cases l with
 |nil=>exact absurd rfl a8
 |cons x l=>
  have h0:=hc 0 x rfl;cases ho:W.heap[g]? with
  |none=>simp[aj9,ho]at h0
  |some o=>
   refine⟨o,by simp[oy,ho],λw hw j y hy=> ?_,ty,fz,by rw[ho]at hx;exact abU hx⟩;rw[cell_of_heap (W:=W) (by rw[hw,ho]) j];exact hc j y hy
theorem uf {H:Type} {enc:TypeId×Value->H} {P:Program} (hl:laidOutB P=true) {W W':World} (hb:aeR W.heap.size W W'):
  ∀(ts:List TypeId) (vs:List Value) (ds:List (DataW H)) (ps:List MemPlace),ts.all (λt=>P.readableRec t&&decide (t<P.types.size))=true->alB enc P W 0 (λ_=>true) true ts vs ds ps->(∀p∈ps,p.block<W.heap.size)->
   alB enc P W' 0 (λb=>decide (b<W.heap.size)) true ts vs ds ps
 |[],[],[],_,_,h,_=>h
 |t::ts,v::vs,d::ds,ps,hr,h,aE=>by
  obtain⟨p,q,h1,h2,rfl⟩:=h;simp only[af7,Μ,decide_eq_true_eq]at hr;exact⟨p,q,ami hl hr.1.1 hr.1.2 h1 hb (λx hx=>aE x (ϖ.2 (.inl hx))),uf hl hb ts vs ds q hr.2 h2 (λx hx=>aE x (ϖ.2 (.inr hx))),rfl⟩
 |[],_::_,_,_,_,h,_=>h.elim
 |[],[],_::_,_,_,h,_=>h.elim
 |_::_,[],_,_,_,h,_=>h.elim
 |_::_,_::_,[],_,_,h,_=>h.elim
theorem O6 {H:Type} {enc:TypeId×Value->H} {P:Program} {f:Func} {s:ChangeSpec} {W W':World} {args:Array Value} {ds gs:List (DataW H)} {before:List MemPlace} {tb:TypeId}
  (hl:laidOutB P=true) (hr:f.params.toList.all (λt=>P.readableRec t&&decide (t<P.types.size))=true) (hv:s.vars=[]) (aab:f.resultTypes= #[tb]) (htb:P.underlying tb=some .bool)
  (hW:DataW.Whole enc P f.params.toList s.vars false W args.toList ds gs before) (hfn:(s.fn H (ds++gs)).results=[.lit (.bool true)]/\(s.fn H (ds++gs)).args=ds/\(s.fn H (ds++gs)).vars=[])
  (hb:aeR W.heap.size W W'):s.post enc P f false true false false W args (.bool true) W':=by
 have aE:=hW.lt;have hW':=hW;obtain⟨p,q,h1,h2,rfl,h3,h4⟩:=hW;rw[hv]at h2;obtain⟨rfl,rfl⟩:=trodVars_none h2;rw[ϣ]at aE;refine⟨ds,[],p++[],[],p,[],hW', ?_, ?_, ?_,hb.frame _,λh=>by cases h⟩
 ·rw[hfn.1,aab];exact trodAll_cons_mk (RowKit.shut_bool htb true) trodAll_mk0
 ·rw[hfn.2.1];exact uf hl hb _ _ _ _ hr h1 aE
 ·rw[hv,hfn.2.2];exact rfl
end Go.Sx
namespace Go.Sx
theorem dY.of {E:Env} (hE:E.OK) {c:Code} {K:bF} {fr:List (Nat×SV)} {hp:List (Nat×aC)} (h:Ee E c K fr hp):dY E c K fr hp:=⟨jM hE c K fr hp h⟩
theorem cG {E:Env} (hE:E.OK) {c:Code} {K:bF} {fr:List (Nat×SV)} {hp:List (Nat×aC)} (σ:Nat->Nat) (ts ks:List Nat) (I:Nat->List (Nat×SV)->List (Nat×aC)->Prop) (m:Nat)
  (h0:iK E.fx σ ts ks fr hp=true) (hI:I m (fC σ fr ts) (iV σ hp ks))
  (h:∀m fr hp,I m fr hp->dY E c (λe fr' cl=>match e with
   |.normal=>∃m' σ ts ks,m'<m/\iK E.fx σ ts ks fr' cl=true/\I m' (fC σ fr' ts) (iV σ cl ks)
   |e=>K e fr' cl) fr hp):dY E (.loop c) K fr hp:=by
 refine⟨?_⟩;refine yK hE σ ts ks h0 (Ef (λm fr hp=>∃fr0 vD,(∀a w,RR E (fn fr hp) a w->RR E (fn fr0 vD) a w)/\I m fr0 vD) m ⟨_,_,λ_ _ h=>h,hI⟩ ?_);rintro m fr hp ⟨fr0,vD,hw,hI⟩ a w hR;refine age ?_ ((h m fr0 vD hI).run a w (hw a w hR));rintro e a' w' ⟨fr',cl,h1,h2⟩;cases e with
 |normal=>
  obtain⟨m',σ,ts,ks,aE,hok,KK⟩:=h1;exact⟨fr',cl,⟨m',aE,_,_,λa w hR=>px hE hok hR,KK⟩,h2⟩
 |_=>exact⟨fr',cl,h1,h2⟩
def js:Data->Option (List SV)
 |.ints kd xs=>some (xs.map λx=>.val (.int kd x))
 |.cf xs=>some (xs.map .frac)
 |.seq _ xs=>some xs
 |_=>none
theorem Ai {ρ:bY}:∀(qs:List Rat),aw ρ (qs.map .frac) (qs.map bL)
 |[]=>by simp[aw]
 |q::qs=>by simp only[ϲ,aw];exact⟨_,_,rfl,by simp[aI],Ai qs⟩
theorem CO {ρ:bY} {kd:IntKind}:∀(xs:List Int),aw ρ (xs.map λx=>.val (.int kd x)) (xs.map λx=>[.int kd x])
 |[]=>by simp[aw]
 |x::xs=>by simp only[ϲ,aw];exact⟨_,_,rfl,by simp[aI,aaq],CO xs⟩
theorem M6 {ρ:bY} {d:Data} {w:Nat} {xs:List SV} {vs:List Value} (h:js d=some xs) (hw:dx d=some w) (hd:df ρ d vs):∃z,aw ρ xs z/\vs=z.flatten/\∀x∈xs,x.width=w:=by
 cases d<;>simp only[js,κ,reduceCtorEq]at h<;>simp only[dx,κ]at hw<;>subst h<;>subst hw<;>simp only[df]at hd
 case ints kd xs=>
  subst hd;exact⟨_,CO xs,by rw[<-ϸ,List.map_eq_flatMap],λx hx=>by obtain⟨q,_,rfl⟩:=abo.1 hx;rfl⟩
 case cf xs=>
  subst hd;exact⟨_,Ai xs,by rw[ϸ],λx hx=>by obtain⟨q,_,rfl⟩:=abo.1 hx;rfl⟩
 case seq=>obtain⟨z,h1,h2⟩:=hd;exact⟨z,aw.mono (qG ρ ρ.cA) _ _ h1,h2⟩
structure Up (ρ:bY) (w:World) (B:Nat) (i:Nat->Option Obj):Prop where
 le:∀b o,ρ.aW b=some o->i b=some o
 new:∀b o,i b=some o->ρ.aW b=some o\/(B<=b/\w.heap[b]? =some o)
structure Holds (hp:List (Nat×aC)) (ρ:bY) (w:World) (B:Nat):Prop where
 blk:∀k b,find hp k=some b->jl ρ w k b
 own:∀k b x,find hp k=some b->b.wr=true->b.data.live=true->ρ.key k=some x->B<=x.1
 aW:∀b o,ρ.aW b=some o->w.heap[b]? =some o
def eO (hp:List (Nat×aC)) (c d:SV):Prop:=c.aZ=d.aZ/\∀ρ w B,Holds hp ρ w B->∀x,aI ρ c x->∀i,Up ρ w B i->∃i',Up ρ w B i'/\(∀b o,i b=some o->i' b=some o)/\∃hg,aI (cW i' hg) d x
def pB (hp:List (Nat×aC)) (c d:List SV):Prop:=(∀z,ω cV c z=ω cV d z)/\∀ρ w B,Holds hp ρ w B->∀z,aw ρ c z->∀i,Up ρ w B i->∃i',Up ρ w B i'/\(∀b o,i b=some o->i' b=some o)/\∃hg,aw (cW i' hg) d z
def qF (sv:SV) (hp:List (Nat×aC)) (c:SV):Prop:=∀(ρ:bY) (w:World) (B:Nat),(∀k b,find hp k=some b->jl ρ w k b)->(∀k b x,find hp k=some b->b.wr=true->b.data.live=true->ρ.key k=some x->B<=x.1)->(∀b o,ρ.aW b=some o->w.heap[b]? =some o)->
 ∀v,Has ρ sv v->∃i hg,(∀b o,ρ.aW b=some o->i b=some o)/\(∀b o,i b=some o->ρ.aW b=some o\/(B<=b/\w.heap[b]? =some o))/\Has (cW i hg) c v
theorem Up.cA {ρ:bY} {w:World} {B:Nat} {i:Nat->Option Obj} (h:Up ρ w B i):jG i:=ρ.cA.mono h.le
theorem Up.refl (ρ:bY) (w:World) (B:Nat):Up ρ w B ρ.aW:=⟨λ_ _ h=>h,λ_ _ h=>.inl h⟩
theorem I4 {c d:SV} (h:c.aZ=d.aZ) (x:List Value):cV c x=cV d x:=by simp[cV,h]
theorem eO.bI {hp:List (Nat×aC)} {c:SV} (h:bI c=true):eO hp c c:=
 ⟨rfl,λρ _ _ _ x hx i hi=>⟨i,hi,λ_ _ h=>h,hi.cA,nE (ρ:=ρ) (ρ':=cW i hi.cA) hi.le c x h hx⟩⟩
theorem eO.via {hp:List (Nat×aC)} {c d e:SV} (h:∀ρ x,aI ρ c x->aI ρ d x) (h1:c.aZ=d.aZ) (hd:eO hp d e):eO hp c e:=
 ⟨h1.trans hd.1,λρ w B hh x hx i hi=>hd.2 ρ w B hh x (h ρ x hx) i hi⟩
theorem pB.nil {hp:List (Nat×aC)}:pB hp [] []:=⟨λz=>rfl,λρ w B _ z hz i hi=>⟨i,hi,λ_ _ h=>h,hi.cA,by simpa only[aw]using hz⟩⟩
theorem pB.cons {hp:List (Nat×aC)} {c d:SV} {l m:List SV} (h:eO hp c d) (hl:pB hp l m):pB hp (c::l) (d::m):=by
 refine⟨λz=>by cases z with|nil=>rfl|cons x z=>simp only[List.zipWith_cons_cons,hl.1 z,I4 h.1],λρ w B hh z hz i hi=> ?_⟩;simp only[aw]at hz;obtain⟨x,r,rfl,h1,h2⟩:=hz;obtain⟨i1,u1,e1,g1,k1⟩:=h.2 ρ w B hh x h1 i hi;obtain⟨i2,u2,e2,g2,k2⟩:=hl.2 ρ w B hh r h2 i1 u1;exact⟨i2,u2,λb o hb=>e2 b o (e1 b o hb),g2,by simp only[aw];exact⟨x,r,rfl,aI.mono (vc e2 g1 g2) _ _ k1,k2⟩⟩
theorem eO.agg {hp:List (Nat×aC)} {l m:List SV} (h:pB hp l m):eO hp (.agg l) (.agg m):=
 ⟨rfl,λρ w B hh x hx i hi=>by
  simp only[aI]at hx;obtain⟨z,h1,rfl⟩:=hx;obtain⟨i',u,e,g,k⟩:=h.2 ρ w B hh z h1 i hi
  exact⟨i',u,e,g,by simp only[aI];exact⟨z,k,rfl⟩⟩⟩
theorem qF.one {hp:List (Nat×aC)} {c d:SV} (hc:bs c=true) (hd:bs d=true) (h:eO hp c d):qF c hp d:=by
 intro ρ w B h1 h2 h3 v hv;obtain⟨x,hx,rfl⟩:=(l8 hc).1 hv;obtain⟨i,u,_,g,k⟩:=h.2 ρ w B ⟨h1,h2,h3⟩ x hx ρ.aW (Up.refl ρ w B);exact⟨i,g,u.le,u.new,(l8 hd).2 ⟨x,k,I4 h.1 x⟩⟩
theorem qF.bQ {hp:List (Nat×aC)} {l m:List SV} (h:pB hp l m):qF (.bQ l) hp (.bQ m):=by
 intro ρ w B h1 h2 h3 v hv;simp only[Has]at hv;obtain⟨z,hz,rfl⟩:=hv;obtain⟨i,u,_,g,k⟩:=h.2 ρ w B ⟨h1,h2,h3⟩ z hz ρ.aW (Up.refl ρ w B);exact⟨i,g,u.le,u.new,by simp only[Has];exact⟨z,k,by rw[h.1]⟩⟩
theorem qF.pC {hp:List (Nat×aC)} {c d:SV} (h:au c d) (hk:bI d=true):qF c hp d:=by
 intro ρ w B h1 h2 h3 v hv;exact⟨ρ.aW,ρ.cA,λ_ _ h=>h,λ_ _ h=>.inl h,pn (ρ:=ρ) (ρ':=cW ρ.aW ρ.cA) (λ_ _ h=>h) d v hk (h ρ v hv)⟩
theorem Up.add {ρ:bY} {w:World} {B b:Nat} {o:Obj} {i:Nat->Option Obj} (hi:Up ρ w B i) (hm:∀b o,ρ.aW b=some o->w.heap[b]? =some o) (hb:B<=b) (ho:w.heap[b]? =some o):
  Up ρ w B (λc=>if c=b then some o else i c)/\∀c p,i c=some p->(if c=b then some o else i c)=some p:=by
 have h2:∀c p,i c=some p->(if c=b then some o else i c)=some p:=by
  intro c p hc;by_cases h:c=b
  ·subst h;rw[if_pos rfl];rcases hi.new _ _ hc with h1|h1
   ·rw[hm _ _ h1]at ho;cases ho;rfl
   ·rw[h1.2]at ho;cases ho;rfl
  ·rw[if_neg h];exact hc
 refine⟨⟨λc p hc=>h2 c p (hi.le c p hc),λc p hc=> ?_⟩,h2⟩;by_cases h:c=b
 ·subst h;simp only[if_true,κ]at hc;subst hc;exact .inr ⟨hb,ho⟩
 ·simp only[if_neg h]at hc;exact hi.new c p hc
theorem Ek {xs:List SV} (h:aS xs=true) (l n:Nat):aS (ik xs l n)=true:=by
 have key:∀xs:List SV,aS xs=true↔∀x∈xs,bI x=true:=by
  intro xs;induction xs with
  |nil=>simp[aS]
  |cons x xs ih=>simp[aS,ih]
 rw[key]at h ⊢;exact λx hx=>h x (Ψ (Θ hx))
theorem bO {α:Type} {f:α->SV} (h:∀x,bI (f x)=true) (l:List α):aS (l.map f)=true:=by
 induction l with
 |nil=>rfl
 |cons x l ih=>simp[aS,h,ih]
theorem uF {k w n i:Nat} {ty:TypeId} {d:Data} {xs:List SV} {ρ:bY} {W:World} {x:List Value} (hb:jl ρ W k ⟨ty,true,d⟩) (he:js d=some xs) (hw:dx d=some w) (ph:aS xs=true)
  (hn:i+n<=xs.length) (hx:aI ρ (.aM k w i n) x):
  (n=0/\∃a,x=[.slice a 0 0])\/∃b t o,ρ.key k=some (b,t)/\W.heap[b]? =some o/\∀j hg,(∀b o,ρ.aW b=some o->j b=some o)->j b=some o->aI (cW j hg) (fh w (ik xs i (i+n))) x:=by
 simp only[aI]at hx;rcases hx with⟨b,t,cap,h1,h2,h3,rfl⟩|hx
 ·rcases hb with h0|⟨b',t',vs,ex,g1,g2,g3,g4,g5⟩|⟨g1,_⟩
  ·cases d<;>simp[Data.live,js]at h0 he
  ·rw[h1]at g1;cases g1;rw[show({ty:=ty,wr:=true,data:=d}:aC).data.obj (vs++ex) ty= .cells (vs++ex).toArray ty (0,0)from Data.cK (by cases d<;>first|rfl|(simp[js]at he)) _ _]at g2;obtain⟨z,z1,rfl,z3⟩:=M6 he hw g3;have rR:z.length=xs.length:=da z1;have X4:=gk xs z z1 z3;refine .inr ⟨b,t,_,h1,g2,λj hg hj hjb=> ?_⟩;simp only[aI];refine .inr ⟨hg,b,cap,(z.drop i).take (i+n - i),(z.take i).flatten,(z.drop (i+n)).flatten++ex,ty,(0,0), ?_, ?_,λy hy=>z3 y (Ψ (Θ hy)), ?_, ?_, ?_⟩
   ·show j b=_;rw[hjb];congr 3;rw[<-abA,<-abA,<-ϝ,<-ϝ];congr 2;have:z.drop (i+n)=(z.drop i).drop (i+n - i):=by rw[afZ];congr 1;omega
    rw[this,abA,ϟ,ϟ]
   ·exact cx (ρ:=ρ) (ρ':=cW j hg) hj _ _ (Ek ph i (i+n)) (jJ _ (mm _ z1))
   ·rw[ik,ψ,ϗ];omega
   ·have uz:((z.take i).flatten).length=i*w:=by
     rw[aO (s:=w) _ (λu hu=>X4 u (Θ hu)),ψ,rR,acR aa]
    have agH:(z.flatten++ex).length=((z.take i).flatten).length+(((z.drop i).take (i+n - i)).flatten++((z.drop (i+n)).flatten++ex)).length:=by
     rw[<-ξ,<-abA,<-abA,<-ϝ,<-ϝ];congr 3;have:z.drop (i+n)=(z.drop i).drop (i+n - i):=by rw[afZ];congr 1;omega
     rw[this,abA,ϟ,ϟ]
    rw[g4,uz]at agH;rw[gx]at h3;omega
   ·have uz:((z.take i).flatten).length=i*w:=by
     rw[aO (s:=w) _ (λu hu=>X4 u (Θ hu)),ψ,rR,acR aa]
    have FF:(ik xs i (i+n)).length=n:=by rw[ik,ψ,ϗ];omega
    rw[uz,FF]
  ·rw[h1]at g1;cases g1
 ·exact .inl hx
theorem eO.aM {hp:List (Nat×aC)} {k w n i:Nat} {ty:TypeId} {d:Data} {xs:List SV} (hf:find hp k=some ⟨ty,true,d⟩) (he:js d=some xs) (hw:dx d=some w) (ph:aS xs=true) (hn:i+n<=xs.length):
  eO hp (.aM k w i n) (fh w (ik xs i (i+n))):=by
 refine⟨rfl,λρ W B hh x hx i' hi=> ?_⟩;have hl:d.live=true:=by cases d<;>simp[js]at he<;>rfl
 rcases uF (hh.blk k _ hf) he hw ph hn hx with⟨rfl,a,rfl⟩|⟨b,t,o,h1,h2,h3⟩
 ·exact⟨i',hi,λ_ _ h=>h,hi.cA,by simp only[aI];exact .inl ⟨by simp[ik],a,rfl⟩⟩
 ·obtain⟨u,zL⟩:=hi.add hh.aW (hh.own k _ _ hf rfl hl h1) h2;exact⟨_,u,zL,u.cA,h3 _ u.cA u.le (by simp)⟩
theorem im {xs:List SV} {n:Nat} (h:n=xs.length):ik xs 0 (0+n)=xs:=by
 subst h;simp[ik]
abbrev bN {α:Type} (w:Nat) (f:α->SV) (xs:List α):SV:=fh w (xs.map f)
abbrev bx (qs:List Rat):SV:=bN 5 .frac qs
def gB (kd:IntKind) (x:Int):SV:=.val (.int kd x)
abbrev gP (kd:IntKind) (xs:List Int):SV:=bN 1 (gB kd) xs
theorem eO.cf {hp:List (Nat×aC)} {k n:Nat} {ty:TypeId} {qs:List Rat} (hf:find hp k=some ⟨ty,true,.cf qs⟩) (hn:n=qs.length):eO hp (.aM k 5 0 n) (bx qs):=by
 have:=eO.aM (i:=0) (n:=n) hf rfl rfl (bO (λ_=>rfl) qs) (by simp;omega);rwa [im (by simp;omega)]at this
theorem eO.ints {hp:List (Nat×aC)} {k n:Nat} {ty:TypeId} {kd:IntKind} {xs:List Int} (hf:find hp k=some ⟨ty,true,.ints kd xs⟩) (hn:n=xs.length):eO hp (.aM k 1 0 n) (gP kd xs):=by
 have:=eO.aM (i:=0) (n:=n) hf rfl rfl (bO (λ_=>rfl) xs) (by simp;omega);rwa [im (by simp;omega)]at this
theorem eO.seq {hp:List (Nat×aC)} {k n w:Nat} {ty:TypeId} {xs:List SV} (hf:find hp k=some ⟨ty,true,.seq w xs⟩) (ph:aS xs=true) (hn:n=xs.length):eO hp (.aM k w 0 n) (fh w xs):=by
 have:=eO.aM (i:=0) (n:=n) hf rfl rfl ph aa;rwa [im hn]at this
theorem eO.aam {hp:List (Nat×aC)} {w:Nat} {a:Option Addr}:eO hp (.val (.slice a 0 0)) (fh w []):=
 eO.via (d:=fh w []) (λρ x hx=>by simp only[aI]at hx ⊢;exact .inl ⟨rfl,a,hx.1⟩) rfl (eO.bI rfl)
theorem jP {E:Env} (t k:Nat) {c:Code} {K:bF} {fr:List (Nat×SV)} {hp:List (Nat×aC)} {ty:TypeId} {d:Data} {w i n:Nat} {xs:List SV} (hW:∀b,¬E.W0 b) (ht:lk fr t=some (.aM k w i n)) (hk:find hp k=some ⟨ty,true,d⟩)
  (he:js d=some xs) (hw:dx d=some w) (ph:aS xs=true) (hn:i+n<=xs.length) (hs:dY E c K ((t,fh w (ik xs i (i+n)))::fr) (fi hp k ⟨ty,true,.dead⟩)):dY E c K fr hp:=by
 refine⟨λa W hR=>hs.run a W ?_⟩;have hl:d.live=true:=by cases d<;>simp[js]at he<;>rfl
 obtain⟨ρ,hext,hfx,hR⟩:=hR;have FN:(fn fr hp (.k k)).blk=some ⟨ty,true,d⟩:=by simp only[fn,LV.blk];exact hk
 have hv:=hR.fr t _ (by simp only[fn,LV.sv];exact ht);obtain⟨x,hx,hxv⟩:=(l8 (c:=.aM k w i n) rfl).1 hv;have fX:∀j b,(fn ((t,fh w (ik xs i (i+n)))::fr) (fi hp k ⟨ty,true,.dead⟩) (.k j)).blk=some b->(j=k/\b=⟨ty,true,.dead⟩)\/(j≠k/\(fn fr hp (.k j)).blk=some b):=by
  intro j b hb;simp only[fn,LV.blk,bS]at hb ⊢;by_cases hj:j=k
  ·rw[if_pos hj]at hb;exact .inl ⟨hj,(abU hb).symm⟩
  ·rw[if_neg hj]at hb;exact .inr ⟨hj,hb⟩
 have fin:∀ρ':bY,ρ'.key=ρ.key->(∀b o,ρ.aW b=some o->ρ'.aW b=some o)->(∀b o,ρ'.aW b=some o->ρ.aW b=some o\/E.w0.heap.size<=b)->(∀b o,ρ'.aW b=some o->W.heap[b]? =some o)->
   (∀j b x,j≠k->(fn fr hp (.k j)).blk=some b->b.wr=true->b.data.live=true->ρ.key j=some x->ρ'.aW x.1=none)->(∀D,W.heap[D]? =some (.deferred (some []))->ρ.aW D=none->ρ'.aW D=none)->Has ρ' (fh w (ik xs i (i+n))) (a.tmps.getD t undef)->
   RR E (fn ((t,fh w (ik xs i (i+n)))::fr) (fi hp k ⟨ty,true,.dead⟩)) a W:=by
  intro ρ' bZ himm gi hheap kU hmark hhas;have hle:ρ.Le ρ':=⟨λj y hy=>by rw[bZ];exact hy,himm⟩;refine⟨ρ',⟨hext.le.trans hle,λb o hb=>(gi b o hb).elim (λh=>hext.aW b o h) .inr,λj hj=>by rw[bZ];exact hext.fix j hj⟩,λj hj=> ?_,{defers:= ?_,size:=hR.size,fr:= ?_,bE:=hR.bE,hp:= ?_}⟩
  ·have:=hfx j hj;simp only[fn,LV.blk,bS]at this ⊢;split
   ·simp
   ·exact this
  ·obtain⟨Ds,d1,d2,d3⟩:=hR.defers;refine⟨Ds,d1,d2,λD hD=> ?_⟩;obtain⟨e1,e2,e3⟩:=d3 D hD;refine⟨e1,e2, ?_⟩;exact hmark D e2 e3
  ·intro u sv hu;simp only[fn,LV.sv,lk]at hu;cases hb:ϋ t u with
   |true=>
    rw[hb]at hu;simp only[κ]at hu;subst hu;rw[<-χ hb];exact hhas
   |false=>rw[hb]at hu;exact Has.mono hle _ _ (hR.fr u sv (by simp only[fn,LV.sv];exact hu))
  ·constructor
   ·intro j b hb;rcases fX j b hb with⟨rfl,rfl⟩|⟨hj,hb⟩
    ·exact .inl rfl
    ·rcases hR.hp.blk j b hb with g0|⟨b',t',vs,ex,g1,g2,g3,g4⟩|⟨g1,g2⟩
     ·exact .inl g0
     ·exact .inr (.inl ⟨b',t',vs,ex,by rw[bZ];exact g1,g2,g3.mono hle,g4⟩)
     ·exact .inr (.inr ⟨by rw[bZ];exact g1,g2⟩)
   ·intro j j' y y' b b' hy IU a8 hyy hb ie iT iD;rw[bZ]at hy IU;rcases fX j b hb with⟨_,rfl⟩|⟨_,hb⟩
    ·cases iT
    rcases fX j' b' ie with⟨_,rfl⟩|⟨_,ie⟩
    ·cases iD
    exact hR.hp.sep j j' y y' b b' hy IU a8 hyy hb ie iT iD
   ·intro j b y hb hwr iT hy;rw[bZ]at hy;rcases fX j b hb with⟨_,rfl⟩|⟨_,hb⟩
    ·cases iT
    exact hR.hp.own j b y hb hwr iT hy
   ·intro j y hy;rw[bZ]at hy;obtain⟨b,hb⟩:=hR.hp.wW j y hy;simp only[fn,LV.blk,bS]at hb ⊢;split
    ·exact⟨_,rfl⟩
    ·exact⟨b,hb⟩
   ·exact hheap
   ·intro j b y hb hwr iT hy;rw[bZ]at hy;rcases fX j b hb with⟨_,rfl⟩|⟨hj,hb⟩
    ·cases iT
    exact kU j b y hj hb hwr iT hy
 rcases uF (hR.hp.blk k _ FN) he hw ph hn hx with⟨rfl,ad,rfl⟩|⟨b,t',o,h1,h2,h3⟩
 ·refine fin ρ rfl (λ_ _ h=>h) (λ_ _ h=>.inl h) hR.hp.aW (λj b y _ hb hwr iT hy=>hR.hp.fB j b y hb hwr iT hy) (λ_ _ h=>h) ?_;rw[hxv];exact yI (.inl ⟨by simp[ik],ad,by simp[cV,SV.aZ]⟩)
 ·have hB:E.w0.heap.size<=b:=(hR.hp.own k _ _ FN rfl hl h1).resolve_right (hW _);obtain⟨u,zL⟩:=(Up.refl ρ W E.w0.heap.size).add hR.hp.aW hB h2;refine fin ⟨ρ.key,_,u.cA⟩ rfl u.le (λb o hb=>(u.new b o hb).imp id (λh=>h.1)) (λc p hc=> ?_) (λj blk y hj hb hwr iT hy=> ?_) (λD O7 hD2=> ?_) ?_
  ·rcases u.new c p hc with h|h
   ·exact hR.hp.aW c p h
   ·exact h.2
  ·show(if y.1=b then some o else ρ.aW y.1)=none;rw[if_neg]
   ·exact hR.hp.fB j blk y hb hwr iT hy
   ·intro he2;have:=hR.hp.sep k j (b,t') y _ _ h1 hy (λh=>hj h.symm) he2.symm FN hb hl iT;cases this
  ·show(if D=b then some o else ρ.aW D)=none;rw[if_neg,hD2];rintro rfl;rcases hR.hp.blk k _ FN with g0|⟨b',t'',vs,ex,g1,g2,_⟩|⟨g1,_⟩
   ·rw[show Data.live d=false from g0]at hl;cases hl
   ·rw[h1]at g1;cases g1;rw[O7]at g2;exact Data.lO (abU g2).symm
   ·rw[h1]at g1;cases g1
  ·rw[hxv];refine(l8 (c:=fh w (ik xs i (i+n))) rfl).2 ⟨x, ?_,by simp[cV,SV.aZ,MO]⟩;exact aI.mono (qG ⟨ρ.key,_,u.cA⟩ u.cA) _ _ (h3 _ u.cA u.le (by simp))
theorem adp {P:Program} {T:List (TypeId×TI)} {Z:List Nat} (hT:dz P T) (hm:P.follows .mixedOrders=true) {f:FuncId} {fn':Func} {code:Code} (hf:P.funcs[f]? =some fn') (hb:fn'.body=some code)
  (hn:(fn'.name== "runtime.NumGoroutine")=false) {args:List SV} {c:SV} (ha:aS args=true) (hc:bI c=true) (hnt:agG args.length fn'.ntmps=true) (hpass:args.all bs=true)
  (h:∀w0 ρ0,Env.OK ⟨P,T,λ_=>False,w0,fn'.ntmps,ρ0,[],Z,none⟩->Ee ⟨P,T,λ_=>False,w0,fn'.ntmps,ρ0,[],Z,none⟩ code (N9 T fn'.results.toList λsv hp=>qF sv hp c) (enum 0 args) []):aL P f args [] c [] []:=by
 have OM:=abW hnt;refine .inl ⟨⟨fn',hf,hn,by rw[hb];rfl⟩,λρ w z hz Ei=> ?_⟩
 let ρ1:bY:=⟨λ_=>none,ρ.aW,ρ.cA⟩
 let E:Env:=⟨P,T,λ_=>False,w,fn'.ntmps,ρ1,[],Z,none⟩
 have hE:E.OK:=⟨hT,hm,λk x hx=>by cases hx⟩;have rR:z.length=args.length:=by
  clear h hnt OM hpass ha;induction args generalizing z with
  |nil=>simp only[aw]at hz;subst hz;rfl
  |cons c l ih=>simp only[aw]at hz;obtain⟨x,r,rfl,_,h⟩:=hz;simp[ih r h]
 have MW:=cx (ρ:=ρ) (ρ':=ρ1) (λb o hb=>hb) args z ha hz;have oc:∀(l:List SV) (y:List (List Value)),aw ρ1 l y->l.all bs=true->∀(j:Nat) (c:SV),l[j]? =some c->∃v,(ω cV l y)[j]? =some v/\Has ρ1 c v:=by
  intro l;induction l with
  |nil=>intro y _ _ j c h;simp at h
  |cons d l ih=>
   intro y hy hp j c hj;simp only[aw]at hy;obtain⟨x,r,rfl,g1,g2⟩:=hy;simp only[af7,Μ]at hp;cases j with
   |zero=>
    simp at hj;subst hj;refine⟨cV d x,by simp, ?_⟩;have hp1:=hp.1;cases d<;>simp[bs]at hp1<;>simp only[Has]<;>exact⟨x,g1,rfl⟩
   |succ j=>simpa using ih r g2 hp.2 j c (by simpa using hj)
 have qn:((ω cV args z).toArray++aca (fn'.ntmps - (ω cV args z).toArray.size) undef).size=fn'.ntmps:=by
  simp[rR];omega
 have hR:R E.W0 E.w0 E.n ρ1 (fn (enum 0 args) []) {tmps:=(ω cV args z).toArray++aca (fn'.ntmps - (ω cV args z).toArray.size) undef,defers:=[]} w:={
  defers:=.nil
  size:=qn
  fr:=λt sv ht=>by
   simp only[fn,LV.sv]at ht;obtain⟨_,h2⟩:=vx args 0 t sv ht;obtain⟨v,h3,h4⟩:=oc args z MW hpass t sv (by simpa using h2);have aE:t<(ω cV args z).length:=(Ϩ.1 h3).1;have:((ω cV args z).toArray++aca (fn'.ntmps - (ω cV args z).toArray.size) undef).getD t undef=v:=by
    rw[Ϻ,agY (by simpa using aE)];simp[h3]
   rw[this];exact h4
  bE:=.refl _ _
  hp:={
   blk:=λk b hb=>by simp[fn,find,LV.blk]at hb
   sep:=λk k' x x' b b' hx=>by cases hx
   own:=λk b x hb=>by simp[fn,find,LV.blk]at hb
   wW:=λk x hx=>by cases hx
   aW:=Ei.aW
   fB:=λk b x hb=>by simp[fn,find,LV.blk]at hb}}
 have Uy:=jM hE code _ _ _ (h w ρ1 hE) _ w ⟨ρ1,⟨.refl _,λb o hb=>.inl hb,(λ_ h=>by cases h)⟩,(λ_ h=>by cases h),hR⟩;refine l7 (E:=E) rfl hf hb (λ_ _ _ h=>h) (λ_ _ h=>h) Uy ?_;rintro e a' w' hdf ⟨fr',cl,hK,ρ',hext,_,lN⟩;have fin:∀ob l,mH T fr' cl fn'.results.toList=some (ob,l)->DS ob->qF (uc l) cl c->a'.defers=[]/\∃v,(results fn' a'.tmps).run P w'= .ok v w'/\∃v' ρ'',ajf v= .returned v'/\kN ρ w c [] [] v' ρ'' w':=by
  intro ob l h1 h2 h3;obtain⟨v,r1,r2⟩:=nL hE lN h1 h2;obtain⟨i2,hg,u1,u2,u3⟩:=h3 ρ' w' w.heap.size (λk b hk=>lN.hp.blk k b (by simp only[fn,LV.blk];exact hk)) (λk b x hk hw hl hx=>(lN.hp.own k b x (by simp only[fn,LV.blk];exact hk) hw hl hx).resolve_right (λh=>h)) lN.hp.aW v r2;refine⟨hdf,v,r1,v,⟨ρ.key,i2,hg⟩,rfl,⟨⟨λk x hx=>hx,λb o hb=>u1 b o (hext.le.aW b o hb)⟩, ?_,λ_ _=>rfl, ?_,(λk b h=>by rcases h with h|h<;>cases h),(λ_ _ _ h=>by cases h),(λk b x h=>by cases h),(λk b k' b' x x' h=>by cases h), ?_⟩⟩
  ·exact pn (ρ:=cW i2 hg) (ρ':=⟨ρ.key,i2,hg⟩) (λb o hb=>hb) c v hc u3
  ·exact lN.bE.mono (λb _ hb=>hb.elim)
  ·intro b o hb;rcases u2 b o hb with h4|⟨h4,h5⟩
   ·rcases hext.aW b o h4 with h4|h4
    ·exact .inl h4
    ·exact .inr ⟨h4,lN.hp.aW b o aJ,λk blk x h=>by cases h⟩
   ·exact .inr ⟨h4,h5,λk blk x h=>by cases h⟩
 cases e<;>simp only[N9]at hK<;>simp only[bodyPost]
 ·split at hK
  ·rename_i ob l hl;exact fin ob l hl (cy hK).1 (cy hK).2
  ·exact hK.elim
 ·split at hK
  ·rename_i ob l hl;exact fin ob l hl (cy hK).1 (cy hK).2
  ·exact hK.elim
section
variable {P:Program} {o:Oper} {ft:List (Nat×SV)} {fk:List (Nat×aC)} {w:Nat} {α:Type} {f:α->SV} {xs:List α}
theorem U7 {x:Operand} {t:TypeId} {xs':Array Operand} {ts:Array TypeId} {ti:TI} {e:TypeId} (ho:o.op= .call ⟨.builtin .len,xs',ts⟩) (hxs:xs'= #[x]) (po:ts= #[t]) (hx:bg ft x (bN w f xs)) (ht:b6 P t ti)
  (hk:ti.kind= .aM e):bR P o ft fk (.val (.int .i64 (xs.length:Int))) [] []:=by
 have:=UZ (fk:=fk) ho hxs po hx ht hk;rwa [Χ]at this
theorem rX {t e:TypeId} {x ix:Operand} {ti te:TI} {kd:IntKind} {j:Int} {d:α} (ho:o.op= .indexAddr t x ix) (hx:bg ft x (bN w f xs)) (hi:bg ft ix (.val (.int kd j)))
  (ht:b6 P t ti) (hk:ti.kind= .aM e) (he:b6 P e te) (hs:te.size=w) (hj:0<=j/\j<(xs.length:Int)):bR P o ft fk (b9 [f (xs.getD j.toNat d)]) [] []:=
 MP ho hx hi ht hk he hs hj.1 (by rw[Χ];exact hj.2) (by
  have h1:j.toNat<xs.length:=aa
  simp[δ,φ h1])
theorem iW {t e:TypeId} {x ix:Operand} {ti te:TI} {kd:IntKind} {j:Nat} {d:α} (ho:o.op= .indexAddr t x ix) (hx:bg ft x (bN w f xs)) (hi:bg ft ix (.val (.int kd (j:Int))))
  (ht:b6 P t ti) (hk:ti.kind= .aM e) (he:b6 P e te) (hs:te.size=w) (hj:j<xs.length):bR P o ft fk (b9 [f (xs.getD j d)]) [] []:=by
 have:=rX (fk:=fk) (d:=d) ho hx hi ht hk he hs ⟨aa,aa⟩;rwa [ι]at this
theorem CP {t e:TypeId} {x:Operand} {lo hi mx:Option Operand} {ti te:TI} {l h:Int} (ho:o.op= .slice t x lo hi mx) (hx:bg ft x (bN w f xs))
  (FG:lo=none/\l=0\/∃y kd,lo=some y/\bg ft y (.val (.int kd l))) (BX:hi=none/\h=xs.length\/∃y kd,hi=some y/\bg ft y (.val (.int kd h)))
  (hmx:mx=none\/(hi≠none/\∃y kd,mx=some y/\bg ft y (.val (.int kd h))))
  (ht:b6 P t ti) (hk:ti.kind= .aM e) (he:b6 P e te) (hs:te.size=w) (hb:0<=l/\l<=h/\h<=(xs.length:Int)):bR P o ft fk (bN w f ((xs.drop l.toNat).take (h.toNat - l.toNat))) [] []:=by
 have:=MR (fk:=fk) ho hx FG (by rw[Χ];exact BX) hmx ht hk he hs hb.1 hb.2.1 (by rw[Χ];exact hb.2.2);rwa [ik,<-ahO,<-ahM]at this
end
section
variable {P:Program} {f:FuncId} {args:List SV} {hp:List (Nat×aC)} {o:Oper} {fr:List (Nat×SV)} {c:SV}
abbrev yx (hp fk:List (Nat×aC)):Prop:=∀j b,(j,b)∈fk->find hp j=some b
abbrev vG (hp new:List (Nat×aC)):Prop:=∀j b,(j,b)∈new->find hp j=none
abbrev mK (fk upd:List (Nat×aC)):Prop:=∀j b,(j,b)∈upd->∃b0:aC,(j,b0)∈fk/\b0.wr=true/\b0.data.live=true/\b.wr=true
theorem aN {k:SV->List (Nat×aC)->List (Nat×aC)->List (Nat×aC)->Prop} (h:aL P f args [] c [] []) (hk:k c [] [] []):
  ∃fk c new upd,aL P f args fk c new upd/\yx hp fk/\vG hp new/\mK fk upd/\k c fk new upd:=⟨[],c,[],[],h,aF,ak,ar,hk⟩
theorem od {k:SV->List (Nat×aC)->List (Nat×aC)->List (Nat×aC)->Prop} {a:Nat} {A:aC} (h:aL P f args [(a,A)] c [] []) (ha:find hp a=some A) (hk:k c [(a,A)] [] []):
  ∃fk c new upd,aL P f args fk c new upd/\yx hp fk/\vG hp new/\mK fk upd/\k c fk new upd:=⟨[(a,A)],c,[],[],h,eB ha,ak,ar,hk⟩
theorem oe {k:SV->List (Nat×aC)->List (Nat×aC)->List (Nat×aC)->Prop} {b:Nat} {B:aC} (h:aL P f args [] c [(b,B)] []) (hb:find hp b=none) (hk:k c [] [(b,B)] []):
  ∃fk c new upd,aL P f args fk c new upd/\yx hp fk/\vG hp new/\mK fk upd/\k c fk new upd:=⟨[],c,[(b,B)],[],h,aF,eh hb,ar,hk⟩
theorem KN {k:SV->List (Nat×aC)->List (Nat×aC)->List (Nat×aC)->Prop} {a b:Nat} {A B:aC} (h:aL P f args [(a,A)] c [(b,B)] []) (ha:find hp a=some A) (hb:find hp b=none) (hk:k c [(a,A)] [(b,B)] []):
  ∃fk c new upd,aL P f args fk c new upd/\yx hp fk/\vG hp new/\mK fk upd/\k c fk new upd:=⟨[(a,A)],c,[(b,B)],[],h,eB ha,eh hb,ar,hk⟩
theorem x0 {k:SV->List (Nat×aC)->List (Nat×aC)->List (Nat×aC)->Prop} {a:Nat} {ty ty':TypeId} {d d':Data} (h:aL P f args [(a,⟨ty,true,d⟩)] c [] [(a,⟨ty',true,d'⟩)]) (ha:find hp a=some ⟨ty,true,d⟩) (hl:d.live=true)
  (hk:k c [(a,⟨ty,true,d⟩)] [] [(a,⟨ty',true,d'⟩)]):
  ∃fk c new upd,aL P f args fk c new upd/\yx hp fk/\vG hp new/\mK fk upd/\k c fk new upd:=
 ⟨[(a,⟨ty,true,d⟩)],c,[],[(a,⟨ty',true,d'⟩)],h,eB ha,ak,(λj b hm=>by
  simp only[μ,ς]at hm;obtain⟨rfl,rfl⟩:=hm
  exact⟨_,η ..,rfl,hl,rfl⟩),hk⟩
theorem adq {k:SV->List (Nat×aC)->List (Nat×aC)->List (Nat×aC)->Prop} {a b:Nat} {A B:aC} (h:aL P f args [(a,A),(b,B)] c [] []) (ha:find hp a=some A) (hb:find hp b=some B) (hk:k c [(a,A),(b,B)] [] []):
  ∃fk c new upd,aL P f args fk c new upd/\yx hp fk/\vG hp new/\mK fk upd/\k c fk new upd:=
 ⟨[(a,A),(b,B)],c,[],[],h,(λj c hm=>by
  simp only[Λ,ς,afT,or_false]at hm
  rcases hm with⟨rfl,rfl⟩|⟨rfl,rfl⟩<;>assumption),ak,ar,hk⟩
theorem an {k:SV->List (Nat×aC)->List (Nat×aC)->List (Nat×aC)->Prop} (h:bR P o fr [] c [] []) (hk:k c [] [] []):
  ∃c fk new upd,bR P o fr fk c new upd/\yx hp fk/\vG hp new/\mK fk upd/\k c fk new upd:=⟨c,[],[],[],h,aF,ak,ar,hk⟩
end
end Go.Sx
namespace Go.Sx
open Go.ChangeShapes Go.WideShapes
theorem Aj {P:Program} {W:World} {name:String} {k:IntKind} {zs:List Int} {g:Nat} (hg:P.globalNamed name=some g) (h:ags P W name k zs):∃ty fz,W.heap[g]? =some (.cells (zs.map λx=>adt k x).toArray ty fz):=by
 unfold ags al9 at h;rw[hg]at h;simp only[akR]at h;cases ho:W.heap[g]? with
 |none=>rw[ho]at h;cases h
 |some o=>
  rw[ho]at h;cases o<;>simp_all
theorem aan {P:Program} {W:World} {name:String} {k:IntKind} {zs:List Int} {g:Nat} (hg:P.globalNamed name=some g) {ty:TypeId} {fz:Nat×Nat} (h:W.heap[g]? =some (.cells (zs.map λx=>adt k x).toArray ty fz)):ags P W name k zs:=by
 unfold ags al9;rw[hg];simp only[akR,h]
theorem Gs {W:World} (h:zz W):jG (λb=>W.heap[b]?):=by
 intro g kd l hm;obtain⟨o,h1,h2⟩:=U6 h g kd l hm;refine⟨o, ?_,h2⟩;have h1:(if ou.any (λt=>t.1==g)then W.heap[g]? else none)=some o:=h1;show W.heap[g]? =some o;split at h1
 ·exact h1
 ·cases h1
def pD {W:World} (h:zz W):bY:=cW _ (Gs h)
theorem O8 {P:Program} {f:FuncId} {args:List SV} {W:World} (hf:FY P f) (h:aL P f args [] (.val (.bool true)) [] [])
  (hg:zz W) {z:List (List Value)} (hz:aw (pD hg) args z):
  Calls P f (ω cV args z).toArray W λe w'=>e= .returned (.bool true)/\aeR W.heap.size W w':=by
 refine(h.calls hf hz ⟨(λk b hb=>by cases hb),(λk k' x x' b b' hb=>by cases hb),(λb o hb=>hb),(λk b x hb=>by cases hb),(λk b hb=>by cases hb)⟩).mono ?_;rintro e w' ⟨v,ρ',rfl,hp⟩;refine⟨by rw[aK hp.has], ?_⟩;exact(hp.bE.mono (W':=λ_=>False) (λb _ ⟨k,blk,t,hm,_⟩=>by cases hm)).below
section
variable {H:Type} {enc:TypeId×Value->H} {P:Program} {W:World} {hg:zz W}
def ug (enc:TypeId×Value->H) (P:Program) (hg:zz W) (t:TypeId) {α:Type} (f:α->SV) (fu:α->Prop):Prop:=
 ∀fuel cs x,DataW.trod enc P W 0 (λ_=>true) true fuel t cs=some x->∃y,fu y/\aI (pD hg) (f y) cs
theorem ug.int {t:TypeId} {k:IntKind} (ht:P.underlying t=some (.int k)):ug enc P hg t (gB k) (λn=>(Ϸ k n).wf=true):=λfuel cs x h=>by
 obtain⟨n,rfl,_,hw⟩:=DataW.trod_int ht h;exact⟨n,hw,by simp[gB,aI,aaq]⟩
def bel (b:Bool):SV:=.val (.bool b)
theorem ug.bool {t:TypeId} (ht:P.underlying t=some .bool):ug enc P hg t bel (λ_=>True):=λfuel cs x h=>by
 obtain⟨n,rfl,_⟩:=DataW.trod_bool ht h;exact⟨n,trivial,by simp[bel,aI,aaq]⟩
def ag2 {α β:Type} (f:α->SV) (g:β->SV) (p:α×β):SV:=.agg [f p.1,g p.2]
def agL {α:Type} (f:α->SV) (l:List α):SV:=.agg (l.map f)
theorem Ak {ρ:bY} {α:Type} {f:α->SV} {n w:Nat} {cs:List Value} (B9:cs.length=n*w) {y:Nat->α} (h:∀i,i<n->aI ρ (f (y i)) ((cs.drop (i*w)).take w)):∃z,aw ρ (((Η n).map y).map f) z/\z.flatten=cs:=by
 induction n generalizing cs y with
 |zero=>exact⟨[],by simp[aw],by simp at B9;simp[B9]⟩
 |succ n ih=>
  have h0:=h 0 aa;rw[aeC,List.drop_zero]at h0
  obtain⟨z,z1,z2⟩:=ih (cs:=cs.drop w) (y:=λi=>y (i+1)) (by rw[ϗ,B9,ϯ];omega) (λi hi=>by
   have:=h (i+1) aa;rw[afZ,show w+i*w=(i+1)*w from by rw[ϯ];omega]
   exact this)
  refine⟨cs.take w::z, ?_,by rw[List.flatten_cons,z2,ϟ]⟩;rw[List.range_succ_eq_map,ϲ,ϲ,show alC y (alC Nat.succ (Η n))=alC (λi=>y (i+1)) (Η n)from by rw[List.map_map];rfl];simp only[aw];exact⟨_,_,rfl,h0,z1⟩
theorem ug.array {t e:TypeId} {n:Nat} {α:Type} {f:α->SV} {fu:α->Prop} (ht:P.underlying t=some (.array n e)) (hc:P.cellsOf t=n*P.cellsOf e) (h:ug enc P hg e f fu):
  ug enc P hg t (agL f) (λl=>l.length=n/\∀x∈l,fu x):=λfuel cs x hx=>by
 obtain⟨xs,m,rfl,_,hlen,UN,hf⟩:=DataW.trod_array ht hx;have pk:∀i,i<n->∃y,fu y/\aI (pD hg) (f y) ((cs.drop (i*P.cellsOf e)).take (P.cellsOf e)):=λi hi=>by
  have h1:=hf i hi;rw[φ aa]at h1;exact h _ _ _ h1
 by_cases hn:n=0
 ·subst hn;refine⟨[],⟨rfl,λx hx=>by cases hx⟩, ?_⟩;simp only[agL,aI];rw[hc,aeC]at hlen;exact⟨[],by simp[aw],by simpa using hlen⟩
 ·obtain⟨d,_⟩:=pk 0 aa;have:∀i,∃y,i<n->fu y/\aI (pD hg) (f y) ((cs.drop (i*P.cellsOf e)).take (P.cellsOf e)):=λi=>by
   by_cases hi:i<n
   ·obtain⟨y,hy⟩:=pk i hi;exact⟨y,λ_=>hy⟩
   ·exact⟨d,λh=>absurd h hi⟩
  obtain⟨y,hy⟩:=ajr this;obtain⟨z,z1,z2⟩:=Ak (ρ:=pD hg) (f:=f) (by rw[hlen,hc]) (λi hi=>(hy i hi).2);refine⟨(Η n).map y,⟨by simp,λx hx=> ?_⟩, ?_⟩
  ·obtain⟨i,hi,rfl⟩:=abo.1 hx;exact(hy i (af4.1 hi)).1
  ·simp only[agL,aI];exact⟨z,z1,z2.symm⟩
theorem ug.slice {t e:TypeId} {w:Nat} {α:Type} {f:α->SV} {fu:α->Prop} (ht:P.underlying t=some (.slice e)) (hc:P.cellsOf e=w) (KO:w≠0) (hw:∀x,(f x).width=w) (h:ug enc P hg e f fu):
  ug enc P hg t (bN w f) (λl=>l.length<=maxLen/\∀x∈l,fu x):=λfuel cs x hx=>by
 rcases Deep.open_slice ht hx with⟨rfl,_⟩|⟨a,len,cap,m,n,D,Pl,rfl,hb,hl,hm,hmm,rfl,pk⟩
 ·exact⟨[],⟨Γ _,λx hx=>by cases hx⟩,by simp only[aI];exact .inl ⟨rfl,none,rfl⟩⟩
 ·rw[if_pos rfl]at hmm;have hel:∀i,i<cap->∃y,fu y/\∃cs',W.cells? 0 (a.add (i*w)) w=some cs'/\aI (pD hg) (f y) cs':=λi hi=>by
   obtain⟨cs',h1,h2⟩:=pk i aa;obtain⟨y,y1,y2⟩:=h _ _ _ h2;exact⟨y,y1,cs',by rw[<-hc];exact h1,y2⟩
  by_cases hcap:cap=0
  ·subst hcap;obtain rfl:len=0:=aa;exact⟨[],⟨Γ _,λx hx=>by cases hx⟩,by simp only[aI];exact .inl ⟨rfl,some a,rfl⟩⟩
  ·-- the block
   have zD:∀i j,i<cap->j<w->∃v,W.cell? (a.add (i*w+j))=some v:=λi j hi hj=>by
    obtain⟨y,_,cs',h1,_⟩:=hel i hi;obtain⟨_,hlen,hv⟩:=akS h1;have:=hv j hj;rw[alX,φ aa]at this;exact⟨_,this⟩
   obtain⟨v0,O9⟩:=zD 0 0 aa aa;have adr:a.add (0*w+0)=a:=by simp[Addr.add]
   rw[adr]at O9;obtain⟨b,off,sp⟩:=a;have fQ:∃arr ty fz,W.heap[b]? =some (.cells arr ty fz)/\sp=none:=by
    unfold aj9 at O9;simp only at O9;split at O9
    ·rename_i c ty fz hh;refine⟨c,ty,fz,hh, ?_⟩;cases sp with
     |none=>rfl
     |some q=>simp at O9
    ·cases O9
   obtain⟨arr,ty,fz,hheap,rfl⟩:=fQ;have oc:∀k,W.cell? ⟨b,k,none⟩=arr[k]? :=λk=>cell_of_row W b k arr ty fz hheap
   have bZ:∀k,k<cap*w->∃v,arr[off+k]? =some v:=λk hk=>by
    have hi:k/w<cap:=Nat.div_lt_of_lt_mul (by rw[Ϣ];exact hk);obtain⟨v,hv⟩:=zD (k/w) (k % w) hi (ab8 _ aa);rw[qQ,oc,Ϣ,abp]at hv;exact⟨v,hv⟩
   have qn:off+cap*w<=arr.size:=by
    have jh:0<cap*w:=agj aa aa;obtain⟨v,hv⟩:=bZ (cap*w - 1) aa;have:=(Array.getElem?_eq_some_iff.1 hv).1;omega
   have zI:∀i,i<cap->∀cs',W.cells? 0 ((⟨b,off,none⟩:Addr).add (i*w)) w=some cs'->cs'=((arr.toList.drop off).drop (i*w)).take w:=λi hi cs' h1=>by
    obtain⟨_,hlen,hv⟩:=akS h1;have hiw:i*w+w<=cap*w:=by have:=ο w (alg hi);rwa [ϯ]at this
    apply ajj;intro j;by_cases hj:j<w
    ·have h2:=hv j hj;rw[alX,qQ,oc]at h2;rw[List.getElem?_take_of_lt hj,afZ,akN,<-af1]at*;rw[<-Array.getElem?_toList]at h2;exact h2.symm
    ·rw[Ϙ aa,Ϙ (by rw[ψ];omega)]
   obtain⟨d,_⟩:=hel 0 aa;have hch:∀i,∃y,i<cap->fu y/\aI (pD hg) (f y) (((arr.toList.drop off).drop (i*w)).take w):=λi=>by
    by_cases hi:i<cap
    ·obtain⟨y,y1,cs',h1,h2⟩:=hel i hi;rw[zI i hi cs' h1]at h2;exact⟨y,λ_=>⟨y1,h2⟩⟩
    ·exact⟨d,λh=>absurd h hi⟩
   obtain⟨y,hy⟩:=ajr hch;have hlw:len*w<=cap*w:=ο _ hl
   obtain⟨z,z1,z2⟩:=Ak (ρ:=pD hg) (f:=f) (n:=len) (w:=w) (cs:=(arr.toList.drop off).take (len*w)) (by rw[ψ,ϗ,ϭ];omega) (y:=y) (λi hi=>by
    have h1:=(hy i aa).2;have hiw:i*w+w<=len*w:=by have:=ο w (alg hi);rwa [ϯ]at this
    rw[List.drop_take,List.take_take,acR aa]
    exact h1)
   refine⟨(Η len).map y,⟨by simp;omega,λx hx=> ?_⟩, ?_⟩
   ·obtain⟨i,hi,rfl⟩:=abo.1 hx;exact(hy i (by have:=af4.1 hi;omega)).1
   ·simp only[aI];refine .inr ⟨Gs hg,b,cap,z,arr.toList.take off,(arr.toList.drop off).drop (len*w),ty,fz, ?_,z1,λx hx=> ?_, ?_, ?_, ?_⟩
    ·show W.heap[b]? =_;rw[hheap,z2,ϟ,ϟ]
    ·obtain⟨u,_,rfl⟩:=abo.1 hx;exact hw u
    ·simp;exact hl
    ·rw[z2,ϟ,ϗ,ϭ];omega
    ·simp only[Χ,List.length_range,ψ,ϭ];rw[acR aa]
end
end Go.Sx
namespace Go.Sx
structure agN (p:Nat):Prop where
 two:2<=p
 div:∀d,d ∣ p->d=1\/d=p
end Go.Sx
namespace Go.Sx
def x7 (d:Data) (i:Nat) (d2:Data) (i2 c:Nat):Option Data:=
 match d,d2 with
 |.ints k xs,.ints k' ys=>if k'=k then some (.ints k (xs.take i++((ys.drop i2).take c++xs.drop (i+c))))else none
 |.cf xs,.cf ys=>some (.cf (xs.take i++((ys.drop i2).take c++xs.drop (i+c))))
 |.seq w xs,.seq w' ys=>if w'=w then some (.seq w (xs.take i++((ys.drop i2).take c++xs.drop (i+c))))else none
 |_,_=>none
theorem pE {ρ:bY} {d d2 d':Data} {i i2 c s s2:Nat} {z z2:List (List Value)} (h:x7 d i d2 i2 c=some d') (hz:Rows ρ s d z) (nu:Rows ρ s2 d2 z2):Rows ρ s d' (z.take i++((z2.drop i2).take c++z.drop (i+c)))/\s2=s:=by
 unfold x7 at h;split at h
 ·split at h
  ·rename_i hk;subst hk;simp only[κ]at h;subst h;simp only[Rows]at hz nu ⊢;obtain⟨rfl,rfl⟩:=hz;obtain⟨rfl,rfl⟩:=nu;exact⟨⟨rfl,by simp[ahM,ahO]⟩,rfl⟩
  ·simp at h
 ·simp only[κ]at h;subst h;simp only[Rows]at hz nu ⊢;obtain⟨rfl,rfl⟩:=hz;obtain⟨rfl,rfl⟩:=nu;exact⟨⟨rfl,by simp[ahM,ahO]⟩,rfl⟩
 ·split at h
  ·rename_i hk;subst hk;simp only[κ]at h;subst h;simp only[Rows]at hz nu ⊢;obtain⟨rfl,h1,h2⟩:=hz;obtain⟨rfl,h3,h4⟩:=nu;refine⟨⟨rfl,c9 (jJ i h1) (c9 (jJ c (mm i2 h3)) (mm _ h1)), ?_⟩,rfl⟩;intro x hx;rcases ϖ.1 hx with hx|hx
   ·exact h2 x (Θ hx)
   ·rcases ϖ.1 hx with hx|hx
    ·exact h4 x (Ψ (Θ hx))
    ·exact h2 x (Ψ hx)
  ·simp at h
 ·simp at h
theorem Gt {ρ:bY} {s:Nat} {d:Data} {z:List (List Value)} (h:Rows ρ s d z) (hz:z.length=0):d.empty:=by
 have hl:=h.len.1;rw[hz]at hl;cases d<;>simp only[Rows]at h<;>simp only[Data.empty]
 all_goals exact List.length_eq_zero_iff.1 hl.symm
section
variable {P:Program} {o:Oper} {fr:List (Nat×SV)} {fk:List (Nat×aC)}
theorem I5 {ρ:bY} {w:World} {k s i n:Nat} {blk:aC} {v:Value} (hv:Has ρ (.aM k s i n) v) (hb:jl ρ w k blk) (hl:blk.data.live=true) (hw:dx blk.data=some s) (oy:i+n<=gu blk.data):
  ∃z,Rows ρ s blk.data z/\(∀c,c<=n->(Ω s c v).run P w= .ok (((z.drop i).take c).flatten).toArray w)/\Builtin.lenOf v=Pure.pure n:=by
 obtain⟨z,hz,hcase⟩:=kT hb hl hw;obtain⟨zl,zw⟩:=hz.len;refine⟨z,hz, ?_⟩;rcases gN hv with⟨b,t,cap,e1,e2,e3,rfl⟩|⟨rfl,a,rfl⟩
 ·rcases hcase with⟨b',t',ex,h1,h2,h3,h4⟩|⟨h1,_⟩
  ·rw[e1]at h1;cases h1;refine⟨λc hc=> ?_,rfl⟩;have zI:((z.drop i).take c).flatten=(z.flatten.drop (i*s)).take (c*s):=by
    rw[cL (s:=s) _ _ (λu hu=>zw u (Ψ hu)),gO (s:=s) _ _ zw]
   have hlen:(((z.drop i).take c).flatten).length=c*s:=by
    rw[aO (s:=s) _ (λu hu=>zw u (Ψ (Θ hu))),ψ,ϗ];congr 1;omega
   refine run_firstCells_some (P:=P) w s c _ n cap _ hlen ?_;intro j u hj;have hZ:(⟨b,i*s,none⟩:Addr).add j=⟨b,i*s+j,none⟩:=by unfold Addr.add;split<;>simp_all
   rw[hZ,cell_of_row w b (i*s+j) _ blk.ty (0,0) h2];have h6:=nI zI j u hj;have aE:i*s+j<z.flatten.length:=(Ϩ.1 h6).1;simp only[ό];rw[ϳ aE];exact h6
  ·rw[e1]at h1;cases h1
 ·refine⟨λc hc=> ?_,rfl⟩;obtain rfl:c=0:=aa;cases a with
  |none=>simp[Ω]
  |some a=>simp[Ω,loadCells,loadCellsFrom]
theorem KP {ρ:bY} {w:World} {k b t s:Nat} {blk:aC} (hb:jl ρ w k blk) (hl:blk.data.live=true) (hw:dx blk.data=some s) (hk:ρ.key k=some (b,t)):
  ∃z ex,Rows ρ s blk.data z/\w.heap[b]? =some (.cells (z.flatten++ex).toArray blk.ty (0,0))/\(z.flatten++ex).length=t/\(∀v∈ex,v.oneCell'=true):=by
 obtain⟨z,hz,hcase⟩:=kT hb hl hw;rcases hcase with⟨b',t',ex,h1,h2,h3,h4⟩|⟨h1,_⟩
 ·rw[hk]at h1;cases h1;exact⟨z,ex,hz,h2,h3,h4⟩
 ·rw[hk]at h1;cases h1
theorem rY {t t2 e ty:TypeId} {x y:Operand} {xs:Array Operand} {ts:Array TypeId} {ti te:TI} {k k2 i n i2 m c:Nat} {d d':Data} {blk2:aC} (ho:o.op= .call ⟨.builtin .copy,xs,ts⟩) (hxs:xs= #[x,y]) (po:ts= #[t,t2])
  (hx:bg fr x (.aM k te.size i n)) (hy:bg fr y (.aM k2 te.size i2 m)) (ht:b6 P t ti) (hk:ti.kind= .aM e) (he:b6 P e te)
  (hf:(k,⟨ty,true,d⟩)∈fk) (KC:(k2,blk2)∈fk) (hl:d.live=true) (iD:blk2.data.live=true) (hw:dx d=some te.size) (pq:dx blk2.data=some te.size)
  (hn:i+n<=gu d) (hm:i2+m<=gu blk2.data) (hc:c=Nat.min m n) (hd:x7 d i blk2.data i2 c=some d'):
  bR P o fr fk (.val (.int .i64 (c:Nat))) [] [(k,⟨ty,true,d'⟩)]:=
 dU λρ a w hp=>by
  have Gb:=hx ρ a hp.dR;have ML:=hy ρ a hp.dR;have hu:=ht.kind;rw[hk]at hu;have hcm:c<=m:=hc▸Nat.min_le_left _ _;have hcn:c<=n:=hc▸Nat.min_le_right _ _;obtain⟨z2,nu,gw,eg⟩:=I5 (P:=P) ML (hp.oq k2 _ KC) iD pq hm;have Gu:=gw c hcm;obtain⟨zl2,zw2⟩:=nu.len;have jn:∀u∈(z2.drop i2).take c,u.length=te.size:=λu hu=>zw2 u (Ψ (Θ hu))
  have ij:((z2.drop i2).take c).length=c:=by rw[ψ,ϗ];omega
  have gr:∀v w',(ahr ts o.type #[a.eval x,a.eval y]).run P w= .ok v w'->(execOp a.eval o).run P w= .ok (.value v) w':=by
   intro v w' h;simp only[execOp,ho,resolve,invoke,builtin,hxs,Β,Ε,ν,List.map_toArray,ϲ,af6];rw[h];rfl
  have w9:∀v∈(((z2.drop i2).take c).flatten),v.oneCell'=true:=λu hu=>by
   obtain⟨q,hq,hu⟩:=List.mem_flatten.1 hu;exact nu.zA q (Ψ (Θ hq)) u hu
  rcases gN Gb with⟨b,t',cap,e1,e2,e3,hv⟩|⟨rfl,a',hv⟩
  ·obtain⟨z,ex,hz,g1,g2,g3⟩:=KP (hp.oq k _ hf) hl hw e1;obtain⟨zl,zw⟩:=hz.len;simp only at zl;have ct:=(pE hd hz nu).1;have FF:(((z2.drop i2).take c).flatten).length=c*te.size:=by rw[aO _ jn,ij]
   have zJ:i*te.size+c*te.size<=(z.flatten++ex).length:=by
    have:=ο te.size (show i+c<=i+cap by omega);rw[gx]at this;omega
   have nv:=run_storeCells_at (P:=P) b (i*te.size) ty (((z2.drop i2).take c).flatten) 0 (z.flatten++ex).toArray w g1 (by simp only[af5];omega) w9;have rR:z.flatten.length=z.length*te.size:=aO _ zw;have aao:(i+c)*te.size<=z.flatten.length:=by
    rw[rR];exact ο _ aa
   have hiz:i*te.size<=z.flatten.length:=by
    rw[rR];exact ο _ aa
   have hL:(z.flatten++ex).take (i*te.size)++((z2.drop i2).take c).flatten++(z.flatten++ex).drop (i*te.size+(((z2.drop i2).take c).flatten).length)=(z.take i++((z2.drop i2).take c++z.drop (i+c))).flatten++ex:=by
    rw[FF,<-gx,List.take_append_of_le_length hiz,List.drop_append_of_le_length aao,ϝ,ϝ,cL _ _ zw,gO _ _ zw];simp only[abA]
   simp only[Nat.add_zero,hL]at nv;refine⟨goInt c,w.setRow b ((z.take i++((z2.drop i2).take c++z.drop (i+c))).flatten++ex).toArray,ρ,gr _ _ ?_, ?_⟩
   ·simp only[ahr,po,hv,ό,ϑ,ϥ,Β,run_underlying hu,ν,eg,Ε,he.sizeOf];rw[<-hc,Gu];simp only[ν,nv]
   ·refine⟨.refl ρ,ck rfl,λ_ _=>rfl,⟨rfl,rfl,rfl,by simp[World.setRow],λj hj hnj=> ?_⟩,λj bj hj=> ?_,(λj c1 c2 h1 h2 h3 h4=> ?_),(λ_ _ _ h=>by cases h),(λ_ _ _ _ _ _ h=>by cases h),λb o h=>.inl h⟩
    ·refine dh λX0=>hnj ⟨k,_,t',η .., ?_⟩
     rw[X0];exact e1
    ·rcases hj with hj|hj
     ·simp only[μ,ς]at hj;obtain⟨rfl,rfl⟩:=hj;refine .inr (.inl ⟨b,t',_,ex,e1,by rw[Data.cK ct.eS];exact dC g1,ct.data, ?_,g3⟩);rw[<-g2,ξ,ξ,aO _ ct.len.2,rR];congr 2;rw[ξ,ξ,ψ,ϗ,ij];omega
     ·cases hj
    ·simp only[μ,ς]at h1 h2;obtain⟨_,rfl⟩:=h1;obtain⟨_,rfl⟩:=h2;rw[h3]at h4;cases h4
  ·obtain rfl:c=0:=aa;obtain⟨z,hz,hcase⟩:=kT (hp.oq k _ hf) hl hw;have ct:=(pE hd hz nu).1;have CQ:z.take i++((z2.drop i2).take 0++z.drop (i+0))=z:=by simp
   rw[CQ]at ct;refine⟨goInt 0,w,ρ,gr _ _ ?_, ?_⟩
   ·simp only[ahr,po,hv,ό,ϑ,ϥ,Β,run_underlying hu,ν,eg,Ε,he.sizeOf];rw[<-hc,Gu];cases a' with
    |none=>simp[goInt]
    |some a'=>simp[goInt,storeCells]
   ·refine⟨.refl ρ,ck rfl,λ_ _=>rfl,.refl _ _,λj bj hj=> ?_,(λj c1 c2 h1 h2 h3 h4=> ?_),(λ_ _ _ h=>by cases h),(λ_ _ _ _ _ _ h=>by cases h),λb o h=>.inl h⟩
    ·rcases hj with hj|hj
     ·simp only[μ,ς]at hj;obtain⟨rfl,rfl⟩:=hj;rcases hcase with⟨b',t',ex,h1,h2,h3,h4⟩|⟨h1,h2⟩
      ·exact .inr (.inl ⟨b',t',_,ex,h1,by rw[Data.cK ct.eS];exact h2,ct.data,h3,h4⟩)
      ·refine .inr (.inr ⟨h1, ?_⟩);exact Gt ct (by rw[h2];rfl)
     ·cases hj
    ·simp only[μ,ς]at h1 h2;obtain⟨_,rfl⟩:=h1;obtain⟨_,rfl⟩:=h2;rw[h3]at h4;cases h4
end
structure SWb (E:Env) (c:Code) (K:bF) (fr:List (Nat×SV)) (hp:List (Nat×aC)):Prop where
 run:∀a w,RR E (fn fr hp) a w->∀b k cs,b.roundOf=(Ku E.ro).round->∃e a' w',xY E K e a' w'/\ArrivesIn (ak3 E.P (Ku E.ro)) E.P (lone (b.atR a (.code c:: .inLoop c::k)) cs w) b k cs e a' w'
end Go.Sx
namespace Go.Sx
def aA (xs:List Int):Nat->Int
 |0=>0
 |k+1=>aA xs k+xs.getD k 0*4294967296^k
def gQ (xs:List Int):Prop:=∀i,0<=xs.getD i 0/\xs.getD i 0<4294967296
theorem aT {xs:List Int} {i j:Nat} {v:Int}:(xs.set i v).getD j 0=if i=j/\j<xs.length then v else xs.getD j 0:=by
 simp only[δ,List.getElem?_set];split
 ·rename_i h;subst h;split
  ·rename_i h1;simp[h1]
  ·rename_i h1;simp[h1]
 ·rename_i h;simp[h]
theorem ep {xs:List Int} {i:Nat} (h:xs.length<=i):xs.getD i 0=0:=by
 simp[δ,Ϙ h]
theorem getD_take {xs:List Int} {i k:Nat}:(xs.take k).getD i 0=if i<k then xs.getD i 0 else 0:=by
 simp only[δ,ahL];split<;>simp
theorem lf {xs ys:List Int} {i:Nat}:(xs++ys).getD i 0=if i<xs.length then xs.getD i 0 else ys.getD (i - xs.length) 0:=by
 simp only[δ];split
 ·rename_i h;rw[ϳ h]
 ·rename_i h;rw[afW aa]
theorem bA {n i:Nat}:(θ n (0:Int)).getD i 0=0:=by
 simp only[δ,aii];split<;>rfl
theorem gQ.set {xs:List Int} (h:gQ xs) {i:Nat} {v:Int} (h0:0<=v) (h1:v<4294967296):gQ (xs.set i v):=by
 intro j;rw[aT];split
 ·exact⟨h0,h1⟩
 ·exact h j
theorem El {xs:List Int} (h:∀x∈xs,0<=x/\x<4294967296):gQ xs:=by
 intro i;rw[δ];cases hx:xs[i]? with
 |none=>simp
 |some v=>simpa using h v (List.mem_of_getElem? hx)
theorem gQ.mem {xs:List Int} (h:gQ xs):∀x∈xs,0<=x/\x<4294967296:=by
 intro x hx;obtain⟨i,hi⟩:=List.getElem?_of_mem hx;have:=h i;rw[δ,hi]at this;exact this
theorem uG {xs ys:List Int}:∀{k:Nat},(∀i,i<k->xs.getD i 0=ys.getD i 0)->aA xs k=aA ys k
 |0,_=>rfl
 |k+1,h=>by rw[aA,aA,uG (λi hi=>h i aa),h k aa]
theorem dw {xs:List Int} {i k:Nat} {v:Int} (h:k<=i):aA (xs.set i v) k=aA xs k:=
 uG λj hj=>by rw[aT,if_neg aa]
theorem cj {xs:List Int} (h:gQ xs):∀k,0<=aA xs k
 |0=>Int.le_refl _
 |k+1=>by
  have:=cj h k;have h1:0<=xs.getD k 0*4294967296^k:=Int.mul_nonneg (h k).1 (Int.pow_nonneg ax);rw[aA];omega
theorem oG (k:Nat):(0:Int)<4294967296^k:=alq ax
theorem iG {xs:List Int} (h:gQ xs):∀k,aA xs k<4294967296^k
 |0=>by simp[aA]
 |k+1=>by
  have h1:=iG h k;have h2:xs.getD k 0*4294967296^k<=4294967295*4294967296^k:=acQ (by have:=(h k).2;omega) (ahD (oG k));rw[aA,ϫ];omega
theorem fv {xs:List Int} {k:Nat}:∀{n:Nat},(∀i,k<=i->i<n->xs.getD i 0=0)->k<=n->aA xs n=aA xs k
 |0,_,hk=>by obtain rfl:k=0:=aa
             rfl
 |n+1,h,hk=>by
  by_cases he:k=n+1
  ·subst he;rfl
  ·rw[aA,h n aa aa,fv (n:=n) (λi h1 h2=>h i h1 aa) aa,ajT,ajU]
def ji (xs:List Int):Nat->Nat
 |0=>0
 |n+1=>if xs.getD n 0=0 then ji xs n else n+1
theorem Em (xs:List Int):∀n,ji xs n<=n
 |0=>ζ _
 |n+1=>by rw[ji];split;exact Nat.le_succ_of_le (Em xs n);exact ζ _
theorem vH (xs:List Int):∀n,aA xs (ji xs n)=aA xs n
 |0=>rfl
 |n+1=>by
  rw[ji];split
  ·rename_i h;rw[vH xs n,aA,h,ajT,ajU]
  ·rfl
theorem Al (xs:List Int):∀n,ji xs n=0\/xs.getD (ji xs n - 1) 0≠0
 |0=>.inl rfl
 |n+1=>by
  rw[ji];split
  ·exact Al xs n
  ·rename_i h;exact .inr h
theorem vI {xs:List Int} (h:gQ xs) {k:Nat} (ht:xs.getD k 0≠0):4294967296^k<=aA xs (k+1):=by
 have h1:=cj h k;have h2:1*4294967296^k<=xs.getD k 0*4294967296^k:=acQ (by have:=(h k).1;omega) (ahD (oG k));rw[aA];omega
theorem vJ:∀(f g n:Nat),n<=f->n<=g->cZ f n=cZ g n
 |0,0,_,_,_=>rfl
 |0,g+1,n,h,_=>by obtain rfl:n=0:=aa
                  simp[cZ]
 |f+1,0,n,_,h=>by obtain rfl:n=0:=aa
                  simp[cZ]
 |f+1,g+1,n,h,h'=>by
  unfold cZ;split
  ·rfl
  ·rw[vJ f g (n/4294967296) aa aa]
theorem I7 {n:Nat} (h:n≠0):words n=n % 4294967296::words (n/4294967296):=by
 unfold words;obtain⟨m,rfl⟩:∃m,n=m+1:=⟨n - 1,aa⟩;rw[cZ,if_neg h,vJ m ((m+1)/4294967296) _ aa (ζ _)]
def af (n:Nat):List Int:=(words n).map Int.ofNat
theorem iL:af 0=[]:=rfl
theorem iM {n:Nat} (h:n≠0):af n=((n % 4294967296:Nat):Int)::af (n/4294967296):=by
 rw[af,I7 h];rfl
theorem xe (x:Int) (xs:List Int):∀k,aA (x::xs) (k+1)=x+4294967296*aA xs k
 |0=>by simp[aA]
 |k+1=>by
  rw[aA,xe x xs k,aA,abt,ϫ];grind
theorem fJ (n:Nat):aA (af n) (af n).length=n:=by
 induction n using aiI with
 |_ n ih=>
  by_cases h:n=0
  ·subst h;rfl
  ·rw[iM h,ϊ,xe,ih _ aa];omega
theorem aY (n:Nat):gQ (af n):=by
 refine El λx hx=> ?_
 obtain⟨w,hw,rfl⟩:=abo.1 hx;have:=Ac hw;exact⟨Int.natCast_nonneg _,by show(w:Int)<_;omega⟩
theorem vK (n:Nat):(af n).length=(words n).length:=by simp[af]
theorem oH {n:Nat} (h:n≠0):(af n).length≠0/\(af n).getD ((af n).length - 1) 0≠0:=by
 induction n using aiI with
 |_ n ih=>
  rw[iM h];refine⟨by simp, ?_⟩;by_cases h1:n/4294967296=0
  ·rw[h1,iL];simp only[adg,af0,aeL];omega
  ·obtain⟨h2,h3⟩:=ih _ aa h1;obtain⟨l,hl⟩:∃l,(af (n/4294967296)).length=l+1:=⟨(af (n/4294967296)).length - 1,aa⟩;simp only[ϊ,hl,Nat.add_sub_cancel,abt];rw[hl]at h3;simpa using h3
theorem Am:∀(k:Nat) (xs:List Int),gQ xs->k<=xs.length->(k=0\/xs.getD (k - 1) 0≠0)->af (aA xs k).toNat=xs.take k
 |0,xs,_,_,_=>by simp[aA,iL]
 |k+1,[],_,h,_=>by simp at h
 |k+1,x::xs,hw,h,ht=>by
  have hx:=hw 0;simp only[aeL]at hx;have X9:gQ xs:=λi=>by have:=hw (i+1);simpa using this
  have hv:=cj X9 k
  have aap:=Am k xs X9 (by simpa using h) (by
   cases k with
   |zero=>exact .inl rfl
   |succ k=>right;have:=ht.resolve_left aa;simpa using this)
  have hn:(aA (x::xs) (k+1)).toNat≠0:=by
   have U8:=ht.resolve_left aa;have:=vI hw (k:=k) (by simpa using U8);have:=oG k;omega
  rw[iM hn,xe,List.take_succ_cons];have e1:(x+4294967296*aA xs k).toNat % 4294967296=x.toNat:=aa;have e2:(x+4294967296*aA xs k).toNat/4294967296=(aA xs k).toNat:=aa;rw[e1,e2,aap];congr 1;omega
theorem vM {hp:List (Nat×aC)} {k:Nat} {b:aC} (h:find hp k=some b):∀j c,(j,c)∈[(k,b)]->find hp j=some c:=eB h
theorem db (k:Nat):(((4294967296^k:Nat)):Int)=(4294967296:Int)^k:=by rw[Int.natCast_pow];rfl
theorem iX {n k:Nat} (h:n<4294967296^k):(af n).length<=k:=by
 by_cases hn:n=0
 ·subst hn;simp[iL]
 ·obtain⟨h1,h2⟩:=oH hn;obtain⟨l,hl⟩:∃l,(af n).length=l+1:=⟨(af n).length - 1,aa⟩;rw[hl]at h2;have h3:=vI (aY n) (k:=l) (by simpa using h2);rw[<-hl,fJ]at h3;refine Nat.le_of_not_lt λaE=> ?_
  have h4:(4294967296:Int)^k<=4294967296^l:=by
   have:(4294967296:Nat)^k<=4294967296^l:=Nat.pow_le_pow_right ax aa;rw[<-db,<-db];exact Int.ofNat_le.2 this
  have h5:(n:Int)<4294967296^k:=by rw[<-db];exact aiT.2 h
  omega
theorem cp (n:Nat):n<4294967296^(af n).length:=by
 have:=iG (aY n) (af n).length;rw[fJ,<-db]at this;exact aiT.1 this
def CR (fk:List (Nat×aC)):List (Nat×aC)->Bool
 |[]=>true
 |(k,_)::r=>(match find fk k with
  |some b0=>b0.wr&&b0.data.live
  |none=>false)&&CR fk r
def vN (upd:List (Nat×aC)):List (Nat×aC)->Bool
 |[]=>true
 |(k,b)::r=>(!(b.wr&&b.data.live)||(find upd k).isSome)&&vN upd r
theorem pF {fk:List (Nat×aC)}:∀{upd:List (Nat×aC)},CR fk upd=true->∀k b,(k,b)∈upd->∃b0,(k,b0)∈fk/\b0.wr=true/\b0.data.live=true
 |(j,c)::r,h,k,b,hm=>by
  simp only[CR,Μ]at h;rcases Λ.1 hm with h1|h1
  ·cases h1;cases hf:find fk j with
   |none=>rw[hf]at h;simp at h
   |some b0=>
    rw[hf]at h;simp only[Μ]at h;exact⟨b0,kO hf,h.1⟩
  ·exact pF h.2 k b h1
theorem pG {upd:List (Nat×aC)}:∀{fk:List (Nat×aC)},vN upd fk=true->∀k b,(k,b)∈fk->b.wr=true->b.data.live=true->∃b',(k,b')∈upd
 |(j,c)::r,h,k,b,hm,hw,hl=>by
  simp only[vN,Μ]at h;rcases Λ.1 hm with h1|h1
  ·cases h1;have:=h.1;rw[hw,hl]at this;cases hf:find upd j with
   |none=>rw[hf]at this;simp at this
   |some b0=>exact⟨b0,kO hf⟩
  ·exact pG h.2 k b h1 hw hl
theorem cb.of {args:List SV} {fk:List (Nat×aC)} {c:SV} {new upd:List (Nat×aC)} (h1:fD (il args) (az fk)=true) (h2:fD (jo fk) (az fk)=true) (h3:qW (az fk++az new)=true)
  (h4:vE new=true) (h5:vE upd=true) (h6:CR fk upd=true) (h7:vN upd fk=true) (h8:fD (refs c) (az fk++az new)=true) (h9:fD (jo new) (az fk++az new)=true)
  (h10:fD (jo upd) (az fk++az new)=true) (h11:args.all bs=true):cb args fk c new upd:=
 ⟨h1,h2,h3,h4,h5,pF h6,pG h7,h8,h9,h10,h11⟩
def CS:List (Nat×aC)->Bool
 |[]=>true
 |(_,b)::r=> !b.wr&&CS r
theorem pH:∀{l:List (Nat×aC)},CS l=true->∀k b,(k,b)∈l->b.wr=false
 |(j,c)::r,h,k,b,hm=>by
  simp only[CS,Μ,agk]at h;rcases Λ.1 hm with h1|h1
  ·cases h1;exact h.1
  ·exact pH h.2 k b h1
theorem bl.ro {fk:List (Nat×aC)} {σ:Nat->Nat} (h:CS fk=true):bl fk [] σ:=
 ⟨(λq q' b b' hq _ _ hw=>by rw[pH h q b hq]at hw;cases hw),(λ_ _ h=>by simp[az]at h),(λ_ _ h=>by simp[az]at h)⟩
theorem bl.one {m:Nat} {b:aC} {σ:Nat->Nat}:bl [] [(m,b)] σ:=
 ⟨(λq q' b b' hq=>by cases hq),(λm m' h1 h2 a8=>by simp[az]at h1 h2;omega),(λ_ _ _ h=>by simp[az]at h)⟩
theorem bl.Ya {fk:List (Nat×aC)} {m:Nat} {b:aC} {σ:Nat->Nat} (h:CS fk=true) (hn:∀q∈az fk,σ m≠σ q):bl fk [(m,b)] σ:=
 ⟨(λq q' b b' hq _ _ hw=>by rw[pH h q b hq]at hw;cases hw),(λm m' h1 h2 a8=>by simp[az]at h1 h2;omega),(λm' q h1 h2=>by
  have h1:m'=m:=by simpa [az]using h1
  rw[h1];exact hn q h2)⟩
theorem bl.upd {q:Nat} {b:aC} {σ:Nat->Nat}:bl [(q,b)] [] σ:=
 ⟨(λq q' b b' h h' a8=>by simp at h h';omega),(λ_ _ h=>by simp[az]at h),(λ_ _ h=>by simp[az]at h)⟩
theorem bl.two {q r:Nat} {b c:aC} {σ:Nat->Nat} (h:σ q≠σ r):bl [(q,b),(r,c)] [] σ:=
 ⟨(λx y b b' hx hy a8 _=>by
  simp only[Λ,afT,or_false,ς]at hx hy;rcases hx with⟨rfl,_⟩|⟨rfl,_⟩<;>rcases hy with⟨rfl,_⟩|⟨rfl,_⟩
  ·exact absurd rfl a8
  ·exact h
  ·exact h.symm
  ·exact absurd rfl a8),(λ_ _ h=>by simp[az]at h),(λ_ _ h=>by simp[az]at h)⟩
theorem gC {hp:List (Nat×aC)} {k l:Nat} {b c:aC} (h:find hp k=some b) (h':find hp l=some c):∀j d,(j,d)∈[(k,b),(l,c)]->find hp j=some d:=λj d hm=>by
 simp only[Λ,afT,or_false,ς]at hm;rcases hm with⟨rfl,rfl⟩|⟨rfl,rfl⟩
 ·exact h
 ·exact h'
theorem eT {fk:List (Nat×aC)} {k:Nat} {b0 b:aC} (h:(k,b0)∈fk) (h1:b0.wr=true) (h2:b0.data.live=true) (h3:b.wr=true):∀j c,(j,c)∈[(k,b)]->∃b0:aC,(j,b0)∈fk/\b0.wr=true/\b0.data.live=true/\c.wr=true:=λj c hm=>by
 simp only[μ,ς]at hm;obtain⟨rfl,rfl⟩:=hm;exact⟨b0,h,h1,h2,h3⟩
theorem rZ {fk:List (Nat×aC)} {k l:Nat} {b0 b c0 c:aC} (h:(k,b0)∈fk) (h1:b0.wr=true) (h2:b0.data.live=true) (h3:b.wr=true) (g:(l,c0)∈fk) (g1:c0.wr=true) (g2:c0.data.live=true) (g3:c.wr=true):
  ∀j d,(j,d)∈[(k,b),(l,c)]->∃b0:aC,(j,b0)∈fk/\b0.wr=true/\b0.data.live=true/\d.wr=true:=λj d hm=>by
 simp only[Λ,afT,or_false,ς]at hm;rcases hm with⟨rfl,rfl⟩|⟨rfl,rfl⟩
 ·exact⟨b0,h,h1,h2,h3⟩
 ·exact⟨c0,g,g1,g2,g3⟩
def bK (v n:Nat):List Int:=(Η n).map λi=>((v/4294967296^i % 4294967296:Nat):Int)
theorem dj (v n:Nat):(bK v n).length=n:=by simp[bK]
theorem lg {v n i:Nat} (h:i<n):(bK v n).getD i 0=((v/4294967296^i % 4294967296:Nat):Int):=by
 rw[δ,bK,ac4,List.getElem?_range h];rfl
theorem iq (v n:Nat):gQ (bK v n):=by
 refine El λx hx=> ?_
 obtain⟨i,_,rfl⟩:=abo.1 hx;omega
theorem Pa {xs:List Int} (hx:gQ xs) {n:Nat}:∀{k:Nat},k<=n->aA xs n % 4294967296^k=aA xs k:=by
 intro k hk;induction n with
 |zero=>
  obtain rfl:k=0:=aa;simp[aA]
 |succ n ih=>
  by_cases he:k=n+1
  ·subst he;exact ajw (cj hx _) (iG hx _)
  ·rw[aA,show n=k+(n - k)from aa,Int.pow_add,<-show n=k+(n - k)from aa,Int.mul_left_comm,ahJ];exact ih aa
theorem Pb {xs:List Int} (hx:gQ xs) {i n:Nat} (h:i<n):aA xs n/4294967296^i % 4294967296=xs.getD i 0:=by
 have h1:=Pa hx (n:=n) (k:=i+1) aa;have hp:=oG i;have e:aA xs n=aA xs (i+1)+4294967296^(i+1)*(aA xs n/4294967296^(i+1)):=by
  rw[<-h1];exact(Int.emod_add_mul_ediv _ _).symm
 have h0:=cj hx i;have hl:=iG hx i;have e2:aA xs n=aA xs i+4294967296^i*(xs.getD i 0+4294967296*(aA xs n/4294967296^(i+1))):=by
  conv=>lhs;rw[e]
  rw[aA,ϫ];grind
 rw[e2,Int.add_mul_ediv_left _ _ aa,Int.ediv_eq_zero_of_lt h0 hl,Int.zero_add,ahJ];exact ajw (hx i).1 (hx i).2
theorem U9 {xs:List Int} (hx:gQ xs) {v:Nat} (hv:aA xs xs.length=v):xs=bK v xs.length:=by
 refine ajj λi=> ?_
 by_cases hi:i<xs.length
 ·have h1:=Pb hx hi;have h2:=lg (v:=v) hi;rw[hv,<-db,<-afA,show((v/4294967296^i:Nat):Int) % 4294967296=((v/4294967296^i % 4294967296:Nat):Int)from rfl,<-h2,δ,δ]at h1;have hl:i<(bK v xs.length).length:=by rw[dj];exact hi
  rw[φ hi,φ hl]at h1 ⊢;simpa using h1.symm
 ·rw[Ϙ aa,Ϙ (by rw[dj];omega)]
theorem q7 {xs:List Int} {n:Nat} (hl:xs.length=n) (hx:gQ xs) {v:Nat} (hv:aA xs n=v):xs=bK v n:=by
 subst hl;exact U9 hx hv
theorem iY (v n:Nat):aA (bK v n) n=((v % 4294967296^n:Nat):Int):=by
 have key:∀k,k<=n->aA (bK v n) k=((v % 4294967296^k:Nat):Int):=by
  intro k hk;induction k with
  |zero=>simp[aA,Nat.mod_one]
  |succ k ih=>
   rw[aA,ih aa,lg aa,<-db,<-Ρ,<-Ϫ,ϙ,Nat.mod_mul,Ϣ (4294967296^k)]
 exact key n (ζ n)
theorem oJ {xs:List Int} {i:Nat} {v:Int}:∀{n:Nat},i<n->i<xs.length->aA (xs.set i v) n=aA xs n+(v - xs.getD i 0)*4294967296^i
 |0,h,_=>aa
 |n+1,h,hl=>by
  by_cases he:i=n
  ·subst he;rw[aA,aA,dw (ζ _),aT,if_pos ⟨rfl,hl⟩];grind
  ·rw[aA,aA,oJ (n:=n) aa hl,aT,if_neg aa];grind
end Go.Sx
namespace Go.Sx
theorem wf_u32 {x:Int} (h:(Ϸ .u32 x).wf=true):0<=x/\x<4294967296:=by
 simp[Lit.wf,ajV,ajW,abG,aen]at h;omega
theorem wf_u8 {x:Int} (h:(Ϸ .u8 x).wf=true):0<=x/\x<256:=by
 simp[Lit.wf,ajV,ajW,abG,aen]at h;omega
theorem wf_i64 {x:Int} (h:(Ϸ .i64 x).wf=true): -9223372036854775808<=x/\x<9223372036854775808:=by
 simp[Lit.wf,ajV,ajW,abG,aen]at h;omega
theorem CT {P:Program} {W:World} {x:String×DataW Unit} {rest:List (String×DataW Unit)} (h:laidMet P (x::rest) W):laidMet P rest W:=by
 obtain⟨n,d⟩:=x;obtain⟨ps,⟨g,t,cs,fuel,p,q,_,_,_,_,hr,rfl⟩,hn,hb⟩:=h;exact⟨q,hr,(ae0.1 hn).2.1,λb off hm=>hb b off (ϖ.2 (.inr hm))⟩
section
variable {α:Type} {p:α->Bool} {l:List α} {d:α}
theorem eX {i:Nat} (h:i<l.length):l.getD i d∈l:=by rw[δ,φ h];exact List.getElem_mem h
theorem An {x:α} (h:x∈l) (d:α):∃i,i<l.length/\l.getD i d=x:=by
 obtain⟨i,hi,rfl⟩:=List.getElem_of_mem h;exact⟨i,hi,by rw[δ,φ hi];rfl⟩
theorem I8 {i:Nat} (h:i<l.length) (hp:p (l.getD i d)=true):l.any p=true:=alj.2 ⟨_,eX h,hp⟩
theorem Ao (d:α) (h:∀i,i<l.length->p (l.getD i d)=false):l.any p=false:=by
 rw[List.any_eq_false];intro x hx;obtain⟨i,hi,rfl⟩:=An hx d;rw[h i hi];exact afV
theorem Pc (d:α) (h:∀i,i<l.length->p (l.getD i d)=true):l.all p=true:=by
 rw[aiy];intro x hx;obtain⟨i,hi,rfl⟩:=An hx d;exact h i hi
theorem Pd {i:Nat} (h:i<l.length) (hp:p (l.getD i d)=false):l.all p=false:=by
 rw[List.all_eq_false];exact⟨_,eX (d:=d) h,by rw[hp];exact afV⟩
end
theorem bW {i:Nat} (h:i<4611686018427387904):ε.wrap ((i:Int)+1)=((i+1:Nat):Int):=by rw[wrap_i64 aa aa];omega
theorem gZ {i n:Nat} (h:i<n):decide ((i:Int)<(n:Int))=true:=decide_eq_true aa
theorem iH {i n:Nat} (h:¬i<n):decide ((i:Int)<(n:Int))=false:=decide_eq_false aa
theorem fG {α:Type} {d e:α} {r:List α} {i n:Nat} (hi:i<n) (hn:r.length=n):(r.take i++θ (n - i) d).set i (r.getD i e)=r.take (i+1)++θ (n - (i+1)) d:=by
 have hl:(r.take i).length=i:=by rw[ψ];omega
 rw[List.set_append_right _ _ aa,hl,af0,show n - i=(n - (i+1))+1 from aa,List.replicate_succ,List.set_cons_zero];have e:r.take (i+1)=r.take i++[r.getD i e]:=by rw[List.take_add_one,δ,φ aa];rfl
 rw[e,abA];rfl
theorem dW {α:Type} {d:α} {r:List α} {i n:Nat} (hi:i<=n) (hn:r.length=n):(r.take i++θ (n - i) d).length=n:=by simp;omega
theorem gD {α:Type} {d:α} {r:List α} {n:Nat} (hn:r.length=n):r.take n++θ (n - n) d=r:=by simp[<-hn]
theorem fw {α β γ:Type} {f:α->β->γ} {a:List α} {b:List β} {n:Nat} (ha:a.length=n) (hb:b.length=n):(ω f a b).length=n:=by simp[ha,hb]
theorem ma {α β γ:Type} {f:α->β->γ} {a:List α} {b:List β} {i:Nat} {d1:α} {d2:β} {d3:γ} (ha:i<a.length) (hb:i<b.length):(ω f a b).getD i d3=f (a.getD i d1) (b.getD i d2):=by
 simp[δ,List.getElem?_zipWith,φ ha,φ hb]
theorem cu {E:Env} (t k:Nat) {c:Code} {K:bF} {fr:List (Nat×SV)} {hp:List (Nat×aC)} {ty:TypeId} {n:Nat} {qs:List Rat} (hW:∀b,¬E.W0 b) (ht:lk fr t=some (.aM k 5 0 n)) (hk:find hp k=some ⟨ty,true,.cf qs⟩)
  (hn:n=qs.length) (hs:dY E c K ((t,bx qs)::fr) (fi hp k ⟨ty,true,.dead⟩)):dY E c K fr hp:=by
 refine jP t k (xs:=qs.map .frac) hW ht hk rfl rfl (bO (λ_=>rfl) qs) (by simp;omega) ?_;rw[im (by simp;omega)];exact hs
theorem kN.ic {ρ:bY} {w w':World} {c:SV} {v:Value} (hb:aeR w.heap.size w w') (h:Has ρ c v):kN ρ w c [] [] v ρ w':=
 ⟨.refl ρ,h,λ_ _=>rfl,.ic hb,(λk b h=>by rcases h with h|h<;>cases h),(λ_ _ _ h=>by cases h),(λk b x h=>by cases h),(λk b k' b' x x' h=>by cases h),λb o h=>.inl h⟩
theorem Ap {ρ:bY}:∀{vs:List Value} {z:List (List Value)},aw ρ (vs.map .val) z->ω cV (vs.map .val) z=vs
 |[],z,h=>by simp
 |v::vs,z,h=>by
  simp only[ϲ,aw,aI]at h;obtain⟨x,r,rfl,⟨rfl,_⟩,h2⟩:=h;simp[Ap h2,cV,SV.aZ]
theorem CU {P:Program} {f:FuncId} {vs:List Value} {v:Value} (hf:FY P f) (hv:v.oneCell'=true) (h:∀w:World,Calls P f vs.toArray w λe w'=>e= .returned v/\aeR w.heap.size w w'):aL P f (vs.map .val) [] (.val v) [] []:=by
 refine .inl ⟨hf,λρ w z hz _=> ?_⟩;rw[Ap hz];refine(h w).mono ?_;rintro e w' ⟨rfl,hb⟩;exact⟨v,ρ,rfl,.ic hb (ck hv)⟩
theorem I9 {P:Program} {f:FuncId} {vs:List Value} {v:Value} (hf:FY P f) (hv:v.oneCell'=true) (h:∀w:World,Calls P f vs.toArray w λe w'=>e= .returned v/\w'=w):aL P f (vs.map .val) [] (.val v) [] []:=
 CU hf hv λw=>(h w).mono λ_ _ ⟨he,hw⟩=>⟨he,hw▸afO _ _⟩
def Aq (s:ByteArray):SV:=.val (.string s)
theorem M7 {P:Program} {f:FuncId} {ss:List ByteArray} {sep:ByteArray} {v:Value} (hf:FY P f) (hv:v.oneCell'=true)
  (h0:ss=[]->∀(a:Option Addr) (w:World),Calls P f #[.slice a 0 0,.string sep] w λe w'=>e= .returned v/\w'=w)
  (h:∀(bk o c:Nat) (w:World),(∀(j:Nat) x,ss[j]? =some x->w.cell? ⟨bk,o+j,none⟩=some (.string x))->bk<w.heap.size->ss.length<=c->Calls P f #[.slice (some ⟨bk,o,none⟩) ss.length c,.string sep] w λe w'=>e= .returned v/\aeR w.heap.size w w'):
  aL P f [bN 1 Aq ss,.val (.string sep)] [] (.val v) [] []:=by
 refine .inl ⟨hf,λρ w z hz hp=> ?_⟩;simp only[aw,aI]at hz;obtain⟨x,_,rfl,hx,y,_,rfl,⟨rfl,_⟩,rfl⟩:=hz;have fin:∀(a:Value),(Calls P f #[a,.string sep] w λe w'=>e= .returned v/\aeR w.heap.size w w')->Calls P f (ω cV [bN 1 Aq ss,SV.val (.string sep)] [[a],[.string sep]]).toArray w λe w'=>∃v' ρ',e= .returned v'/\kN ρ w (.val v) [] [] v' ρ' w':=λa hc=>by
  have e:(ω cV [bN 1 Aq ss,SV.val (.string sep)] [[a],[.string sep]]).toArray= #[a,.string sep]:=by simp[cV,SV.aZ,MO]
  rw[e];refine hc.mono ?_;rintro e w' ⟨rfl,hb⟩;exact⟨v,ρ,rfl,.ic hb (ck hv)⟩
 rcases hx with⟨hn,a,rfl⟩|⟨hg,b,cap,z,pre,ex,ty,fz,h1,h2,h3,h4,h5,rfl⟩
 ·refine fin _ ?_;have hn:ss=[]:=by simpa using hn
  exact(h0 hn a w).mono λ_ _ ⟨he,hw⟩=>⟨he,hw▸afO _ _⟩
 ·refine fin _ ?_;rw[Χ]at h4 ⊢;have hh:=hp.aW b _ h1;have hz:∀(l:List ByteArray) (z:List (List Value)),aw (cW ρ.aW hg) (l.map Aq) z->z.flatten=l.map .string:=by
   intro l;induction l with
   |nil=>intro z hz;simp only[af6,aw]at hz;subst hz;rfl
   |cons s l ih=>
    intro z hz;simp only[ϲ,aw,Aq,aI]at hz;obtain⟨x,r,rfl,⟨rfl,_⟩,h⟩:=hz;simp[ih r h]
  refine h b pre.length cap w (λj x hj=> ?_) ?_ h4
  ·rw[cell_of_row w b _ _ ty fz hh,ό,afW aa,Nat.add_sub_cancel_left,hz ss z h2];rw[ϳ (by rw[Χ];exact(Ϩ.1 hj).1),ac4,hj];rfl
  ·rcases Nat.lt_or_ge b w.heap.size with h'|h'
   ·exact h'
   ·simp[Array.getElem?_eq_none h']at hh
theorem ec {α:Type} {E:Env} (t k:Nat) {c:Code} {K:bF} {fr:List (Nat×SV)} {hp:List (Nat×aC)} {ty:TypeId} {w n:Nat} {f:α->SV} {l:List α} (hW:∀b,¬E.W0 b) (hf:∀x,bI (f x)=true) (ht:lk fr t=some (.aM k w 0 n)) (hk:find hp k=some ⟨ty,true,.seq w (l.map f)⟩)
  (hn:n=l.length) (hs:dY E c K ((t,bN w f l)::fr) (fi hp k ⟨ty,true,.dead⟩)):dY E c K fr hp:=by
 refine jP t k (xs:=l.map f) hW ht hk rfl rfl (bO hf l) (by simp;omega) ?_;rw[im (by simp;omega)];exact hs
theorem aL.args {P:Program} {f:FuncId} {args args':List SV} {fk:List (Nat×aC)} {c:SV} {new upd:List (Nat×aC)} (h:aL P f args' fk c new upd) (hr:∀ρ z,aw ρ args z->aw ρ args' z) (hz:∀z,ω cV args z=ω cV args' z):aL P f args fk c new upd:=by
 rcases h with⟨h1,h2⟩|h2
 ·exact .inl ⟨h1,λρ w z h hp=>by rw[hz];exact h2 ρ w z (hr ρ z h) hp⟩
 ·exact .inr λρ w z h hp=>by rw[hz];exact h2 ρ w z (hr ρ z h) hp
theorem pI {ρ:bY} {a:Option Addr} {w:Nat} {x:List Value} (h:aI ρ (.val (.slice a 0 0)) x):aI ρ (fh w []) x:=by
 simp only[aI]at h ⊢;exact .inl ⟨rfl,a,h.1⟩
theorem Pe {α:Type} {d e:α} {r:List α} {i n:Nat} (hi:i<n) (hn:r.length=n):(r.take i++θ (n - i) d).getD i e=d:=by
 have hl:(r.take i).length=i:=by rw[ψ];omega
 rw[δ,afW aa,hl,af0,aii,if_pos aa];rfl
end Go.Sx
namespace Go.Proofs.YtadphegfhgmgmaaGreatDoor
open Go.Sx
theorem cw {t:TypeId} {ti:TI} {z:Value} (hk:ti.kind.ok Tryz.prog t) (h1:(Tryz.prog.info? t).map (λi=>(i.size,i.bytes,i.zero))=some (ti.size,ti.bytes,some z):=by kernel_rfl) (h2:z.cells.toList=ti.zero.flatMap gj:=by kernel_rfl) (h3:ti.zero.all ZH=true:=by kernel_rfl) (h4:z.cells.size=ti.size:=by kernel_rfl) (h5:z=(if ti.kind.isAgg then .agg z.cells else z.cells.getD 0 undef):=by kernel_rfl):b6 Tryz.prog t ti:=b6.of hk h1 h2 h3 h4 h5
def IF:TI:=⟨.other,1,8,[.val .nilFunc]⟩
def IE:TI:=⟨.int .i64,1,8,[.val (.int .i64 0)]⟩
theorem ajG:IE.bytes=8:=rfl
theorem agP:b6 Tryz.prog 2 IE:=cw (z:=(.int .i64 0)) (by kernel_rfl:Tryz.prog.underlying 2=some (.int .i64))
def ti3:TI:=⟨.int .i64,1,8,[.val (.int .i64 0)]⟩
theorem aar:ti3.bytes=8:=rfl
theorem agQ:b6 Tryz.prog 3 ti3:=cw (z:=(.int .i64 0)) (by kernel_rfl:Tryz.prog.underlying 3=some (.int .i64))
def ti4:TI:=⟨.bool,1,1,[.val (.bool false)]⟩
theorem ajH:ti4.bytes=1:=rfl
theorem agR:b6 Tryz.prog 4 ti4:=cw (z:=(.bool false)) (by kernel_rfl:Tryz.prog.underlying 4=some (.bool))
def ti5:TI:=⟨.int .u8,1,1,[.val (.int .u8 0)]⟩
theorem ajI:ti5.bytes=1:=rfl
theorem agS:b6 Tryz.prog 5 ti5:=cw (z:=(.int .u8 0)) (by kernel_rfl:Tryz.prog.underlying 5=some (.int .u8))
def ti9:TI:=⟨.str,1,16,[.val (.string .empty)]⟩
theorem ajJ:ti9.bytes=16:=rfl
theorem agT:b6 Tryz.prog 9 ti9:=cw (z:=(.string .empty)) (by kernel_rfl:Tryz.prog.underlying 9=some (.string))
def adu:TI:=⟨.int .u64,1,8,[.val (.int .u64 0)]⟩
theorem adv:b6 Tryz.prog 12 adu:=cw (z:=(.int .u64 0)) (by kernel_rfl:Tryz.prog.underlying 12=some (.int .u64))
def adw:TI:=⟨.agg [(0,9,1),(1,12,1)],2,24,[.val (.string .empty),.val (.int .u64 0)]⟩
theorem adx:b6 Tryz.prog 13 adw:=cw (z:=.agg #[(.string .empty),(.int .u64 0)]) ⟨aD,aD,aD⟩
def ady:TI:=⟨.int .i32,1,4,[.val (.int .i32 0)]⟩
theorem adz:b6 Tryz.prog 21 ady:=cw (z:=(.int .i32 0)) (by kernel_rfl:Tryz.prog.underlying 21=some (.int .i32))
def adA:TI:=⟨.aM 25,1,24,[.val (.slice none 0 0)]⟩
theorem adB:b6 Tryz.prog 22 adA:=cw (z:=(.slice none 0 0)) (by kernel_rfl:Tryz.prog.underlying 22=some (.slice 25))
def Va:TI:=⟨.int .u32,1,4,[.val (.int .u32 0)]⟩
theorem aim:Va.bytes=4:=rfl
theorem adC:b6 Tryz.prog 23 Va:=cw (z:=(.int .u32 0)) (by kernel_rfl:Tryz.prog.underlying 23=some (.int .u32))
def adD:TI:=⟨.agg [(0,2,1),(1,23,1)],2,16,[.val (.int .i64 0),.val (.int .u32 0)]⟩
theorem adE:b6 Tryz.prog 24 adD:=cw (z:=.agg #[(.int .i64 0),(.int .u32 0)]) ⟨aD,aD,aD⟩
def aas:TI:=⟨.agg [(0,2,1),(1,23,1)],2,16,[.val (.int .i64 0),.val (.int .u32 0)]⟩
theorem adF:aas.bytes=16:=rfl
theorem adG:b6 Tryz.prog 25 aas:=cw (z:=.agg #[(.int .i64 0),(.int .u32 0)]) ⟨aD,aD,aD⟩
def Vb:TI:=⟨.aM 49,1,24,[.val (.slice none 0 0)]⟩
theorem ain:Vb.bytes=24:=rfl
theorem adH:b6 Tryz.prog 33 Vb:=cw (z:=(.slice none 0 0)) (by kernel_rfl:Tryz.prog.underlying 33=some (.slice 49))
def adI:TI:=⟨.agg [(0,3,1),(1,3,1),(2,33,1)],3,40,[.val (.int .i64 0),.val (.int .i64 0),.val (.slice none 0 0)]⟩
theorem adJ:b6 Tryz.prog 34 adI:=cw (z:=.agg #[(.int .i64 0),(.int .i64 0),(.slice none 0 0)]) ⟨aD,aD,aD⟩
def Vc:TI:=⟨.agg [(0,3,1),(1,3,1),(2,33,1)],3,40,[.val (.int .i64 0),.val (.int .i64 0),.val (.slice none 0 0)]⟩
theorem aio:Vc.bytes=40:=rfl
theorem adK:b6 Tryz.prog 35 Vc:=cw (z:=.agg #[(.int .i64 0),(.int .i64 0),(.slice none 0 0)]) ⟨aD,aD,aD⟩
def adL:TI:=⟨.int .i64,1,8,[.val (.int .i64 0)]⟩
theorem adM:b6 Tryz.prog 36 adL:=cw (z:=(.int .i64 0)) (by kernel_rfl:Tryz.prog.underlying 36=some (.int .i64))
def Vd:TI:=⟨.int .u64,1,8,[.val (.int .u64 0)]⟩
theorem aip:Vd.bytes=8:=rfl
theorem adN:b6 Tryz.prog 41 Vd:=cw (z:=(.int .u64 0)) (by kernel_rfl:Tryz.prog.underlying 41=some (.int .u64))
def adO:TI:=⟨.agg [(0,41,1),(1,9,1)],2,24,[.nat 0]⟩
theorem adP:b6 Tryz.prog 42 adO:=cw (z:=.agg #[(.int .u64 0),(.string .empty)]) ⟨aD,aD,aD⟩
def Ve:TI:=⟨.agg [(0,41,1),(1,9,1)],2,24,[.nat 0]⟩
theorem aiq:Ve.bytes=24:=rfl
theorem adQ:b6 Tryz.prog 43 Ve:=cw (z:=.agg #[(.int .u64 0),(.string .empty)]) ⟨aD,aD,aD⟩
def adR:TI:=⟨.agg [(0,43,2)],2,24,[.nat 0]⟩
theorem adT:b6 Tryz.prog 44 adR:=cw (z:=.agg #[(.int .u64 0),(.string .empty)]) ⟨aD,aD,aD⟩
def adU:TI:=⟨.agg [(0,43,2)],2,24,[.nat 0]⟩
theorem adV:b6 Tryz.prog 45 adU:=cw (z:=.agg #[(.int .u64 0),(.string .empty)]) ⟨aD,aD,aD⟩
def adW:TI:=⟨.agg [(0,45,2),(2,4,1)],3,32,[.int 0]⟩
theorem adX:b6 Tryz.prog 46 adW:=cw (z:=.agg #[(.int .u64 0),(.string .empty),(.bool false)]) ⟨aD,aD,aD⟩
def Vf:TI:=⟨.agg [(0,45,2),(2,4,1)],3,32,[.int 0]⟩
theorem air:Vf.bytes=32:=rfl
theorem adY:b6 Tryz.prog 47 Vf:=cw (z:=.agg #[(.int .u64 0),(.string .empty),(.bool false)]) ⟨aD,aD,aD⟩
def adZ:TI:=⟨.agg [(0,47,3),(3,43,2)],5,56,[.frac 0]⟩
theorem ad0:b6 Tryz.prog 48 adZ:=cw (z:=.agg #[(.int .u64 0),(.string .empty),(.bool false),(.int .u64 0),(.string .empty)]) ⟨aD,aD,aD⟩
def Vg:TI:=⟨.agg [(0,47,3),(3,43,2)],5,56,[.frac 0]⟩
theorem Yb:Vg.bytes=56:=rfl
theorem ad1:b6 Tryz.prog 49 Vg:=cw (z:=.agg #[(.int .u64 0),(.string .empty),(.bool false),(.int .u64 0),(.string .empty)]) ⟨aD,aD,aD⟩
def Vh:TI:=⟨.aM 49,1,24,[.val (.slice none 0 0)]⟩
theorem ais:Vh.bytes=24:=rfl
theorem ad2:b6 Tryz.prog 52 Vh:=cw (z:=(.slice none 0 0)) (by kernel_rfl:Tryz.prog.underlying 52=some (.slice 49))
def ad3:TI:=⟨.aM 61,1,24,[.val (.slice none 0 0)]⟩
theorem ad4:b6 Tryz.prog 57 ad3:=cw (z:=(.slice none 0 0)) (by kernel_rfl:Tryz.prog.underlying 57=some (.slice 61))
def Vi:TI:=⟨.aM 69,1,24,[.val (.slice none 0 0)]⟩
theorem ait:Vi.bytes=24:=rfl
theorem ad5:b6 Tryz.prog 61 Vi:=cw (z:=(.slice none 0 0)) (by kernel_rfl:Tryz.prog.underlying 61=some (.slice 69))
def Vj:TI:=⟨.aM 3,1,24,[.val (.slice none 0 0)]⟩
theorem aiu:Vj.bytes=24:=rfl
theorem ad6:b6 Tryz.prog 64 Vj:=cw (z:=(.slice none 0 0)) (by kernel_rfl:Tryz.prog.underlying 64=some (.slice 3))
def Vk:TI:=⟨.aM 3,1,24,[.val (.slice none 0 0)]⟩
theorem aiv:Vk.bytes=24:=rfl
theorem ad7:b6 Tryz.prog 65 Vk:=cw (z:=(.slice none 0 0)) (by kernel_rfl:Tryz.prog.underlying 65=some (.slice 3))
def ad8:TI:=⟨.agg [(0,4,1),(1,65,1)],2,32,[.val (.bool false),.val (.slice none 0 0)]⟩
theorem ad9:b6 Tryz.prog 66 ad8:=cw (z:=.agg #[(.bool false),(.slice none 0 0)]) ⟨aD,aD,aD⟩
def Vl:TI:=⟨.agg [(0,4,1),(1,65,1)],2,32,[.val (.bool false),.val (.slice none 0 0)]⟩
theorem aiw:Vl.bytes=32:=rfl
theorem aea:b6 Tryz.prog 67 Vl:=cw (z:=.agg #[(.bool false),(.slice none 0 0)]) ⟨aD,aD,aD⟩
def aeb:TI:=⟨.agg [(0,67,2),(2,65,1)],3,56,[.val (.bool false),.val (.slice none 0 0),.val (.slice none 0 0)]⟩
theorem aec:b6 Tryz.prog 68 aeb:=cw (z:=.agg #[(.bool false),(.slice none 0 0),(.slice none 0 0)]) ⟨aD,aD,aD⟩
def Pf:TI:=⟨.agg [(0,67,2),(2,65,1)],3,56,[.val (.bool false),.val (.slice none 0 0),.val (.slice none 0 0)]⟩
theorem aed:Pf.bytes=56:=rfl
theorem aee:b6 Tryz.prog 69 Pf:=cw (z:=.agg #[(.bool false),(.slice none 0 0),(.slice none 0 0)]) ⟨aD,aD,aD⟩
def aef:TI:=⟨.agg [(0,5,1),(1,5,1),(2,22,1)],3,32,[.val (.int .u8 0),.val (.int .u8 0),.val (.slice none 0 0)]⟩
theorem aeg:b6 Tryz.prog 77 aef:=cw (z:=.agg #[(.int .u8 0),(.int .u8 0),(.slice none 0 0)]) ⟨aD,aD,aD⟩
def aeh:TI:=⟨.agg [(0,5,1),(1,5,1),(2,22,1)],3,32,[.val (.int .u8 0),.val (.int .u8 0),.val (.slice none 0 0)]⟩
theorem aei:b6 Tryz.prog 78 aeh:=cw (z:=.agg #[(.int .u8 0),(.int .u8 0),(.slice none 0 0)]) ⟨aD,aD,aD⟩
theorem aej:b6 Tryz.prog 84 IF:=cw (z:=.nilFunc) ⟨_,Tryz.underlying84,rfl⟩
theorem aek:b6 Tryz.prog 90 IF:=cw (z:=.nilFunc) ⟨_,Tryz.underlying90,rfl⟩
def ael:TI:=⟨.aM 52,1,24,[.val (.slice none 0 0)]⟩
theorem aem:b6 Tryz.prog 97 ael:=cw (z:=(.slice none 0 0)) (by kernel_rfl:Tryz.prog.underlying 97=some (.slice 52))
theorem aat:b6 Tryz.prog 104 IF:=cw (z:=.nilFunc) ⟨_,Tryz.underlying104,rfl⟩
def Yc:TI:=⟨.aM 2,1,24,[.val (.slice none 0 0)]⟩
theorem aau:b6 Tryz.prog 105 Yc:=cw (z:=(.slice none 0 0)) (by kernel_rfl:Tryz.prog.underlying 105=some (.slice 2))
def Yd:TI:=⟨.arr 3 3,3,24,[.val (.int .i64 0),.val (.int .i64 0),.val (.int .i64 0)]⟩
theorem aav:b6 Tryz.prog 108 Yd:=cw (z:=.agg #[(.int .i64 0),(.int .i64 0),(.int .i64 0)]) (by kernel_rfl:Tryz.prog.underlying 108=some (.array 3 3))
def Ye:TI:=⟨.ptr 123,1,8,[.val (.pointer none)]⟩
theorem aaw:b6 Tryz.prog 109 Ye:=cw (z:=(.pointer none)) (by kernel_rfl:Tryz.prog.underlying 109=some (.pointer 123))
def Yf:TI:=⟨.aM 22,1,24,[.val (.slice none 0 0)]⟩
theorem aax:b6 Tryz.prog 117 Yf:=cw (z:=(.slice none 0 0)) (by kernel_rfl:Tryz.prog.underlying 117=some (.slice 22))
def Yg:TI:=⟨.aM 33,1,24,[.val (.slice none 0 0)]⟩
theorem aay:b6 Tryz.prog 121 Yg:=cw (z:=(.slice none 0 0)) (by kernel_rfl:Tryz.prog.underlying 121=some (.slice 33))
def Yh:TI:=⟨.agg [(0,3,1),(1,121,1)],2,32,[.val (.int .i64 0),.val (.slice none 0 0)]⟩
theorem aaz:b6 Tryz.prog 122 Yh:=cw (z:=.agg #[(.int .i64 0),(.slice none 0 0)]) ⟨aD,aD,aD⟩
def Yi:TI:=⟨.agg [(0,3,1),(1,121,1)],2,32,[.val (.int .i64 0),.val (.slice none 0 0)]⟩
theorem aaA:b6 Tryz.prog 123 Yi:=cw (z:=.agg #[(.int .i64 0),(.slice none 0 0)]) ⟨aD,aD,aD⟩
theorem aaB:b6 Tryz.prog 141 IF:=cw (z:=.nilFunc) ⟨_,Tryz.underlying141,rfl⟩
def Yj:TI:=⟨.ptr 183,1,8,[.val (.pointer none)]⟩
theorem aaC:b6 Tryz.prog 159 Yj:=cw (z:=(.pointer none)) (by kernel_rfl:Tryz.prog.underlying 159=some (.pointer 183))
theorem aaD:b6 Tryz.prog 166 IF:=cw (z:=.nilFunc) ⟨_,Tryz.underlying166,rfl⟩
def Yk:TI:=⟨.aM 4,1,24,[.val (.slice none 0 0)]⟩
theorem aaE:b6 Tryz.prog 169 Yk:=cw (z:=(.slice none 0 0)) (by kernel_rfl:Tryz.prog.underlying 169=some (.slice 4))
def Yl:TI:=⟨.aM 9,1,24,[.val (.slice none 0 0)]⟩
theorem aaF:b6 Tryz.prog 176 Yl:=cw (z:=(.slice none 0 0)) (by kernel_rfl:Tryz.prog.underlying 176=some (.slice 9))
def Ym:TI:=⟨.agg [(0,121,1),(1,3,1),(2,64,1),(3,49,5)],8,112,[.val (.slice none 0 0),.val (.int .i64 0),.val (.slice none 0 0),.frac 0]⟩
theorem aaG:b6 Tryz.prog 182 Ym:=cw (z:=.agg #[(.slice none 0 0),(.int .i64 0),(.slice none 0 0),(.int .u64 0),(.string .empty),(.bool false),(.int .u64 0),(.string .empty)]) ⟨aD,aD,aD⟩
def Yn:TI:=⟨.agg [(0,121,1),(1,3,1),(2,64,1),(3,49,5)],8,112,[.val (.slice none 0 0),.val (.int .i64 0),.val (.slice none 0 0),.frac 0]⟩
theorem aaH:b6 Tryz.prog 183 Yn:=cw (z:=.agg #[(.slice none 0 0),(.int .i64 0),(.slice none 0 0),(.int .u64 0),(.string .empty),(.bool false),(.int .u64 0),(.string .empty)]) ⟨aD,aD,aD⟩
def Yo:TI:=⟨.aM 35,1,24,[.val (.slice none 0 0)]⟩
theorem aaI:b6 Tryz.prog 196 Yo:=cw (z:=(.slice none 0 0)) (by kernel_rfl:Tryz.prog.underlying 196=some (.slice 35))
def Yp:TI:=⟨.int .u64,1,8,[.val (.int .u64 0)]⟩
theorem aaJ:b6 Tryz.prog 206 Yp:=cw (z:=(.int .u64 0)) (by kernel_rfl:Tryz.prog.underlying 206=some (.int .u64))
def Yq:TI:=⟨.aM 23,1,24,[.val (.slice none 0 0)]⟩
theorem aaK:b6 Tryz.prog 207 Yq:=cw (z:=(.slice none 0 0)) (by kernel_rfl:Tryz.prog.underlying 207=some (.slice 23))
def Yr:TI:=⟨.ptr 49,1,8,[.val (.pointer none)]⟩
theorem aaL:b6 Tryz.prog 217 Yr:=cw (z:=(.pointer none)) (by kernel_rfl:Tryz.prog.underlying 217=some (.pointer 49))
def Ys:TI:=⟨.ptr 223,1,8,[.val (.pointer none)]⟩
theorem aaM:b6 Tryz.prog 220 Ys:=cw (z:=(.pointer none)) (by kernel_rfl:Tryz.prog.underlying 220=some (.pointer 223))
def Yt:TI:=⟨.aM 5,1,24,[.val (.slice none 0 0)]⟩
theorem aaN:b6 Tryz.prog 221 Yt:=cw (z:=(.slice none 0 0)) (by kernel_rfl:Tryz.prog.underlying 221=some (.slice 5))
def Yu:TI:=⟨.agg [(0,220,1),(1,221,1)],2,32,[.val (.pointer none),.val (.slice none 0 0)]⟩
theorem aaO:b6 Tryz.prog 222 Yu:=cw (z:=.agg #[(.pointer none),(.slice none 0 0)]) ⟨aD,aD,aD⟩
def Yv:TI:=⟨.agg [(0,220,1),(1,221,1)],2,32,[.val (.pointer none),.val (.slice none 0 0)]⟩
theorem aaP:b6 Tryz.prog 223 Yv:=cw (z:=.agg #[(.pointer none),(.slice none 0 0)]) ⟨aD,aD,aD⟩
theorem aaQ:b6 Tryz.prog 257 IF:=cw (z:=.nilFunc) ⟨_,Tryz.underlying257,rfl⟩
def Yw:TI:=⟨.agg [(0,49,5)],5,56,[.frac 0]⟩
theorem aaR:b6 Tryz.prog 260 Yw:=cw (z:=.agg #[(.int .u64 0),(.string .empty),(.bool false),(.int .u64 0),(.string .empty)]) ⟨aD,aD,aD⟩
def Yx:TI:=⟨.agg [(0,49,5)],5,56,[.frac 0]⟩
theorem aaS:b6 Tryz.prog 261 Yx:=cw (z:=.agg #[(.int .u64 0),(.string .empty),(.bool false),(.int .u64 0),(.string .empty)]) ⟨aD,aD,aD⟩
theorem aaT:b6 Tryz.prog 263 IF:=cw (z:=.nilFunc) ⟨_,Tryz.underlying263,rfl⟩
def Yy:TI:=⟨.ptr 5,1,8,[.val (.pointer none)]⟩
theorem aaU:b6 Tryz.prog 264 Yy:=cw (z:=(.pointer none)) (by kernel_rfl:Tryz.prog.underlying 264=some (.pointer 5))
def Yz:TI:=⟨.ptr 261,1,8,[.val (.pointer none)]⟩
theorem aaV:b6 Tryz.prog 275 Yz:=cw (z:=(.pointer none)) (by kernel_rfl:Tryz.prog.underlying 275=some (.pointer 261))
def YA:TI:=⟨.arr 24 5,24,24,[.val (.int .u8 0),.val (.int .u8 0),.val (.int .u8 0),.val (.int .u8 0),.val (.int .u8 0),.val (.int .u8 0),.val (.int .u8 0),.val (.int .u8 0),.val (.int .u8 0),.val (.int .u8 0),.val (.int .u8 0),.val (.int .u8 0),.val (.int .u8 0),.val (.int .u8 0),.val (.int .u8 0),.val (.int .u8 0),.val (.int .u8 0),.val (.int .u8 0),.val (.int .u8 0),.val (.int .u8 0),.val (.int .u8 0),.val (.int .u8 0),.val (.int .u8 0),.val (.int .u8 0)]⟩
theorem aaW:b6 Tryz.prog 279 YA:=cw (z:=.agg #[(.int .u8 0),(.int .u8 0),(.int .u8 0),(.int .u8 0),(.int .u8 0),(.int .u8 0),(.int .u8 0),(.int .u8 0),(.int .u8 0),(.int .u8 0),(.int .u8 0),(.int .u8 0),(.int .u8 0),(.int .u8 0),(.int .u8 0),(.int .u8 0),(.int .u8 0),(.int .u8 0),(.int .u8 0),(.int .u8 0),(.int .u8 0),(.int .u8 0),(.int .u8 0),(.int .u8 0)]) (by kernel_rfl:Tryz.prog.underlying 279=some (.array 24 5))
def YB:TI:=⟨.arr 20 41,20,160,[.val (.int .u64 0),.val (.int .u64 0),.val (.int .u64 0),.val (.int .u64 0),.val (.int .u64 0),.val (.int .u64 0),.val (.int .u64 0),.val (.int .u64 0),.val (.int .u64 0),.val (.int .u64 0),.val (.int .u64 0),.val (.int .u64 0),.val (.int .u64 0),.val (.int .u64 0),.val (.int .u64 0),.val (.int .u64 0),.val (.int .u64 0),.val (.int .u64 0),.val (.int .u64 0),.val (.int .u64 0)]⟩
theorem aaX:b6 Tryz.prog 288 YB:=cw (z:=.agg #[(.int .u64 0),(.int .u64 0),(.int .u64 0),(.int .u64 0),(.int .u64 0),(.int .u64 0),(.int .u64 0),(.int .u64 0),(.int .u64 0),(.int .u64 0),(.int .u64 0),(.int .u64 0),(.int .u64 0),(.int .u64 0),(.int .u64 0),(.int .u64 0),(.int .u64 0),(.int .u64 0),(.int .u64 0),(.int .u64 0)]) (by kernel_rfl:Tryz.prog.underlying 288=some (.array 20 41))
def YC:TI:=⟨.arr 65 5,65,65,[.val (.int .u8 0),.val (.int .u8 0),.val (.int .u8 0),.val (.int .u8 0),.val (.int .u8 0),.val (.int .u8 0),.val (.int .u8 0),.val (.int .u8 0),.val (.int .u8 0),.val (.int .u8 0),.val (.int .u8 0),.val (.int .u8 0),.val (.int .u8 0),.val (.int .u8 0),.val (.int .u8 0),.val (.int .u8 0),.val (.int .u8 0),.val (.int .u8 0),.val (.int .u8 0),.val (.int .u8 0),.val (.int .u8 0),.val (.int .u8 0),.val (.int .u8 0),.val (.int .u8 0),.val (.int .u8 0),.val (.int .u8 0),.val (.int .u8 0),.val (.int .u8 0),.val (.int .u8 0),.val (.int .u8 0),.val (.int .u8 0),.val (.int .u8 0),.val (.int .u8 0),.val (.int .u8 0),.val (.int .u8 0),.val (.int .u8 0),.val (.int .u8 0),.val (.int .u8 0),.val (.int .u8 0),.val (.int .u8 0),.val (.int .u8 0),.val (.int .u8 0),.val (.int .u8 0),.val (.int .u8 0),.val (.int .u8 0),.val (.int .u8 0),.val (.int .u8 0),.val (.int .u8 0),.val (.int .u8 0),.val (.int .u8 0),.val (.int .u8 0),.val (.int .u8 0),.val (.int .u8 0),.val (.int .u8 0),.val (.int .u8 0),.val (.int .u8 0),.val (.int .u8 0),.val (.int .u8 0),.val (.int .u8 0),.val (.int .u8 0),.val (.int .u8 0),.val (.int .u8 0),.val (.int .u8 0),.val (.int .u8 0),.val (.int .u8 0)]⟩
theorem aaY:b6 Tryz.prog 289 YC:=cw (z:=.agg #[(.int .u8 0),(.int .u8 0),(.int .u8 0),(.int .u8 0),(.int .u8 0),(.int .u8 0),(.int .u8 0),(.int .u8 0),(.int .u8 0),(.int .u8 0),(.int .u8 0),(.int .u8 0),(.int .u8 0),(.int .u8 0),(.int .u8 0),(.int .u8 0),(.int .u8 0),(.int .u8 0),(.int .u8 0),(.int .u8 0),(.int .u8 0),(.int .u8 0),(.int .u8 0),(.int .u8 0),(.int .u8 0),(.int .u8 0),(.int .u8 0),(.int .u8 0),(.int .u8 0),(.int .u8 0),(.int .u8 0),(.int .u8 0),(.int .u8 0),(.int .u8 0),(.int .u8 0),(.int .u8 0),(.int .u8 0),(.int .u8 0),(.int .u8 0),(.int .u8 0),(.int .u8 0),(.int .u8 0),(.int .u8 0),(.int .u8 0),(.int .u8 0),(.int .u8 0),(.int .u8 0),(.int .u8 0),(.int .u8 0),(.int .u8 0),(.int .u8 0),(.int .u8 0),(.int .u8 0),(.int .u8 0),(.int .u8 0),(.int .u8 0),(.int .u8 0),(.int .u8 0),(.int .u8 0),(.int .u8 0),(.int .u8 0),(.int .u8 0),(.int .u8 0),(.int .u8 0),(.int .u8 0)]) (by kernel_rfl:Tryz.prog.underlying 289=some (.array 65 5))
def YD:TI:=⟨.arr 32 5,32,32,[.val (.int .u8 0),.val (.int .u8 0),.val (.int .u8 0),.val (.int .u8 0),.val (.int .u8 0),.val (.int .u8 0),.val (.int .u8 0),.val (.int .u8 0),.val (.int .u8 0),.val (.int .u8 0),.val (.int .u8 0),.val (.int .u8 0),.val (.int .u8 0),.val (.int .u8 0),.val (.int .u8 0),.val (.int .u8 0),.val (.int .u8 0),.val (.int .u8 0),.val (.int .u8 0),.val (.int .u8 0),.val (.int .u8 0),.val (.int .u8 0),.val (.int .u8 0),.val (.int .u8 0),.val (.int .u8 0),.val (.int .u8 0),.val (.int .u8 0),.val (.int .u8 0),.val (.int .u8 0),.val (.int .u8 0),.val (.int .u8 0),.val (.int .u8 0)]⟩
theorem aaZ:b6 Tryz.prog 291 YD:=cw (z:=.agg #[(.int .u8 0),(.int .u8 0),(.int .u8 0),(.int .u8 0),(.int .u8 0),(.int .u8 0),(.int .u8 0),(.int .u8 0),(.int .u8 0),(.int .u8 0),(.int .u8 0),(.int .u8 0),(.int .u8 0),(.int .u8 0),(.int .u8 0),(.int .u8 0),(.int .u8 0),(.int .u8 0),(.int .u8 0),(.int .u8 0),(.int .u8 0),(.int .u8 0),(.int .u8 0),(.int .u8 0),(.int .u8 0),(.int .u8 0),(.int .u8 0),(.int .u8 0),(.int .u8 0),(.int .u8 0),(.int .u8 0),(.int .u8 0)]) (by kernel_rfl:Tryz.prog.underlying 291=some (.array 32 5))
def YE:TI:=⟨.arr 64 5,64,64,[.val (.int .u8 0),.val (.int .u8 0),.val (.int .u8 0),.val (.int .u8 0),.val (.int .u8 0),.val (.int .u8 0),.val (.int .u8 0),.val (.int .u8 0),.val (.int .u8 0),.val (.int .u8 0),.val (.int .u8 0),.val (.int .u8 0),.val (.int .u8 0),.val (.int .u8 0),.val (.int .u8 0),.val (.int .u8 0),.val (.int .u8 0),.val (.int .u8 0),.val (.int .u8 0),.val (.int .u8 0),.val (.int .u8 0),.val (.int .u8 0),.val (.int .u8 0),.val (.int .u8 0),.val (.int .u8 0),.val (.int .u8 0),.val (.int .u8 0),.val (.int .u8 0),.val (.int .u8 0),.val (.int .u8 0),.val (.int .u8 0),.val (.int .u8 0),.val (.int .u8 0),.val (.int .u8 0),.val (.int .u8 0),.val (.int .u8 0),.val (.int .u8 0),.val (.int .u8 0),.val (.int .u8 0),.val (.int .u8 0),.val (.int .u8 0),.val (.int .u8 0),.val (.int .u8 0),.val (.int .u8 0),.val (.int .u8 0),.val (.int .u8 0),.val (.int .u8 0),.val (.int .u8 0),.val (.int .u8 0),.val (.int .u8 0),.val (.int .u8 0),.val (.int .u8 0),.val (.int .u8 0),.val (.int .u8 0),.val (.int .u8 0),.val (.int .u8 0),.val (.int .u8 0),.val (.int .u8 0),.val (.int .u8 0),.val (.int .u8 0),.val (.int .u8 0),.val (.int .u8 0),.val (.int .u8 0),.val (.int .u8 0)]⟩
theorem aa0:b6 Tryz.prog 292 YE:=cw (z:=.agg #[(.int .u8 0),(.int .u8 0),(.int .u8 0),(.int .u8 0),(.int .u8 0),(.int .u8 0),(.int .u8 0),(.int .u8 0),(.int .u8 0),(.int .u8 0),(.int .u8 0),(.int .u8 0),(.int .u8 0),(.int .u8 0),(.int .u8 0),(.int .u8 0),(.int .u8 0),(.int .u8 0),(.int .u8 0),(.int .u8 0),(.int .u8 0),(.int .u8 0),(.int .u8 0),(.int .u8 0),(.int .u8 0),(.int .u8 0),(.int .u8 0),(.int .u8 0),(.int .u8 0),(.int .u8 0),(.int .u8 0),(.int .u8 0),(.int .u8 0),(.int .u8 0),(.int .u8 0),(.int .u8 0),(.int .u8 0),(.int .u8 0),(.int .u8 0),(.int .u8 0),(.int .u8 0),(.int .u8 0),(.int .u8 0),(.int .u8 0),(.int .u8 0),(.int .u8 0),(.int .u8 0),(.int .u8 0),(.int .u8 0),(.int .u8 0),(.int .u8 0),(.int .u8 0),(.int .u8 0),(.int .u8 0),(.int .u8 0),(.int .u8 0),(.int .u8 0),(.int .u8 0),(.int .u8 0),(.int .u8 0),(.int .u8 0),(.int .u8 0),(.int .u8 0),(.int .u8 0)]) (by kernel_rfl:Tryz.prog.underlying 292=some (.array 64 5))
theorem aa1:b6 Tryz.prog 301 IF:=cw (z:=.nilFunc) ⟨_,Tryz.underlying301,rfl⟩
def YF:TI:=⟨.agg [(0,9,1)],1,16,[.val (.string .empty)]⟩
theorem aa2:b6 Tryz.prog 307 YF:=cw (z:=.agg #[(.string .empty)]) ⟨aD,aD,aD⟩
def FK:List (TypeId×TI):=[(2,IE),(3,ti3),(4,ti4),(5,ti5),(9,ti9),(12,adu),(13,adw),(21,ady),(22,adA),(23,Va),(24,adD),(25,aas),(33,Vb),(34,adI),(35,Vc),(36,adL),(41,Vd),(42,adO),(43,Ve),(44,adR),(45,adU),(46,adW),(47,Vf),(48,adZ),(49,Vg),(52,Vh),(57,ad3),(61,Vi),(64,Vj),(65,Vk),(66,ad8),(67,Vl),(68,aeb),(69,Pf),(77,aef),(78,aeh),(84,IF),(90,IF),(97,ael),(104,IF),(105,Yc),(108,Yd),(109,Ye),(117,Yf),(121,Yg),(122,Yh),(123,Yi),(141,IF),(159,Yj),(166,IF),(169,Yk),(176,Yl),(182,Ym),(183,Yn),(196,Yo),(206,Yp),(207,Yq),(217,Yr),(220,Ys),(221,Yt),(222,Yu),(223,Yv),(257,IF),(260,Yw),(261,Yx),(263,IF),(264,Yy),(275,Yz),(279,YA),(288,YB),(289,YC),(291,YD),(292,YE),(301,IF),(307,YF)]
theorem aH:dz Tryz.prog FK:=⟨agP,agQ,agR,agS,agT,adv,adx,adz,adB,adC,adE,adG,adH,adJ,adK,adM,adN,adP,adQ,adT,adV,adX,adY,ad0,ad1,ad2,ad4,ad5,ad6,ad7,ad9,aea,aec,aee,aeg,aei,aej,aek,aem,aat,aau,aav,aaw,aax,aay,aaz,aaA,aaB,aaC,aaD,aaE,aaF,aaG,aaH,aaI,aaJ,aaK,aaL,aaM,aaN,aaO,aaP,aaQ,aaR,aaS,aaT,aaU,aaV,aaW,aaX,aaY,aaZ,aa0,aa1,aa2,trivial⟩
theorem ez {t:TypeId} {ti:TI} (h:dT FK t=some ti):b6 Tryz.prog t ti:=dz.get aH h
theorem Q3 {p:Prop} (h:p:=by first|omega|decide|(simp only[tl0,gu,List.length_replicate,List.length_set,List.length_map,List.length_zipWith,List.length_take,List.length_append,List.length_cons,List.length_nil];omega)):p:=h
theorem Q4 {p:Prop} (h:p:=by (first|exact au.refl _|exact qF.pC (au.refl _) rfl|(refine qF.one rfl rfl ?_;skip)|(refine qF.bQ ?_;skip))):p:=h
theorem Q5 {p:Prop} (h:p:=by first|decide|omega|(simp only[tl0,gu,List.length_replicate,List.length_set,List.length_map,List.length_zipWith,List.length_take,List.length_append,List.length_cons,List.length_nil];omega)):p:=h
theorem Q6 {p:Prop} (h:p:=by exact (OB rfl (ai rfl) (ez rfl) rfl (Nat.succ_ne_zero _) rfl)):p:=h
theorem Q7 {p:Prop} (h:p:=by first|rfl|(simp[aS,bI,bO, *];done)):p:=h
theorem Q8 {p:Prop} (h:p:=by exact (U7 rfl rfl rfl (ai rfl) (ez rfl) rfl)):p:=h
theorem Q9 {p:Prop} (h:p:=by exact (MQ rfl (ai rfl) (ez rfl) rfl rfl (Nat.succ_ne_zero _) rfl)):p:=h
theorem dZ {p:Prop} (h:p:=by exact (O5 rfl (ai rfl) (ai rfl))):p:=h
theorem er {p:Prop} (h:p:=by exact (O4 rfl (ai rfl) (ai rfl))):p:=h
theorem Vm {p:Prop} (h:p:=by repeat(first|exact Ja.nil|refine Ja.cons rfl ?_ ?_|exact mL.same (λh=>h)|exact mL.same Jb|exact mL.same (λ_=>rfl)|refine mL.one (λh=>h) ?_|refine mL.one Jb ?_|exact WL.refl|refine WL.eq ?_|refine WL.any rfl ?_|exact mL.dead)):p:=h
theorem Ar {p:Prop} (h:p:=by exact (iW (α:=Rat) (d:=0) rfl (ai rfl) (ai rfl) (ez rfl) rfl (ez rfl) rfl aa)):p:=h
theorem As {p:Prop} (h:p:=by exact (iW (α:=Int) (d:=0) rfl (ai rfl) (ai rfl) (ez rfl) rfl (ez rfl) rfl aa)):p:=h
theorem IG {p:Prop} (h:p:=by exact (iW (α:=List Rat) (d:=[]) rfl (ai rfl) (ai rfl) (ez rfl) rfl (ez rfl) rfl aa)):p:=h
theorem Q16 {p:Prop} (h:p:=by (first|exact au.refl _|exact qF.pC (au.refl _) rfl|(refine qF.one rfl rfl ?_;skip)|(refine qF.bQ ?_;(repeat(first|exact eO.bI rfl|exact pB.nil|refine pB.cons ?_ ?_|(refine eO.cf rfl ?_;(first|rfl|omega|(simp<;>fail)|(simp<;>omega)))|refine eO.agg ?_))))):p:=h
theorem Q17 {p:Prop} (h:p:=by (first|exact au.refl _|exact qF.pC (au.refl _) rfl|(refine qF.one rfl rfl ?_;skip)|(refine qF.bQ ?_;(repeat(first|exact eO.bI rfl|exact pB.nil|refine pB.cons ?_ ?_|(refine eO.cf rfl ?_;(first|rfl|omega|(simp<;>fail)|(simp<;>omega)))))))):p:=h
theorem Q18 {p:Prop} (h:p:=by repeat(first|exact Vn.nil|refine Vn.cons ?_ ?_|exact Wk.nil|exact Wk.refl|refine Wk.agg ?_)):p:=h
theorem Q19 {p:Prop} (h:p:=by (first|exact au.refl _|exact qF.pC (au.refl _) rfl|(refine qF.one rfl rfl ?_;(repeat(first|exact eO.bI rfl|exact pB.nil|refine pB.cons ?_ ?_|(refine eO.cf rfl ?_;(first|rfl|omega|(simp<;>fail)|(simp<;>omega)))|refine eO.agg ?_)))|(refine qF.bQ ?_;skip))):p:=h
theorem Q20 {p:Prop} (h:p:=by exact (CP rfl (ai rfl) (gA rfl) (gA rfl) (.inl rfl) (ez rfl) rfl (ez rfl) rfl aa)):p:=h
theorem Q21 {p:Prop} (h:p:=by exact (iW (α:=Int×Int) (d:=(0,0)) rfl (ai rfl) (ai rfl) (ez rfl) rfl (ez rfl) rfl aa)):p:=h
theorem Q22 {p:Prop} (h:p:=by exact (rX (α:=Rat) (d:=0) rfl (ai rfl) (ai rfl) (ez rfl) rfl (ez rfl) rfl aa)):p:=h
theorem Gv {p:Prop} (h:p:=by exact (Gp rfl rfl rfl)):p:=h
theorem Oa {p:Prop} (h:p:=by have:=h.2;split<;>omega):p:=h
theorem Pg {p:Prop} (h:p:=by exact (D5 rfl (ai rfl))):p:=h
theorem Q26 {p:Prop} (h:p:=by repeat(first|exact ak|refine Ph rfl ?_)):p:=h
theorem Vo {p:Prop} (h:p:=by rw[Int.natAbs_natCast];omega):p:=h
theorem Gw {p:Prop} (h:p:=by decide+kernel):p:=h
theorem Q29 {p:Prop} (h:p:=by (first|exact au.refl _|exact qF.pC (au.refl _) rfl|(refine qF.one rfl rfl ?_;(repeat(first|(refine eO.seq rfl (by first|rfl|(apply bO;intro _;rfl)) ?_;(first|rfl|omega|(simp<;>fail)|(simp<;>omega))))))|(refine qF.bQ ?_;skip))):p:=h
theorem Q30 {p:Prop} (h:p:=by (first|exact au.refl _|exact qF.pC (au.refl _) rfl|(refine qF.one rfl rfl ?_;skip)|(refine qF.bQ ?_;(repeat(first|exact eO.bI rfl|exact pB.nil|refine pB.cons ?_ ?_|exact eO.aam))))):p:=h
theorem Pj {p:Prop} (h:p:=by rw[dm];omega):p:=h
theorem Q32 {p:Prop} (h:p:=by rw[Int.natAbs_mul,Int.natAbs_natCast];omega):p:=h
theorem Q33 {p:Prop} (h:p:=by have:=Int.sign_nonneg_iff.2 (show 0<=(a:Int) - b by omega);omega):p:=h
theorem tl0:ti5.bytes=1/\Va.bytes=4/\ti3.bytes=8/\IE.bytes=8/\ti9.bytes=16/\Vg.bytes=56/\Pf.bytes=56/\Vb.bytes=24/\Vh.bytes=24/\Vf.bytes=32/\Vd.bytes=8/\ti4.bytes=1/\Vk.bytes=24/\Vl.bytes=32/\Vi.bytes=24/\Vc.bytes=40/\Vj.bytes=24/\Ve.bytes=24:=⟨rfl,rfl,rfl,rfl,rfl,rfl,rfl,rfl,rfl,rfl,rfl,rfl,rfl,rfl,rfl,rfl,rfl,rfl⟩
theorem bC:Tryz.prog.follows .mixedOrders=true:=aD
abbrev C0 (f:FuncId) (a:List SV) (c:SV):Prop:=aL Tryz.prog f a [] c [] []
theorem bB (Z:List Nat) {f:FuncId} {fn':Func} {code:Code} {args:List SV} {c:SV} (hf:Tryz.prog.funcs[f]?=some fn') (h:∀ W0 w0 ρ0,Env.OK ⟨Tryz.prog,FK,W0,w0,fn'.ntmps,ρ0,[],Z,none⟩->Ee ⟨Tryz.prog,FK,W0,w0,fn'.ntmps,ρ0,[],Z,none⟩ code (N9 FK fn'.results.toList λsv _=>au sv c) (enum 0 args) []) (hb:fn'.body=some code:=by exact rfl) (hn:(fn'.name=="runtime.NumGoroutine")=false:=by kernel_rfl) (ha:aS args=true:=by exact rfl) (hc:bI c=true:=by exact rfl) (hnt:Nat.ble args.length fn'.ntmps=true:=by kernel_rfl) (hp:args.all bs=true:=by exact rfl):C0 f args c:=adm (Z:=Z) aH bC hf hb hn ha hc hnt hp h
theorem kg (Z:List Nat) {f:FuncId} {fn':Func} {code:Code} {args:List SV} {c:SV} (hf:Tryz.prog.funcs[f]?=some fn') (h:∀ w0 ρ0,Env.OK ⟨Tryz.prog,FK,λ_=>False,w0,fn'.ntmps,ρ0,[],Z,none⟩->Ee ⟨Tryz.prog,FK,λ_=>False,w0,fn'.ntmps,ρ0,[],Z,none⟩ code (N9 FK fn'.results.toList λsv hp=>qF sv hp c) (enum 0 args) []) (hb:fn'.body=some code:=by exact rfl) (hn:(fn'.name=="runtime.NumGoroutine")=false:=by kernel_rfl) (ha:aS args=true:=by first|rfl|(simp[aS,bI,bO, *];done)) (hc:bI c=true:=by first|rfl|(simp[aS,bI,bO, *];done)) (hnt:Nat.ble args.length fn'.ntmps=true:=by kernel_rfl) (hp:args.all bs=true:=by exact rfl):C0 f args c:=adp (Z:=Z) aH bC hf hb hn ha hc hnt hp h
def fu:List TypeId:=[25,43,45,47,49,261]
theorem cd:Af Tryz.prog fu:=by
 have h:fu.all (λt=> !Tryz.prog.stoodInHeld t&&(Tryz.prog.fieldsOf t).toList.all (λf=>f.name != "_"))=true:=aD
 intro t ht;have:=aiy.1 h t ht;simpa using this
theorem mu:Tryz.prog.eqGuardType Tryz.prog.depth 43=false:=aD
theorem Jc:Tryz.prog.eqGuardType Tryz.prog.depth 45=false:=aD
theorem oK (a b:Nat):Ae FK fu 10 43 (bU a) (bU b)=some (decide (a=b)):=by
 rw[<-pA,<-aiX (low a==low b&&_),Bool.and_assoc];rfl
theorem M8 (a b:Nat):Ae FK fu 10 45 (bU a) (bU b)=some (decide (a=b)):=by
 have:Ae FK fu 10 45 (bU a) (bU b)=some (((low a==low b)&&(((sQ a).toList==(sQ b).toList)&&true))&&true):=rfl;rw[this,aiX,aiX,pA]
theorem CV (n:Nat) (hn:n<18446744073709551616):C0 150 [.val (.int .u64 n)] (.nat n):=by
 refine bB [] Tryz.func150 ?_;intro W0 w0 ρ0 hE;conv=>whnf
 exact fb (l:=bU n) (by rw[mJ hn];rfl) rfl (λ_ h=>by cases h)
theorem yM (n:Nat):C0 192 [.nat n] (.val (.bool (decide (n=0)))):=by
 refine bB [] Tryz.func192 ?_;intro W0 w0 ρ0 hE;conv=>whnf
 refine⟨_,bV aH cd rfl (ai rfl) (ai rfl) rfl rfl rfl rfl (oK n 0) mu, ?_⟩;conv=>whnf
 exact au.refl _
theorem KQ (n:Nat):C0 156 [.nat n] (.val (.bool (decide (n=0)))):=by
 refine bB [] Tryz.func156 ?_;intro W0 w0 ρ0 hE;conv=>whnf
 refine⟨_,bV aH cd rfl (ai rfl) (ai rfl) rfl rfl rfl rfl (M8 n 0) Jc, ?_⟩;conv=>whnf
 exact au.refl _
theorem Gx (z:Int):C0 96 [.int z] (.nat z.natAbs):=by
 refine bB [] Tryz.func96 ?_;intro W0 w0 ρ0 hE;conv=>whnf
 exact fb (l:=bU z.natAbs) rfl rfl (λ_ h=>by cases h)
theorem dO (n:Nat):((sQ n).toList==(ϱ #[]).toList)=decide (n<18446744073709551616):=by
 rw[ajq,show(ϱ #[]).toList=[]from by rw[aih]];simp[oF]
def signed (neg:Bool) (n:Nat):Int:=if neg then -(n:Int)else n
theorem iN (neg:Bool) (n:Nat):C0 95 [.val (.bool neg),.nat n] (.int (signed neg n)):=by
 refine bB [] Tryz.func95 ?_;intro W0 w0 ρ0 hE;cases neg
 ·conv=>whnf
  refine⟨(λh=>by cases h),λ_=> ?_⟩;conv=>whnf
  refine⟨(λh=>by cases h),λ_=> ?_⟩;conv=>whnf
  refine⟨(λh=>by cases h),λ_=> ?_⟩;conv=>whnf
  refine⟨.val (.bool false),[],[],[],nK rfl (ai rfl) (λhb=>by cases hb) (λ_=>ai rfl) rfl (c1:=.any),aF,ak,ar, ?_⟩;conv=>whnf
  refine⟨aD, ?_⟩;conv=>whnf
  refine fb (l:=ef (signed false n)) ?_ rfl (λ_ h=>by cases h);have e1:(signed false n).natAbs=n:=by simp[signed]
  have e2:decide (signed false n<0)=false:=by simp[signed]
  rw[ef,e1,e2];rfl
 ·conv=>whnf
  refine⟨λ_=> ?_,λh=>by cases h⟩;conv=>whnf
  refine⟨λ_=> ?_,λh=>by cases h⟩;conv=>whnf
  refine⟨[],_,[],[],KQ n,aF,ak,ar, ?_⟩;conv=>whnf
  refine⟨λ_=> ?_,λh=>by cases h⟩;conv=>whnf
  refine⟨.val (.bool (!decide (n=0))),[],[],[],nK rfl (ai rfl) (λ_=>ai rfl) (λhb=>by cases hb) rfl (c2:=.any),aF,ak,ar, ?_⟩;conv=>whnf
  refine⟨aD, ?_⟩;conv=>whnf
  refine fb (l:=ef (signed true n)) ?_ rfl (λ_ h=>by cases h);have e1:(signed true n).natAbs=n:=by simp[signed]
  have e2:decide (signed true n<0)= !decide (n=0):=by rw[ajq];simp[signed];omega
  rw[ef,e1,e2];rfl
theorem En (z:Int):C0 106 [.int z] (.val (.int .i64 z.sign)):=by
 refine bB [] Tryz.func106 ?_;intro W0 w0 ρ0 hE;conv=>whnf
 refine⟨[],_,[],[],KQ z.natAbs,aF,ak,ar, ?_⟩;conv=>whnf
 refine⟨λh=> ?_,λh=> ?_⟩
 ·have hz:z=0:=by have:=of_decide_eq_true h;omega
  conv=>whnf
  subst hz;exact au.refl _
 ·have hz:z≠0:=by have:=of_decide_eq_false h;omega
  conv=>whnf
  refine⟨λh=> ?_,λh=> ?_⟩
  ·have hz:z.sign= -1:=ϕ (of_decide_eq_true h);conv=>whnf
   rw[hz];exact au.refl _
  ·have hz:z.sign=1:=ϰ (by have:=of_decide_eq_false h;omega);conv=>whnf
   rw[hz];exact au.refl _
theorem Pk (z:Int):C0 98 [.int z] (.int (-z)):=by
 refine bB [] Tryz.func98 ?_;intro W0 w0 ρ0 hE;conv=>whnf
 refine⟨[],_,[],[],iN (!decide (z<0)) z.natAbs,aF,ak,ar, ?_⟩;have e:signed (!decide (z<0)) z.natAbs= -z:=by
  unfold signed;by_cases h:z<0<;>simp[h]<;>omega
 rw[e];conv=>whnf
 exact au.refl _
theorem KT (z:Int) (h0: -9223372036854775808<=z) (h1:z<9223372036854775808):C0 97 [.val (.int .i64 z)] (.int z):=by
 refine bB [] Tryz.func97 ?_;intro W0 w0 ρ0 hE;conv=>whnf
 refine⟨λh=> ?_,λh=> ?_⟩
 ·have hz:=of_decide_eq_true h;conv=>whnf
  have e1:Ζ.wrap (0 - Ζ.wrap z)=((z.natAbs:Nat):Int):=by rw[rW,rW];omega
  rw[e1];refine⟨[],_,[],[],CV z.natAbs aa,aF,ak,ar, ?_⟩;conv=>whnf
  refine⟨[],_,[],[],iN true z.natAbs,aF,ak,ar, ?_⟩;have e:signed true z.natAbs=z:=by simp[signed];omega
  rw[e];conv=>whnf
  exact au.refl _
 ·have hz:=of_decide_eq_false h;conv=>whnf
  have e1:Ζ.wrap z=((z.natAbs:Nat):Int):=by rw[rW];omega
  rw[e1];refine⟨[],_,[],[],CV z.natAbs aa,aF,ak,ar, ?_⟩;conv=>whnf
  refine⟨[],_,[],[],iN false z.natAbs,aF,ak,ar, ?_⟩;have e:signed false z.natAbs=z:=by simp[signed];omega
  rw[e];conv=>whnf
  exact au.refl _
structure lh (M:Nat):Prop where
 sQ:64<=M
 cmp:∀a b,sz a<=M->sz b<=M->C0 193 [.nat a,.nat b] (.val (.int .i64 ((a:Int) - b).sign))
 add:∀a b,sz (a+b)<=M->C0 151 [.nat a,.nat b] (.nat (a+b))
 sub:∀a b,sz a<=M->b<=a->C0 149 [.nat a,.nat b] (.bQ [.nat (a - b),.val (.bool true)])
 aa4:∀a b,sz b<=M->a<b->C0 149 [.nat a,.nat b] (.bQ [.nat 0,.val (.bool false)])
 mul:∀a b,sz a+sz b<=M->C0 94 [.nat a,.nat b] (.nat (a*b))
 div:∀a b,sz a<=M->sz b<=M->b≠0->C0 148 [.nat a,.nat b] (.bQ [.nat (a/b),.nat (a % b),.val (.bool true)])
 aa5:∀a,C0 148 [.nat a,.nat 0] (.bQ [.nat 0,.nat 0,.val (.bool false)])
 gcd:∀a b,sz a<=M->sz b<=M->C0 147 [.nat a,.nat b] (.nat (ac2 a b))
variable {M:Nat}
theorem iO (s:Bool) (n:Nat):(signed s n).natAbs=n:=by cases s<;>simp[signed]
theorem Pm (ok:lh M) (a b:Int) (ha:sz a.natAbs<M) (hb:sz b.natAbs<M):
  C0 146 [.int a,.int b] (.int (a+b)):=by
 have hs:sz (a.natAbs+b.natAbs)<=M:=by
  have:=Ah (k:=M - 1) (show sz a.natAbs<=M - 1 by omega) (show sz b.natAbs<=M - 1 by omega);omega
 refine bB [] Tryz.func146 ?_;intro W0 w0 ρ0 hE;conv=>whnf
 refine⟨λh1=> ?_,λh1=> ?_⟩
 ·have h1:decide (a<0)=decide (b<0):=by simpa using h1
  conv=>whnf
  refine⟨[],_,[],[],(ok.add _ _ hs),aF,ak,ar, ?_⟩;conv=>whnf
  have e:signed (decide (a<0)) (a.natAbs+b.natAbs)=a+b:=by
   have:=decide_eq_decide.1 h1;unfold signed;by_cases h:a<0<;>simp[h]<;>omega
  have:=iN (decide (a<0)) (a.natAbs+b.natAbs);rw[e]at this;refine⟨[],_,[],[],(this),aF,ak,ar, ?_⟩;conv=>whnf
  (repeat(first|(refine aq aD ?_;conv=>whnf)));exact au.refl _
 ·have h1:¬(a<0↔b<0):=by
   intro h2;simp[h2]at h1
  conv=>whnf
  by_cases At:b.natAbs<=a.natAbs
  ·refine⟨[],_,[],[],(ok.sub a.natAbs b.natAbs aa At),aF,ak,ar, ?_⟩;conv=>whnf
   (repeat(first|(refine ag rfl rfl ?_;conv=>whnf)))
   have e:signed (decide (a<0)) (a.natAbs - b.natAbs)=a+b:=by
    unfold signed;by_cases h:a<0<;>simp[h]<;>omega
   have:=iN (decide (a<0)) (a.natAbs - b.natAbs);rw[e]at this;refine⟨[],_,[],[],(this),aF,ak,ar, ?_⟩;conv=>whnf
   skip;exact au.refl _
  ·refine⟨[],_,[],[],(ok.aa4 a.natAbs b.natAbs aa aa),aF,ak,ar, ?_⟩;conv=>whnf
   (repeat(first|(refine ae rfl rfl ?_;conv=>whnf)))
   refine⟨[],_,[],[],(ok.sub b.natAbs a.natAbs aa aa),aF,ak,ar, ?_⟩;conv=>whnf
   have e:signed (decide (b<0)) (b.natAbs - a.natAbs)=a+b:=by
    unfold signed;by_cases h:b<0<;>simp[h]<;>omega
   have:=iN (decide (b<0)) (b.natAbs - a.natAbs);rw[e]at this;refine⟨[],_,[],[],(this),aF,ak,ar, ?_⟩;conv=>whnf
   skip;exact au.refl _
theorem Jd (f:FuncId) (a b c:Int) (hc:C0 f [.int a,.int b] (.int c)):
  C0 145 [.clo f [] [],.int a,.int b] (.int c):=by
 refine bB [] Tryz.func145 ?_;intro W0 w0 ρ0 hE;conv=>whnf
 refine⟨[],_,[],[],(hc),aF,ak,ar, ?_⟩;conv=>whnf
 skip;exact au.refl _
theorem Au (ok:lh M) (a b:Int) (ha:sz a.natAbs<M) (hb:sz b.natAbs<M):
  C0 89 [.int a,.int b] (.int (a+b)):=by
 refine bB [] Tryz.func89 ?_;intro W0 w0 ρ0 hE;conv=>whnf
 refine⟨[],_,[],[],(Jd _ a b _ (Pm ok a b ha hb)),aF,ak,ar, ?_⟩;conv=>whnf
 skip;exact au.refl _
theorem Pn (ok:lh M) (a b:Int) (ha:sz a.natAbs<M) (hb:sz b.natAbs<M):
  C0 160 [.int a,.int b] (.int (a - b)):=by
 rw[Int.sub_eq_add_neg];refine bB [] Tryz.func160 ?_;intro W0 w0 ρ0 hE;conv=>whnf
 refine⟨[],_,[],[],(Pk b),aF,ak,ar, ?_⟩;conv=>whnf
 refine⟨[],_,[],[],(Jd _ a (-b) _ (Pm ok a (-b) ha (by rwa [Int.natAbs_neg]))),aF,ak,ar, ?_⟩;conv=>whnf
 (repeat(first|(refine aq aD ?_;conv=>whnf)));exact au.refl _
theorem Av (a b:Int):signed (decide (a<0) != decide (b<0)) (a.natAbs*b.natAbs)=a*b:=by
 unfold signed;rw[Ρ];by_cases h1:a<0<;>by_cases h2:b<0
 ·rw[show(a.natAbs:Int)= -a from aa,show(b.natAbs:Int)= -b from by omega];simp[h1,h2,alD]
 ·rw[show(a.natAbs:Int)= -a from aa,show(b.natAbs:Int)=b from by omega];simp[h1,h2,akC]
 ·rw[show(a.natAbs:Int)=a from aa,show(b.natAbs:Int)= -b from by omega];simp[h1,h2,akD]
 ·rw[show(a.natAbs:Int)=a from aa,show(b.natAbs:Int)=b from by omega];simp[h1,h2]
theorem Vp (ok:lh M) (a b:Int) (h:sz a.natAbs+sz b.natAbs<=M):
  C0 152 [.int a,.int b] (.int (a*b)):=by
 refine bB [] Tryz.func152 ?_;intro W0 w0 ρ0 hE;conv=>whnf
 refine⟨[],_,[],[],(ok.mul _ _ h),aF,ak,ar, ?_⟩;conv=>whnf
 have:=iN (decide (a<0) != decide (b<0)) (a.natAbs*b.natAbs);rw[Av]at this;refine⟨[],_,[],[],(this),aF,ak,ar, ?_⟩;conv=>whnf
 (repeat(first|(refine aq aD ?_;conv=>whnf)));exact au.refl _
theorem uH (ok:lh M) (a b:Int) (h:sz a.natAbs+sz b.natAbs<=M):
  C0 92 [.int a,.int b] (.int (a*b)):=by
 refine bB [] Tryz.func92 ?_;intro W0 w0 ρ0 hE;conv=>whnf
 refine⟨[],_,[],[],(Jd _ a b _ (Vp ok a b h)),aF,ak,ar, ?_⟩;conv=>whnf
 skip;exact au.refl _
theorem Gy {a b q r:Int} (h1:r+b*q=a) (h2:0<=r) (h3:r<b.natAbs):a/b=q/\a % b=r:=by
 have hb:b≠0:=aa;rcases ak7 hb with h|h
 ·have:=(akE (a:=a) (b:= -b) (r:=r) (q:= -q) aa).2 ⟨by rw[alD];exact h1,h2,aa⟩;rw[Int.ediv_neg,Int.emod_neg]at this;exact⟨aa,this.2⟩
 ·exact(akE (a:=a) (b:=b) (r:=r) (q:=q) h).2 ⟨h1,h2,aa⟩
theorem aa6 (a b:Int) (Q M:Nat) (hA:(b.natAbs:Int)*(Q:Int)+(M:Int)=(a.natAbs:Int)) (aE:M<b.natAbs):
  (signed (decide (a<0)) M<0->a/b=signed (decide (a<0) != decide (b<0)) Q - b.sign/\a % b=signed (decide (a<0)) M+b.natAbs)/\
  (¬signed (decide (a<0)) M<0->a/b=signed (decide (a<0) != decide (b<0)) Q/\a % b=signed (decide (a<0)) M):=by
 have hs:b*b.sign=b.natAbs:=by
  rcases ai2 b 0 with h|h|h
  ·rw[ϕ h];omega
  ·omega
  ·rw[ϰ h];omega
 have hq:b*signed (decide (a<0) != decide (b<0)) Q=if a<0 then -((b.natAbs:Int)*Q)else(b.natAbs:Int)*Q:=by
  unfold signed;by_cases ha:a<0<;>by_cases hb:b<0
  ·rw[show(b.natAbs:Int)= -b from by omega];simp[ha,hb,akC]
  ·rw[show(b.natAbs:Int)=b from by omega];simp[ha,hb,akD]
  ·rw[show(b.natAbs:Int)= -b from by omega];simp[ha,hb,akD,akC]
  ·rw[show(b.natAbs:Int)=b from by omega];simp[ha,hb]
 refine⟨λhr=>Gy ?_ ?_ ?_,λhr=>Gy ?_ ?_ ?_⟩
 ·rw[Int.mul_sub,hs,hq];by_cases ha:a<0<;>simp[signed,ha]at hr ⊢<;>omega
 ·by_cases ha:a<0<;>simp[signed,ha]at hr ⊢<;>omega
 ·by_cases ha:a<0<;>simp[signed,ha]at hr ⊢<;>omega
 ·rw[hq];by_cases ha:a<0<;>simp[signed,ha]at hr ⊢<;>omega
 ·omega
 ·by_cases ha:a<0<;>simp[signed,ha]at hr ⊢<;>omega
theorem Vq (ok:lh M) (a:Int):C0 158 [.int a,.int 0] (.bQ [.int 0,.int 0,.val (.bool false)]):=by
 refine bB [] Tryz.func158 ?_;intro W0 w0 ρ0 hE;conv=>whnf
 refine⟨[],_,[],[],(ok.aa5 a.natAbs),aF,ak,ar, ?_⟩;conv=>whnf
 (repeat(first|(refine ag rfl rfl ?_;conv=>whnf)));exact au.refl _
theorem Je (z:Int):sz z.sign.natAbs<=1:=by
 rw[eW];have:z.sign.natAbs<=1:=by
  rcases ai2 z 0 with h|h|h
  ·rw[ϕ h];decide
  ·subst h;decide
  ·rw[ϰ h];decide
 omega
theorem aa7 (ok:lh M) (a b:Int) (ha:sz a.natAbs<M) (hb:sz b.natAbs<M) (h0:b≠0):
  C0 158 [.int a,.int b] (.bQ [.int (a/b),.int (a % b),.val (.bool true)]):=by
 have hM:=ok.sQ;refine bB [] Tryz.func158 ?_;intro W0 w0 ρ0 hE;conv=>whnf
 refine⟨[],_,[],[],(ok.div a.natAbs b.natAbs aa aa aa),aF,ak,ar, ?_⟩;conv=>whnf
 (repeat(first|(refine ae rfl rfl ?_;conv=>whnf)))
 refine⟨[],_,[],[],(iN _ _),aF,ak,ar, ?_⟩;conv=>whnf
 refine⟨[],_,[],[],(iN _ _),aF,ak,ar, ?_⟩;conv=>whnf
 (repeat(first|(refine aq aD ?_;conv=>whnf)))
 have hA:(b.natAbs:Int)*((a.natAbs/b.natAbs:Nat):Int)+((a.natAbs % b.natAbs:Nat):Int)=(a.natAbs:Int):=by
  rw[<-Ρ,<-Ϫ,abp]
 have aE:a.natAbs % b.natAbs<b.natAbs:=ab8 _ aa;have hdl:sz (a.natAbs/b.natAbs)<=sz a.natAbs:=I3 _ _;have Uz:sz (a.natAbs % b.natAbs)<=sz a.natAbs:=aaj _ _;obtain⟨u1,u2⟩:=aa6 a b (a.natAbs/b.natAbs) (a.natAbs % b.natAbs) hA aE;have hbq:(signed (decide (a<0) != decide (b<0)) (a.natAbs/b.natAbs)).natAbs=a.natAbs/b.natAbs:=iO _ _;have hbr:(signed (decide (a<0)) (a.natAbs % b.natAbs)).natAbs=a.natAbs % b.natAbs:=iO _ _;generalize a.natAbs/b.natAbs=Q at*;generalize a.natAbs % b.natAbs=M at*;generalize signed (decide (a<0) != decide (b<0)) Q=q at*;generalize signed (decide (a<0)) M=r at*;subst hbq hbr;refine⟨λh=> ?_,λh=> ?_⟩
 ·have hr:=of_decide_eq_true h;obtain⟨v1,v2⟩:=u1 hr;rw[v1,v2];conv=>whnf
  refine⟨[],_,[],[],(iN false b.natAbs),aF,ak,ar, ?_⟩;conv=>whnf
  rw[show signed false b.natAbs=(b.natAbs:Int)from rfl];refine⟨[],_,[],[],(Au ok r b.natAbs aa (by rw[abK];exact hb)),aF,ak,ar, ?_⟩;conv=>whnf
  (repeat(first|(refine aq aD ?_;conv=>whnf)))
  refine⟨[],_,[],[],(En b),aF,ak,ar, ?_⟩;conv=>whnf
  have hsb: -1<=b.sign/\b.sign<=1:=by
   rcases ai2 b 0 with h|h|h
   ·rw[ϕ h];omega
   ·omega
   ·rw[ϰ h];omega
  have:=Je b;refine⟨[],_,[],[],(KT b.sign aa aa),aF,ak,ar, ?_⟩;conv=>whnf
  refine⟨[],_,[],[],(Pn ok q b.sign aa aa),aF,ak,ar, ?_⟩;conv=>whnf
  (repeat(first|(refine aq aD ?_;conv=>whnf)));exact au.refl _
 ·obtain⟨v1,v2⟩:=u2 (of_decide_eq_false h);rw[v1,v2];conv=>whnf
  (repeat(first|(refine aq aD ?_;conv=>whnf)));exact au.refl _
end Go.Proofs.YtadphegfhgmgmaaGreatDoor
namespace Go.Proofs.YtadphegfhgmgmaaGreatDoor
open Go.Sx
def ui (q:Rat):Nat:=max (sz q.num.natAbs) (sz q.den)
theorem dJ (q:Rat):sz q.num.natAbs<=ui q:=Nat.le_max_left _ _
theorem dG (q:Rat):sz q.den<=ui q:=Nat.le_max_right _ _
theorem Jf {q:Rat} {k:Nat} (h1:sz q.num.natAbs<=k) (h2:sz q.den<=k):ui q<=k:=Nat.max_le.2 ⟨h1,h2⟩
theorem num_mkRat {n:Int} {d:Nat} (hd:d≠0):(mkRat n d).num=n/(ac2 n.natAbs d:Nat):=by
 rw[<-akb hd,Rat.num_normalize]
theorem den_mkRat {n:Int} {d:Nat} (hd:d≠0):(mkRat n d).den=d/ac2 n.natAbs d:=by
 rw[<-akb hd,Rat.den_normalize]
theorem CW {n:Int} {d:Nat} {k:Nat} (hd:d≠0) (h1:sz n.natAbs<=k) (h2:sz d<=k):ui (mkRat n d)<=k:=by
 refine Jf ?_ ?_
 ·rw[num_mkRat hd];refine Ι (fY ?_) h1;rw[Int.natAbs_ediv_of_dvd (Int.ofNat_dvd_left.2 (alr _ _)),abK];exact ac1 _ _
 ·rw[den_mkRat hd];exact Ι (I3 _ _) h2
theorem KU {a b:Rat}:ui (a+b)<=ui a+ui b+1:=by
 have ha:=dJ a;have ha':=dG a;have hb:=dJ b;have ie:=dG b;rw[Rat.add_def'];refine CW (agI a.den_nz b.den_nz) ?_ ?_
 ·have h1:=fU a.num.natAbs b.den;have h2:=fU b.num.natAbs a.den;refine Ι (fY (Int.natAbs_add_le _ _)) (Ah ?_ ?_)
  ·rw[ac6,abK];omega
  ·rw[ac6,abK];omega
 ·have:=fU a.den b.den;omega
theorem Vr {a b:Rat}:ui (a*b)<=ui a+ui b:=by
 have ha:=dJ a;have ha':=dG a;have hb:=dJ b;have ie:=dG b;rw[akd];refine CW (agI a.den_nz b.den_nz) ?_ ?_
 ·have h1:=fU a.num.natAbs b.num.natAbs;rw[ac6];omega
 ·have:=fU a.den b.den;omega
theorem KV (a:Rat):ui (-a)=ui a:=by simp[ui]
theorem Vs {a b:Rat}:ui (a - b)<=ui a+ui b+1:=by
 rw[Rat.sub_eq_add_neg,<-KV b];exact KU
theorem Aw (q:Rat):q.den - 1+1=q.den:=by have:=q.den_pos;omega
theorem xf (n:Nat) (h:n≠0):1<=sz n:=O2 h
variable {M:Nat}
theorem x8 (ok:lh M) (q:Rat) (h:sz q.den<=M):C0 91 [.frac q] (.nat q.den):=by
 refine bB [] Tryz.func91 ?_;intro W0 w0 ρ0 hE;conv=>whnf
 refine⟨[],_,[],[],(CV 1 ax),aF,ak,ar, ?_⟩;conv=>whnf
 have:=ok.add (q.den - 1) 1 (by rw[Aw];exact h);rw[Aw]at this;refine⟨[],_,[],[],(this),aF,ak,ar, ?_⟩;conv=>whnf
 (repeat(first|(refine aq aD ?_;conv=>whnf)));exact au.refl _
theorem nO {x:Int} {y:Nat} {q:Rat} (hx:x=q.num) (hy:y=q.den - 1):au (.agg [.int x,.nat y]) (.frac q):=by
 subst hx hy;exact fb (l:=bL q) rfl rfl (λ_ h=>by cases h)
theorem mM (ok:lh M) (n:Int) (d:Nat) (h1:sz n.natAbs<=M) (h2:sz d<=M) (hd:d≠0):
  C0 90 [.int n,.nat d] (.frac (mkRat n d)):=by
 have hb:=ok.sQ;have hg:ac2 n.natAbs d≠0:=λh=>hd (Nat.gcd_eq_zero_iff.1 h).2
 have hgs:sz (ac2 n.natAbs d)<=M:=Ι (O3 hd) h2;have hq:d/ac2 n.natAbs d≠0:=Nat.div_ne_zero_iff.2 ⟨hg,akA aa (ajv _ _)⟩;refine bB [] Tryz.func90 ?_;intro W0 w0 ρ0 hE;conv=>whnf
 refine⟨[],_,[],[],(Gx n),aF,ak,ar, ?_⟩;conv=>whnf
 refine⟨[],_,[],[],(ok.gcd n.natAbs d h1 h2),aF,ak,ar, ?_⟩;conv=>whnf
 (repeat(first|(refine aq aD ?_;conv=>whnf)))
 refine⟨[],_,[],[],(Gx n),aF,ak,ar, ?_⟩;conv=>whnf
 refine⟨[],_,[],[],(ok.div n.natAbs _ h1 hgs hg),aF,ak,ar, ?_⟩;conv=>whnf
 (repeat(first|(refine aq aD ?_;conv=>whnf)))
 refine⟨[],_,[],[],(ok.div d _ h2 hgs hg),aF,ak,ar, ?_⟩;conv=>whnf
 skip
 refine⟨[],_,[],[],(CV 1 ax),aF,ak,ar, ?_⟩;conv=>whnf
 refine⟨[],_,[],[],(ok.sub _ 1 (Ι (I3 _ _) h2) (ak4 hq)),aF,ak,ar, ?_⟩;conv=>whnf
 (repeat(first|(refine aq aD ?_;conv=>whnf)))
 refine⟨[],_,[],[],(En n),aF,ak,ar, ?_⟩;conv=>whnf
 have e:signed (decide (n.sign<0)) (n.natAbs/ac2 n.natAbs d)=(mkRat n d).num:=by
  rw[num_mkRat hd];have YG:ac2 n.natAbs d ∣ n.natAbs:=alr _ _;unfold signed;by_cases hn:n<0
  ·rw[ϕ hn];simp only[show decide ((-1:Int)<0)=true from rfl,if_true];have:n= -(n.natAbs:Int):=aa;rw[afA,<-Int.neg_ediv_of_dvd (Int.natCast_dvd_natCast.2 YG),<-this]
  ·have:¬n.sign<0:=λh=>hn (Int.sign_neg_iff.1 h)
   rw[decide_eq_false this];simp only[Κ,if_false];have:n=(n.natAbs:Int):=aa;rw[afA,<-this]
 have hf:=iN (decide (n.sign<0)) (n.natAbs/ac2 n.natAbs d);rw[e]at hf;refine⟨[],_,[],[],(hf),aF,ak,ar, ?_⟩;conv=>whnf
 (repeat(first|(refine aq aD ?_;conv=>whnf)))
 exact nO rfl (by rw[den_mkRat hd])
theorem Eo (n:Int):C0 88 [.int n] (.frac n):=by
 refine bB [] Tryz.func88 ?_;intro W0 w0 ρ0 hE;conv=>whnf
 skip
 exact nO rfl rfl
theorem dH (n:Int) (h0: -9223372036854775808<=n) (h1:n<9223372036854775808):C0 35 [.val (.int .i64 n)] (.frac n):=by
 refine bB [] Tryz.func35 ?_;intro W0 w0 ρ0 hE;conv=>whnf
 refine⟨[],_,[],[],(KT n h0 h1),aF,ak,ar, ?_⟩;conv=>whnf
 refine⟨[],_,[],[],(Eo n),aF,ak,ar, ?_⟩;conv=>whnf
 skip;exact au.refl _
theorem aeq (q:Rat):C0 99 [.frac q] (.int q.num):=by
 refine bB [] Tryz.func99 ?_;intro W0 w0 ρ0 hE;conv=>whnf
 skip
 exact fb (l:=ef q.num) rfl rfl (λ_ h=>by cases h)
theorem pJ (q:Rat):C0 41 [.frac q] (.val (.bool (decide (q.den=1)))):=by
 refine bB [] Tryz.func41 ?_;intro W0 w0 ρ0 hE;conv=>whnf
 skip
 refine⟨_,bV aH cd rfl (ai rfl) (ai rfl) rfl rfl rfl rfl (oK (q.den - 1) 0) mu, ?_⟩;have:=q.den_pos;rw[show decide (q.den - 1=0)=decide (q.den=1)from decide_eq_decide.2 aa];conv=>whnf
 skip;exact au.refl _
theorem iI (q:Rat):C0 46 [.frac q] (.val (.int .i64 q.num.sign)):=by
 refine bB [] Tryz.func46 ?_;intro W0 w0 ρ0 hE;conv=>whnf
 skip
 refine⟨[],_,[],[],(En q.num),aF,ak,ar, ?_⟩;conv=>whnf
 skip;exact au.refl _
theorem pK (q:Rat):C0 38 [.frac q] (.frac (-q)):=by
 refine bB [] Tryz.func38 ?_;intro W0 w0 ρ0 hE;conv=>whnf
 skip
 refine⟨[],_,[],[],(Pk q.num),aF,ak,ar, ?_⟩;conv=>whnf
 (repeat(first|(refine aq aD ?_;conv=>whnf)))
 exact nO rfl rfl
theorem oL (ok:lh M) (q:Rat) (h:sz q.den<=M):C0 93 [.frac q] (.int q.den):=by
 refine bB [] Tryz.func93 ?_;intro W0 w0 ρ0 hE;conv=>whnf
 refine⟨[],_,[],[],(x8 ok q h),aF,ak,ar, ?_⟩;conv=>whnf
 refine⟨[],_,[],[],(iN false q.den),aF,ak,ar, ?_⟩;conv=>whnf
 rw[show signed false q.den=(q.den:Int)from rfl]
 skip;exact au.refl _
theorem pL {q:Rat} (h:q.den=1):q=(q.num:Rat):=Rat.ext rfl h
theorem Jg (ok:lh M) (a b:Rat) (h:ui a+ui b<=M):C0 37 [.frac a,.frac b] (.frac (a*b)):=by
 have ha:=dJ a;have ha':=dG a;have hb:=dJ b;have ie:=dG b;have gen:C0 37 [.frac a,.frac b] (.frac (mkRat (a.num*b.num) (a.den*b.den)))->C0 37 [.frac a,.frac b] (.frac (a*b)):=by rw[akd];exact id
 have hw:a.den=1->b.den=1->((a.num*b.num:Int):Rat)=a*b:=by
  intro h1 h2;rw[pL h1,pL h2,Rat.intCast_mul];rfl
 have qv:=mM ok (a.num*b.num) (a.den*b.den) (by rw[ac6];have:=fU a.num.natAbs b.num.natAbs;omega) (by have:=fU a.den b.den;omega) (agI a.den_nz b.den_nz);rw[<-akd]at qv;have wa:=pJ a;have wb:=pJ b;have k1:=uH ok a.num b.num aa;have k2:=x8 ok a aa;have k3:=x8 ok b aa;have k4:=ok.mul a.den b.den aa;have k5:=Eo (a.num*b.num);refine bB [] Tryz.func37 ?_;intro W0 w0 ρ0 hE;conv=>whnf
 by_cases h1:a.den=1
 ·rw[decide_eq_true h1]at wa;by_cases h2:b.den=1
  ·rw[decide_eq_true h2]at wb;rw[hw h1 h2]at k5
   (repeat(first|(refine ag rfl rfl ?_;conv=>whnf)|(refine aN aJ ?_;conv=>whnf)|(refine an er ?_;conv=>whnf)));exact au.refl _
  ·rw[decide_eq_false h2]at wb
   (repeat((first|refine ag rfl rfl ?_|refine ae rfl rfl ?_|refine aq aD ?_|refine aN aJ ?_|refine an er ?_);conv=>whnf));exact au.refl _
 ·rw[decide_eq_false h1]at wa
  (repeat((first|refine ae rfl rfl ?_|refine aq aD ?_|refine aN aJ ?_|refine an dZ ?_);conv=>whnf));exact au.refl _
theorem KW (b:Rat):ui b⁻¹<=ui b:=by
 have h1:=dJ b;have h2:=dG b;by_cases h:b.num=0
 ·rw[ajR]at h;subst h;rw[Rat.inv_zero];exact ζ _
 ·refine Jf ?_ ?_
  ·rw[amj,ac6,abK];refine Ι (fY ?_) h2;have:b.num.sign.natAbs=1:=by rw[Int.natAbs_sign];simp[h]
   rw[this,Nat.one_mul];exact ζ _
  ·rw[amk,if_neg h];exact h1
theorem CX {b:Rat} (h:b.num≠0):mkRat (signed (decide (b.num.sign<0)) b.den) b.num.natAbs=b⁻¹:=by
 have hd:b.num.natAbs≠0:=aa;have hg:ac2 (signed (decide (b.num.sign<0)) b.den).natAbs b.num.natAbs=1:=by rw[iO];exact b.reduced.symm
 refine Rat.ext ?_ ?_
 ·rw[num_mkRat hd,hg,amj];rcases ak7 h with h'|h'
  ·rw[ϕ h'];simp[signed]
  ·rw[ϰ h'];simp[signed]
 ·rw[den_mkRat hd,hg,amk,if_neg h];simp
theorem Po (ok:lh M) (a b:Rat) (hb:b≠0) (h:ui a+ui b<=M):C0 45 [.frac a,.frac b] (.bQ [.frac (a/b),.val (.int .i64 0)]):=by
 have hn:b.num≠0:=λh=>hb (ajR.1 h)
 have h1:=dJ b;have h2:=dG b;have k1:=iI b;have k2:=x8 ok b aa;have k3:=iN (decide (b.num.sign<0)) b.den;have k4:=Gx b.num;have k5:=mM ok (signed (decide (b.num.sign<0)) b.den) b.num.natAbs (by rw[iO];omega) aa aa;rw[CX hn]at k5;have k6:=Jg ok a b⁻¹ (by have:=KW b;omega);rw[<-Rat.div_def]at k6;have hs:(b.num.sign==0)=false:=by simpa using hn
 refine bB [] Tryz.func45 ?_;intro W0 w0 ρ0 hE;conv=>whnf
 refine⟨[],_,[],[],(k1),aF,ak,ar, ?_⟩;conv=>whnf
 rw[hs]
 (repeat(first|(refine ae rfl rfl ?_;conv=>whnf)|(refine aq aD ?_;conv=>whnf)|(refine aN aJ ?_;conv=>whnf)));exact au.refl _
theorem Vt (a:Rat):C0 45 [.frac a,.frac 0] (.bQ [.frac 0,.val (.int .i64 5)]):=by
 have k1:=iI 0;refine bB [] Tryz.func45 ?_;intro W0 w0 ρ0 hE;conv=>whnf
 (repeat(first|(refine ag rfl rfl ?_;conv=>whnf)|(refine aN aJ ?_;conv=>whnf)));exact au.refl _
theorem aa8 {n:Int} (h0: -9223372036854775808<=n) (h1:n<9223372036854775808):sz n.natAbs<=64:=eW.2 aa
theorem yN {n:Int} {k:Nat} (h:sz n.natAbs<=k) (hk:1<=k):ui (n:Rat)<=k:=Jf h hk
theorem YH (ok:lh M) (n d:Int) (hM:ui (n:Rat)+ui (d:Rat)<=M) (h0: -9223372036854775808<=n) (h1:n<9223372036854775808) (h2: -9223372036854775808<=d) (h3:d<9223372036854775808) (hd:d≠0):
  C0 76 [.val (.int .i64 n),.val (.int .i64 d)] (.bQ [.frac ((n:Rat)/(d:Rat)),.val (.int .i64 0)]):=by
 have k1:=dH n h0 h1;have k2:=dH d h2 h3;have k3:=Po ok (n:Rat) (d:Rat) (λh=>hd (by simpa using h)) hM;refine bB [] Tryz.func76 ?_;intro W0 w0 ρ0 hE;conv=>whnf
 (repeat(first|(refine aN aJ ?_;conv=>whnf)));exact au.refl _
