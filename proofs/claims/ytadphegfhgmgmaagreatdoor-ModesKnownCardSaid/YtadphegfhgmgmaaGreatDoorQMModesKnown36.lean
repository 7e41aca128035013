/- The texts Xk. -/
import Derived.Test.YtadphegfhgmgmaaGreatDoorQMModesKnown32
import Derived.Test.YtadphegfhgmgmaaGreatDoorQMModesKnown23
set_option linter.unusedSimpArgs false
set_option linter.unusedVariables false
set_option maxHeartbeats 4000000
set_option maxRecDepth 100000
open List renaming getD_cons_succ->abt,getD_cons_zero->aeL,length_set->ϒ,replicate->θ,set_cons_succ->agc,set_cons_zero->agb
open List.cons renaming injEq->afR
open Nat renaming add_zero->abC,reduceAdd->aiQ,reduceSub->aiR,sub_zero->ahF,zero_add->υ
namespace Go.Proofs.YtadphegfhgmgmaaGreatDoor
open Go.Sx
theorem afG {n:Nat} {v:List Rat} (h:v.length=n+1) (hn:n<=4):(n=0/\∃a,v=[a])\/(n=1/\∃a b,v=[a,b])\/(n=2/\∃a b c,v=[a,b,c])\/(n=3/\∃a b c d,v=[a,b,c,d])\/(n=4/\∃a b c d e,v=[a,b,c,d,e]):=by
 match v,h with
 |[a],h=>exact .inl ⟨by simp at h;omega,a,rfl⟩
 |[a,b],h=>exact .inr (.inl ⟨by simp at h;omega,a,b,rfl⟩)
 |[a,b,c],h=>exact .inr (.inr (.inl ⟨by simp at h;omega,a,b,c,rfl⟩))
 |[a,b,c,d],h=>exact .inr (.inr (.inr (.inl ⟨by simp at h;omega,a,b,c,d,rfl⟩)))
 |[a,b,c,d,e],h=>exact .inr (.inr (.inr (.inr ⟨by simp at h;omega,a,b,c,d,e,rfl⟩)))
 |_::_::_::_::_::_::_,h=>simp at h;omega
def wV (n:Nat) (v:List Rat):List Rat:=FQ n (IJ n n v) (n+1) (θ (n+1) 0)
def nf (a b c d e x:Rat):Rat:=a+x*(b+(x - 1)*(c+(x - 2)*(d+(x - 3)*e)))
theorem nf0 (a b c d e:Rat):nf a b c d e ((0:Nat):Rat)=a:=by rw[show((0:Nat):Rat)=0 from rfl,nf];grind
theorem nf1 (a b c d e:Rat):nf a b c d e ((1:Nat):Rat)=a+b:=by rw[show((1:Nat):Rat)=1 from rfl,nf];grind
theorem nf2 (a b c d e:Rat):nf a b c d e ((2:Nat):Rat)=a+2*b+2*c:=by rw[show((2:Nat):Rat)=2 from rfl,nf];grind
theorem nf3 (a b c d e:Rat):nf a b c d e ((3:Nat):Rat)=a+3*b+6*c+6*d:=by rw[show((3:Nat):Rat)=3 from rfl,nf];grind
theorem nf4 (a b c d e:Rat):nf a b c d e ((4:Nat):Rat)=a+4*b+12*c+24*d+24*e:=by rw[show((4:Nat):Rat)=4 from rfl,nf];grind
theorem nw1 (a b:Rat):IJ 1 1 [a,b]=[a,b - a]:=by
 simp only[IJ,Og,agb,agc,aeL,abt,abC,υ,ahF,aiQ,aiR,afR,and_true,true_and];simp<;>grind
theorem nw2 (a b c:Rat):IJ 2 2 [a,b,c]=[a,b - a,(c - 2*b+a)/2]:=by
 simp only[IJ,Og,agb,agc,aeL,abt,abC,υ,ahF,aiQ,aiR,afR,and_true,true_and];refine⟨?_, ?_⟩<;>simp<;>grind
theorem nw3 (a b c d:Rat):IJ 3 3 [a,b,c,d]=[a,b - a,(c - 2*b+a)/2,(d - 3*c+3*b - a)/6]:=by
 simp only[IJ,Og,agb,agc,aeL,abt,abC,υ,ahF,aiQ,aiR,afR,and_true,true_and];refine⟨?_, ?_, ?_⟩<;>simp<;>grind
theorem nw4 (a b c d e:Rat):IJ 4 4 [a,b,c,d,e]=[a,b - a,(c - 2*b+a)/2,(d - 3*c+3*b - a)/6,(e - 4*d+6*c - 4*b+a)/24]:=by
 simp only[IJ,Og,agb,agc,aeL,abt,abC,υ,ahF,aiQ,aiR,afR,and_true,true_and];refine⟨?_, ?_, ?_, ?_⟩<;>simp<;>grind
theorem ho0 (a x:Rat):cM (FQ 0 [a] 1 [0]) x=nf a 0 0 0 0 x:=by
 simp[FQ,L6,cM,nf]
 try grind
theorem ho1 (a b x:Rat):cM (FQ 1 [a,b] 2 [0,0]) x=nf a b 0 0 0 x:=by
 simp[FQ,L6,cM,nf]
 try grind
theorem UA (a b c x:Rat):cM (FQ 2 [a,b,c] 3 [0,0,0]) x=nf a b c 0 0 x:=by
 simp[FQ,L6,cM,nf]
 try grind
theorem ho3 (a b c d x:Rat):cM (FQ 3 [a,b,c,d] 4 [0,0,0,0]) x=nf a b c d 0 x:=by
 simp[FQ,L6,cM,nf]
 try grind
theorem ho4 (a b c d e x:Rat):cM (FQ 4 [a,b,c,d,e] 5 [0,0,0,0,0]) x=nf a b c d e x:=by
 simp[FQ,L6,cM,nf]
 try grind
theorem ME (t:Nat):∀j w,(L6 t j w).length=w.length
 |0,_=>rfl
 |j+1,w=>by rw[L6,ME t j,ϒ]
theorem MF (n:Nat) (v:List Rat):∀k w,(FQ n v k w).length=w.length
 |0,_=>rfl
 |k+1,w=>by rw[FQ,MF n v k,ϒ,ME]
theorem Uj (n:Nat) (v:List Rat):(wV n v).length=n+1:=by rw[wV,MF,List.length_replicate]
theorem q2 (a b c:Rat):a+2*(b - a)+2*((c - 2*b+a)/2)=c:=by grind
theorem q3 (a b c d:Rat):a+3*(b - a)+6*((c - 2*b+a)/2)+6*((d - 3*c+3*b - a)/6)=d:=by grind
theorem q4 (a b c d e:Rat):a+4*(b - a)+12*((c - 2*b+a)/2)+24*((d - 3*c+3*b - a)/6)+24*((e - 4*d+6*c - 4*b+a)/24)=e:=by grind
theorem q1 (a b:Rat):a+(b - a)=b:=by grind
theorem acI {k n:Nat} (h:k<n+1) (hn:n<=4):k=0\/(k=1/\1<=n)\/(k=2/\2<=n)\/(k=3/\3<=n)\/(k=4/\4<=n):=aa
theorem XM {n:Nat} {v:List Rat} (h:v.length=n+1) (hn:n<=4):∀k:Nat,k<n+1->cM (wV n v) k=v.getD k 0:=by
 intro k hk;have kQ:=acI hk hn;rcases afG h hn with⟨rfl,a,rfl⟩|⟨rfl,a,b,rfl⟩|⟨rfl,a,b,c,rfl⟩|⟨rfl,a,b,c,d,rfl⟩|⟨rfl,a,b,c,d,e,rfl⟩
 ·rw[wV,show IJ 0 0 [a]=[a]from rfl,show θ (0+1) (0:Rat)=[0]from rfl,ho0];rcases kQ with rfl|⟨rfl,g⟩|⟨rfl,g⟩|⟨rfl,g⟩|⟨rfl,g⟩
  ·exact nf0 ..
  all_goals omega
 ·rw[wV,nw1,show θ (1+1) (0:Rat)=[0,0]from rfl,ho1];rcases kQ with rfl|⟨rfl,g⟩|⟨rfl,g⟩|⟨rfl,g⟩|⟨rfl,g⟩
  ·exact nf0 ..
  ·exact(nf1 ..).trans (q1 a b)
  all_goals omega
 ·rw[wV,nw2,show θ (2+1) (0:Rat)=[0,0,0]from rfl,UA];rcases kQ with rfl|⟨rfl,g⟩|⟨rfl,g⟩|⟨rfl,g⟩|⟨rfl,g⟩
  ·exact nf0 ..
  ·exact(nf1 ..).trans (q1 a b)
  ·exact(nf2 ..).trans (q2 a b c)
  all_goals omega
 ·rw[wV,nw3,show θ (3+1) (0:Rat)=[0,0,0,0]from rfl,ho3];rcases kQ with rfl|⟨rfl,g⟩|⟨rfl,g⟩|⟨rfl,g⟩|⟨rfl,g⟩
  ·exact nf0 ..
  ·exact(nf1 ..).trans (q1 a b)
  ·exact(nf2 ..).trans (q2 a b c)
  ·exact(nf3 ..).trans (q3 a b c d)
  all_goals omega
 ·rw[wV,nw4,show θ (4+1) (0:Rat)=[0,0,0,0,0]from rfl,ho4];rcases kQ with rfl|⟨rfl,g⟩|⟨rfl,g⟩|⟨rfl,g⟩|⟨rfl,g⟩
  ·exact nf0 ..
  ·exact(nf1 ..).trans (q1 a b)
  ·exact(nf2 ..).trans (q2 a b c)
  ·exact(nf3 ..).trans (q3 a b c d)
  ·exact(nf4 ..).trans (q4 a b c d e)
theorem XN {n:Nat} {v c:List Rat} (h:v.length=n+1) (hn:n<=4) (hc:c.length=n+1) (hv:∀k:Nat,k<n+1->cM c k=v.getD k 0):wV n v=c:=
 zu (Uj ..) hc λk hk=>(XM h hn k hk).trans (hv k hk).symm
