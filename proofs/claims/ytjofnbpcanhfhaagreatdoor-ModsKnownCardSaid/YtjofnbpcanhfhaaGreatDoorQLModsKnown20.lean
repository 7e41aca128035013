/- The texts Df. -/
import Derived.Test.YtjofnbpcanhfhaaGreatDoorQLModsKnown19
namespace Go.Proofs.YtjofnbpcanhfhaaGreatDoor
open Go.Sx
set_option linter.unusedSimpArgs false
set_option linter.unusedVariables false
set_option maxRecDepth 100000
set_option maxHeartbeats 4000000
def plist:List Int:=[2,3,5,7,11,101,257,10007,65537,1000003,16777259,2147483629,2147483647]
theorem prime_chk {p b k r:Nat} (h:(decide (2≤p)&&(decide (p<r*r)&&(decide (r≤2+k*b)&&noDivB p b k 2)))=true):PrimeN p:=by
 simp only[Bool.and_eq_true,decide_eq_true_eq]at h
 exact prime_of h.1 h.2.1 (fun e h1 _=>noDivB_spec h.2.2.2 e h1 (by omega))
theorem plist_prime:∀p∈plist,∃q:Nat,p=q∧PrimeN q∧q<4294967296:=by
 intro p hp
 simp only[plist,List.mem_cons,List.not_mem_nil,or_false]at hp
 rcases hp with rfl|rfl|rfl|rfl|rfl|rfl|rfl|rfl|rfl|rfl|rfl|rfl|rfl
 ·exact⟨2,rfl,prime_of (r:=2) (by decide) (by decide) (fun e _ _=>by omega),by decide⟩
 ·exact⟨3,rfl,prime_of (r:=2) (by decide) (by decide) (fun e _ _=>by omega),by decide⟩
 ·exact⟨5,rfl,prime_chk (r:=3) (k:=1) (b:=1) (by kernel_rfl),by decide⟩
 ·exact⟨7,rfl,prime_chk (r:=3) (k:=1) (b:=1) (by kernel_rfl),by decide⟩
 ·exact⟨11,rfl,prime_chk (r:=4) (k:=2) (b:=1) (by kernel_rfl),by decide⟩
 ·exact⟨101,rfl,prime_chk (r:=11) (k:=3) (b:=3) (by kernel_rfl),by decide⟩
 ·exact⟨257,rfl,prime_chk (r:=17) (k:=3) (b:=5) (by kernel_rfl),by decide⟩
 ·exact⟨10007,rfl,prime_chk (r:=102) (k:=10) (b:=10) (by kernel_rfl),by decide⟩
 ·exact⟨65537,rfl,prime_chk (r:=257) (k:=15) (b:=17) (by kernel_rfl),by decide⟩
 ·exact⟨1000003,rfl,prime_chk (r:=1001) (k:=27) (b:=37) (by kernel_rfl),by decide⟩
 ·exact⟨16777259,rfl,prime_chk (r:=4097) (k:=63) (b:=65) (by kernel_rfl),by decide⟩
 ·exact⟨2147483629,rfl,prime_chk (r:=46341) (k:=215) (b:=216) (by kernel_rfl),by decide⟩
 ·exact⟨2147483647,rfl,prime_chk (r:=46341) (k:=215) (b:=216) (by kernel_rfl),by decide⟩
theorem c_P (i:Int) (h0:0≤i):CallOK Tryz.prog 24 [.val (.int .u32 i)] [] (.val (.int .u32 (plist.getD (i % 13).toNat 0))) [] []:=by
 refine callV (Z:=[]) tabOK mixedOK Tryz.func24 rfl (by kernel_rfl) rfl rfl (by kernel_rfl) rfl ?_
 intro W0 w0 ρ0 hE
 conv=>whnf
 (repeat(first|(refine And.intro (by first|decide|omega|(simp only[tl0,dlen,List.length_replicate,List.length_set,List.length_map,List.length_zipWith,List.length_take,List.length_append,List.length_cons,List.length_nil];omega)) ?_;conv=>whnf)))
 rw[show IntKind.u32.wrap ((13:Nat):Int)=13 from rfl,Int.tmod_eq_emod_of_nonneg h0]
 (repeat(first|(refine And.intro (by first|decide|omega|(simp only[tl0,dlen,List.length_replicate,List.length_set,List.length_map,List.length_zipWith,List.length_take,List.length_append,List.length_cons,List.length_nil];omega)) ?_;conv=>whnf)))
 first|(refine⟨by show 0+(i % 13).toNat<13;omega, ?_⟩;conv=>whnf)|skip
 rw[Nat.zero_add]
 skip;exact Recast.refl _
end Go.Proofs.YtjofnbpcanhfhaaGreatDoor
