/-
  RoundOf and AnsweredTo, the reference.
-/
import Derived.Test.YthjamlponejffaaZhNB
import Derived.Test.YthjamlponejffaaZhNC
import Derived.Test.YthjamlponejffaaZhCq
import Derived.Test.YthjamlponejffaaZhShelf2
namespace Go.Proofs.Ythjamlponejffaa
set_option linter.unusedVariables false
set_option linter.unusedSimpArgs false
open Go.RowKit
attribute [local irreducible] ap b7 Aw Le
theorem qK {g : Pa} (hg : PaOk g) {xs : List Int} (h : fL g.ar xs) : PG.Total (pgA g) fun v=>(v : Int) ∈ xs:=by
 intro v hv
 obtain ⟨k,hk,e⟩:=ck hv
 obtain ⟨i,h1,h2⟩:=h.2 k hk
 have h3:=h.1 k hk
 have hl:=hg.len
 rw [e,Int.toNat_natCast] at h1 h2
 obtain ⟨j,hj,e'⟩:=ck h2
 have h4:=h.1 j hj
 rw [e'] at h4
 have e5 : (((gi (gr g.ar.nxt v) i).toNat : Nat) : Int) = gi (gr g.ar.nxt v) i:=Int.toNat_of_nonneg h4.1
 exact ⟨(gi (gr g.ar.nxt v) i).toNat,(jf _ _).2 ⟨by omega,by omega,i,h1,e5.symm⟩,by show _ ∈ xs;rw [e5];exact h2⟩
structure AskF (g : Pa) (xs : List Int) (D : Nat) : Prop where
 inn : ∀ v : Nat,(v : Int) ∈ xs → v < g.prio.length
 tot : PG.Total (pgA g) fun v=>(v : Int) ∈ xs
 low : ∀ v : Nat,(v : Int) ∈ xs → (pgA g).prio v ≤ D
 lis : xs = lst (fun v : Nat=>(v : Int) ∈ xs) g.prio.length
theorem sK {g : Pa} {xs : List Int} {who mine yours : Int} {D : Nat} (h : gR g xs who D mine yours) : AskF g xs D:=by
 obtain ⟨hs,hG,_,_,_,_,ht,_⟩:=h
 have hl:=hs.1.len
 have hi : ∀ v : Nat,(v : Int) ∈ xs → v < g.prio.length:=fun v hv=>by
  obtain ⟨k,hk,e⟩:=ck hv
  have:=hG.1 k hk
  omega
 refine ⟨hi,qK hs.1 hG,fun v hv=>?_,pD ?_ fun x hx=>?_⟩
 · rw [show (pgA g).prio v = gi g.prio v from iy (eZ hs.1) (hi v hv)]
   obtain ⟨k,hk,e⟩:=ck hv
   have:=(kb.1 ht).2 k hk
   rwa [e,Int.toNat_natCast] at this
 · refine List.pairwise_iff_getElem.2 fun a b ha hb hab=>?_
   have:=lV hG.1 hab hb
   rwa [dC ha,dC hb] at this
 · obtain ⟨k,hk,e⟩:=ck hx
   have:=hG.1 k hk
   omega
open Classical in
noncomputable def qL (g : Pa) (xs : List Int) (who d mine yours : Int) : List Int:=if gR g xs who d mine yours then lst (qR (pgA g) (qA (pgA g) g.prio.length d.toNat) who (d.toNat : Int) mine yours fun v=>(v : Int) ∈ xs) g.prio.length else []
open Classical in
noncomputable def qM (g : Pa) (xs : List Int) (who d mine yours : Int) : List Int:=if gR g xs who d mine yours then lst (qA (pgA g) g.prio.length (d.toNat + 1) who (fun v=>(v : Int) ∈ xs) mine yours) g.prio.length else []
end Go.Proofs.Ythjamlponejffaa
