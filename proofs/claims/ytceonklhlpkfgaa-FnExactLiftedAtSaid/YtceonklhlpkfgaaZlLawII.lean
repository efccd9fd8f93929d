/-
  Lists of lists in the exact laws' walks.
-/
import Derived.Test.YtceonklhlpkfgaaZlLaw
import Derived.Test.YtceonklhlpkfgaaZlCb
namespace Go.Proofs.Ytceonklhlpkfgaa
set_option linter.unusedVariables false
set_option linter.unusedSimpArgs false
open Go.RowKit
def sC (xss : List (List Int)) : Prop:=∀ k,k < xss.length → Wf (gr xss k)
theorem q9 {w : World} {s : Option Addr} {n c : Nat} {g : List (List Int)} (h : cg w (.slice s n c) g) : Rws w s n c g:=h.rws
def qc (w : World) (g : List (List Int)) (e : Ending) (w' : World) : Prop:=∃ s n c,e = .returned (.slice s n c) ∧ cC w.heap.size w'.heap.size w' (.slice s n c) g ∧ Below w.heap.size w w'
theorem eG {s : Option Addr} {n c : Nat} {g : List (List Int)} {w : World} (h : cg w (.slice s n c) g) (hs : cm g ≤ 1048576) : Calls Try.prog 9 #[.slice s n c] w (qc w g):=by
 have hl : g.length = n:=h.rws.len
 unfold cm at hs
 exact (jQ _ _ _ _ _ h.rws (by omega) fun k hk=>by
  have:=eB g (j:=k + 1) (k:=g.length) (by omega)
  simp only [ce] at this;omega).mono fun _ _ ⟨_,sa,c,e,h1,h2⟩=>⟨sa,n,c,e,h1,h2⟩
theorem eH {a b : Value} {x y : List (List Int)} {w : World} (hx : cg w a x) (hy : cg w b y) : Calls Try.prog 11 #[a,b] w (Bb w (tf (x = y))):=by
 obtain ⟨_,_,_,rfl,h1⟩:=hx
 obtain ⟨_,_,_,rfl,h2⟩:=hy
 exact (fm _ _ _ _ _ _ _ _ _ h1 h2).mono fun _ _ h=>h.bb
theorem iA (xss : List (List Int)) : bL xss ≤ cm xss:=by unfold bL cm;omega
theorem gI {lo hi : Nat} {w : World} {s : Option Addr} {n c : Nat} {xss : List (List Int)} (h : cC lo hi w (.slice s n c) xss) (k : Int) (h0 : 0 ≤ k) (hk : k ≤ 576460752303423488) (hs : cm xss ≤ 1048576) (hhi : hi ≤ w.heap.size) :
  Calls Try.prog 14 #[.slice s n c,.int .i64 k] w fun e w'=>e = .returned (.int .i64 (k + bL xss)) ∧ cC lo hi w' (.slice s n c) (jc xss k) ∧ Outside lo hi w w':=by
 obtain ⟨vs,h⟩:=h
 have hl:=h.len
 have h2:=iA xss
 have h3 : xss.length ≤ cm xss:=by unfold cm;omega
 refine (gC h k h0 (by omega) (by omega) (by omega)).mono ?_
 rintro e w' ⟨he,ho,ht⟩
 exact ⟨he,⟨vs,ho⟩,ht.outside fun g hg=>h.blks g hg⟩
theorem gJ {w : World} {s : Option Addr} {n c : Nat} (xss : List (List Int)) (k : Int) (h : cg w (.slice s n c) (jc xss k)) (h0 : 0 ≤ k) (hk : k ≤ 576460752303423488) (hs : cm xss ≤ 1048576) :
  Calls Try.prog 15 #[.slice s n c,.int .i64 k] w fun e w'=>e = .returned (.int .i64 (k + bL xss)) ∧ Below w.heap.size w w':=by
 have h2:=iA xss
 have h3 : xss.length ≤ cm xss:=by unfold cm;omega
 have hl : xss.length = n:=by have:=h.rws.len;unfold jc at this;rwa [cw] at this
 refine (kJ xss k h h0 (by omega) (by omega) (by omega)).mono ?_
 rintro e w' ⟨he,rfl⟩
 exact ⟨he,Below.refl _ _⟩
end Go.Proofs.Ytceonklhlpkfgaa
