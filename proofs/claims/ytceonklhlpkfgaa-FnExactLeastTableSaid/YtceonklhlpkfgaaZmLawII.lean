/-
  Lists of lists in the exact laws' walks.
-/
import Derived.Test.YtceonklhlpkfgaaZmLaw
import Derived.Test.YtceonklhlpkfgaaZmCb
namespace Go.Proofs.Ytceonklhlpkfgaa
set_option linter.unusedVariables false
set_option linter.unusedSimpArgs false
open Go.RowKit
theorem fJ {a b : Value} {x y : List (List Int)} {w : World} (hx : cD w a x) (hy : cD w b y) : Calls Try.prog 11 #[a,b] w (Bb w (tf (x = y))):=by
 obtain ⟨_,_,_,rfl,h1⟩:=hx
 obtain ⟨_,_,_,rfl,h2⟩:=hy
 exact (ff _ _ _ _ _ _ _ _ _ h1 h2).mono fun _ _ h=>h.bb
theorem iy (xss : List (List Int)) : bR xss ≤ cS xss:=by unfold bR cS;omega
theorem kH {lo hi : Nat} {w : World} {s : Option Addr} {n c : Nat} {xss : List (List Int)} (h : dp lo hi w (.slice s n c) xss) (k : Int) (h0 : 0 ≤ k) (hk : k ≤ 576460752303423488) (hs : cS xss ≤ 1048576) (hhi : hi ≤ w.heap.size) :
  Calls Try.prog 14 #[.slice s n c,.int .i64 k] w fun e w'=>e = .returned (.int .i64 (k + bR xss)) ∧ dp lo hi w' (.slice s n c) (i7 xss k) ∧ Outside lo hi w w':=by
 obtain ⟨vs,h⟩:=h
 have hl:=h.len
 have h2:=iy xss
 have h3 : xss.length ≤ cS xss:=by unfold cS;omega
 refine (gD h k h0 (by omega) (by omega) (by omega)).mono ?_
 rintro e w' ⟨he,ho,ht⟩
 exact ⟨he,⟨vs,ho⟩,ht.outside fun g hg=>h.blks g hg⟩
theorem gI {w : World} {s : Option Addr} {n c : Nat} (xss : List (List Int)) (k : Int) (h : cD w (.slice s n c) (i7 xss k)) (h0 : 0 ≤ k) (hk : k ≤ 576460752303423488) (hs : cS xss ≤ 1048576) :
  Calls Try.prog 15 #[.slice s n c,.int .i64 k] w fun e w'=>e = .returned (.int .i64 (k + bR xss)) ∧ Below w.heap.size w w':=by
 have h2:=iy xss
 have h3 : xss.length ≤ cS xss:=by unfold cS;omega
 have hl : xss.length = n:=by have:=h.rws.len;unfold i7 at this;rwa [ch] at this
 refine (kB xss k h h0 (by omega) (by omega) (by omega)).mono ?_
 rintro e w' ⟨he,rfl⟩
 exact ⟨he,Below.refl _ _⟩
end Go.Proofs.Ytceonklhlpkfgaa
