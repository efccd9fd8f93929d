/-
  LiftedAt on both sides, in the old words.
-/
import Derived.Test.YtceonklhlpkfgaaZmYG
import Derived.Test.YtceonklhlpkfgaaZmM11
import Derived.Test.YtceonklhlpkfgaaZmLaw
namespace Go.Proofs.Ytceonklhlpkfgaa
set_option linter.unusedVariables false
set_option linter.unusedSimpArgs false
open Go.RowKit
attribute [local irreducible] aw cz Aw Le
end Go.Proofs.Ytceonklhlpkfgaa
namespace Go.Proofs.Ytceonklhlpkfgaa
set_option linter.unusedVariables false
set_option linter.unusedSimpArgs false
open Go.RowKit
def p9 (w : World) (xss : List (List Int)) (e : Ending) (w' : World) : Prop:=∃ s n c,e = .returned (.slice s n c) ∧ dp w.heap.size w'.heap.size w' (.slice s n c) xss ∧ Below w.heap.size w w'
def oL (w : World) (xss : List (List Int)) (e : Ending) (w' : World) : Prop:=∃ s n c,e = .returned (.slice s n c) ∧ cD w' (.slice s n c) xss ∧ Below w.heap.size w w'
theorem oM {P : Program} {f : FuncId} {args : List AV} {T : TypeId} {xss : List (List Int)} {w : World} {vs : List Value} (hF : aw P f args [.arr T .yes (.R xss)] (fun ns=>.sl (ns.getD 0 0))) (hv : AVs φ00 h00 w args vs) : Calls P f vs.toArray w (oL w xss):=by
 refine (hF.2 φ00 h00 w vs (fun _ _ h=>by cases h) (pD w) hv.at.1 hv.at.2).mono fun e w' ⟨v,he,ho⟩=>?_
 obtain ⟨φ',H,_,ha⟩:=ho [0] rfl (by decide) (fun _ _=>rfl)
 have l0 : bv (aD h00 []) [0] [Ent.arr T .yes (.R xss)] 0 = some (.arr T .yes (.R xss)):=rfl
 have o0:=dE (O':=fun _=>False) (w':=w') (H.ent 0 _ l0) (fun b _ _=>⟨rfl,fun h=>h⟩) (Nat.le_refl _)
 have e1 : v = (φ' 0).val:=lT ha l0
 obtain ⟨s0,n0,c0,q0⟩:=iT (φ' 0)
 rw [q0] at o0 e1
 subst e1
 have o1 : Rd (fun _=>False) w' (.R xss) (.slice s0 n0 c0):=by
  cases o0 with
  | sl hv' hn hc hm h0 hs cell rec => exact .sl hv' (fun e => by cases e) hc hm h0 hs cell rec
 exact ⟨s0,n0,c0,he,pY o1,H.fr⟩
theorem oN {P : Program} {f : FuncId} {args : List AV} {w : World} {vs : List Value} (hF : aw P f args [] (fun _=>.c .nul)) (hv : AVs φ00 h00 w args vs) : Calls P f vs.toArray w fun e w'=>e = .returned (.slice none 0 0) ∧ Below w.heap.size w w':=by
 refine (hF.2 φ00 h00 w vs (fun _ _ h=>by cases h) (pD w) hv.at.1 hv.at.2).mono fun e w' ⟨v,he,ho⟩=>?_
 obtain ⟨φ',H,_,ha⟩:=ho [] rfl List.nodup_nil (fun _ h=>by cases h)
 have e1:=eC ha
 subst e1
 exact ⟨he,H.fr⟩
theorem kz {xss : List (List Int)} {b : Nat} : ∀ n,(∀ k,k < n → (gr xss k).length ≤ b) → b7 xss n ≤ n * b
 | 0, _ => Nat.zero_le _
 | n + 1, h => by
   have h1:=kz n fun k hk=>h k (by omega)
   have h2:=h n (by omega)
   rw [Nat.add_mul,Nat.one_mul]
   show b7 xss n + (gr xss n).length ≤ _
   omega
theorem q6 {g : Pa} (hs : cH g) {t : List (List Int)} (ht : dc g t) : cS t ≤ 1048576:=by
 have hle:=hs.2
 have htl:=ht.len
 have h1:=kz (xss:=t) (b:=1024) t.length fun k hk=>by have:=cj (ht.row (v:=k) (by omega));omega
 unfold cS
 omega
end Go.Proofs.Ytceonklhlpkfgaa
