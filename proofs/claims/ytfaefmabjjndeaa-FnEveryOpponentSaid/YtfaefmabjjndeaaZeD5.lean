/-
  Dominions: the won region is one, and every one is a part of it.
-/
import Derived.Test.YtfaefmabjjndeaaZeG3
import Derived.Test.YtfaefmabjjndeaaZeE13
import Derived.Test.YtfaefmabjjndeaaZeE15
import Derived.Test.YtfaefmabjjndeaaZeD3
namespace Go.Proofs.Ytfaefmabjjndeaa
set_option linter.unusedVariables false
set_option linter.unusedSimpArgs false
open Go.RowKit
attribute [local irreducible] aL cQ Aw Le
end Go.Proofs.Ytfaefmabjjndeaa
namespace Go.Proofs.Ytfaefmabjjndeaa
set_option linter.unusedVariables false
set_option linter.unusedSimpArgs false
open Go.RowKit
attribute [local irreducible] aL cQ Aw Le
def atL (xs : List Int) (x : Int) : List Int:=cW (cO xs.length fun v=>gi xs v == x) xs.length
theorem i4 {xs : List Int} {x z : Int} : z ∈ atL xs x ↔ ∃ v,v < xs.length ∧ z = (v : Int) ∧ gi xs v = x:=by
 unfold atL
 rw [dR]
 constructor
 · rintro ⟨v,h1,h2,h3⟩
   rw [dn _ h1] at h3
   exact ⟨v,h1,h2,by simpa using h3⟩
 · rintro ⟨v,h1,h2,h3⟩
   exact ⟨v,h1,h2,by rw [dn _ h1];simpa using h3⟩
theorem pe {bs : List Bool} : ∀ k : Nat,db (cW bs k) k:=by
 intro k
 induction k with
 | zero => exact fun j hj => absurd hj (Nat.not_lt_zero _)
 | succ k ih =>
   rw [cW]
   have hw : db (cW bs k) ((k + 1 : Nat) : Int):=fun j hj=>by have:=ih j hj;exact ⟨this.1,by omega,this.2.2⟩
   split
   · intro j hj
     have hj' : j < (cW bs k).length + 1:=by simpa using hj
     rw [ge]
     by_cases e : j < (cW bs k).length
     · rw [if_pos e]
       obtain ⟨a,b,c⟩:=hw j e
       refine ⟨a,b,fun h=>?_⟩
       rw [ge,if_pos (by omega)]
       exact c h
     · have e2 : j = (cW bs k).length:=by omega
       rw [if_neg e,if_pos e2]
       refine ⟨by omega,by omega,fun h=>?_⟩
       rw [ge,if_pos (by omega)]
       have:=ih (j - 1) (by omega)
       omega
   · rw [List.append_nil];exact hw
theorem jq (xs : List Int) (x : Int) : db (atL xs x) xs.length:=pe _
end Go.Proofs.Ytfaefmabjjndeaa
namespace Go.Proofs.Ytfaefmabjjndeaa
set_option linter.unusedVariables false
set_option linter.unusedSimpArgs false
open Go.RowKit
theorem jH {g : Pa} (hg : PaOk g) {v : Nat} (hv : v < g.prio.length) : (pgP g).own v = gi g.ar.own v:=o9 (iV hg) hv
theorem uZ {g : Pa} (v : Nat) (h : fD g v) : v < g.prio.length:=h
theorem i5 {g : Pa} (hg : PaOk g) {v : Nat} (hv : v < g.prio.length) {i : Int} (hi : i = 0 ∨ i = 1) : gi (bT g) v = i ↔ PG.Won (pgP g) i (fD g) v:=by
 have hn:=PG.won_not (G:=pgP g) jF (fun v h=>h) (fW hg) (S:=fD g) (v:=v) hv
 unfold bT
 rw [cY _ hv]
 by_cases h : PG.Won (pgP g) 0 (fD g) v
 · rw [bV h]
   rcases hi with e|e
   · subst e;exact ⟨fun _=>h,fun _=>rfl⟩
   · subst e;exact ⟨fun e=>absurd e (by decide),fun h'=>absurd h (hn.1 h')⟩
 · rw [aX h]
   rcases hi with e|e
   · subst e;exact ⟨fun e=>absurd e (by decide),fun h'=>absurd h' h⟩
   · subst e;exact ⟨fun _=>hn.2 h,fun _=>rfl⟩
theorem hZ {g : Pa} {v : Nat} (hv : v < g.prio.length) : gi (bT g) v = 0 ∨ gi (bT g) v = 1:=by
 unfold bT
 rw [cY _ hv]
 split
 · exact .inl rfl
 · exact .inr rfl
theorem uI {g : Pa} (hg : PaOk g) {i : Int} (hi : i = 0 ∨ i = 1) (v : Nat) : (v : Int) ∈ atL (bT g) i ↔ PG.Won (pgP g) i (fD g) v:=by
 rw [i4,eb]
 constructor
 · rintro ⟨u,h1,h2,h3⟩
   have : u = v:=by omega
   subst this
   exact (i5 hg h1 hi).1 h3
 · intro h
   have hv : v < g.prio.length:=PG.won_in (S:=fD g) h
   exact ⟨v,hv,rfl,(i5 hg hv hi).2 h⟩
end Go.Proofs.Ytfaefmabjjndeaa
