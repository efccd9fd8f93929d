/-
  Ways and bad loops: a strategy wins a region exactly if no loop in it is bad; plays of two strategies.
-/
import Derived.Test.YtiadchinhofieaaGreatZfCp
namespace Go.Proofs.YtiadchinhofieaaGreat
set_option linter.unusedVariables false
set_option linter.unusedSimpArgs false
namespace PG
variable {G : Gm}
inductive Way (E : Nat → Nat → Prop) (L : Nat → Prop) (v : Nat) : Nat → Prop where
 | one {u : Nat} (h : E v u) (l : L u) : Way E L v u
 | more {w u : Nat} (t : Way E L v w) (h : E w u) (l : L u) : Way E L v u
theorem Way.end {E : Nat → Nat → Prop} {L : Nat → Prop} {v u : Nat} (h : Way E L v u) : L u:=by
 cases h <;> assumption
theorem Way.mono {E E' : Nat → Nat → Prop} {L L' Q : Nat → Prop} {v u : Nat} (hE : ∀ x y,Q x → E x y → E' x y) (hL : ∀ x,L x → Q x) (hl : ∀ x,L x → L' x) (hv : Q v) (h : Way E L v u) : Way E' L' v u:=by
 induction h with
 | one h l => exact .one (hE _ _ hv h) (hl _ l)
 | more t h l ih => exact .more ih (hE _ _ (hL _ t.end) h) (hl _ l)
theorem Way.path {E : Nat → Nat → Prop} {L : Nat → Prop} {v u : Nat} (h : Way E L v u) : ∃ (m : Nat) (p : Nat → Nat),p 0 = v ∧ p (m + 1) = u ∧ ∀ k,k ≤ m → E (p k) (p (k + 1)) ∧ L (p (k + 1)):=by
 induction h with
 | @one u h l => exact ⟨0, fun k => if k = 0 then v else u, rfl, rfl, fun k hk => by obtain rfl : k = 0 := by omega
                                                                                     exact ⟨h,l⟩⟩
 | @more w u t h l ih =>
   obtain ⟨m,p,h0,h1,h2⟩:=ih
   refine ⟨m + 1,fun k=>if k ≤ m + 1 then p k else u,by simp [h0],if_neg (by omega),fun k hk=>?_⟩
   simp only
   by_cases e : k = m + 1
   · subst e
     rw [if_pos (Nat.le_refl _),if_neg (by omega),h1]
     exact ⟨h,l⟩
   · rw [if_pos (by omega),if_pos (by omega)]
     exact h2 k (by omega)
theorem wV {E : Nat → Nat → Prop} {L : Nat → Prop} {f : Nat → Nat} {a : Nat} : ∀ b,a < b → (∀ k,a ≤ k → k < b → E (f k) (f (k + 1)) ∧ L (f (k + 1))) → Way E L (f a) (f b):=by
 intro b
 induction b with
 | zero => intro h; omega
 | succ b ih =>
   intro h hs
   obtain ⟨h1,h2⟩:=hs b (by omega) (by omega)
   by_cases e : a = b
   · subst e;exact .one h1 h2
   · exact .more (ih (by omega) fun k h1 h2=>hs k h1 (by omega)) h1 h2
theorem yF {Q : Nat → Prop} : ∀ (n : Nat) (f : Nat → Nat),(∀ M,∃ k,M ≤ k ∧ Q (f k)) → (∀ k,Q (f k) → f k < n) → ∃ a b,a < b ∧ Q (f a) ∧ f a = f b:=by
 intro n
 induction n with
 | zero => intro f h hn; obtain ⟨k, _, hk⟩ := h 0; exact absurd (hn k hk) (Nat.not_lt_zero _)
 | succ n ih =>
   intro f h hn
   by_cases hc : ∀ M,∃ k,M ≤ k ∧ Q (f k) ∧ f k = n
   · obtain ⟨a,_,h1,h2⟩:=hc 0
     obtain ⟨b,h3,_,h4⟩:=hc (a + 1)
     exact ⟨a,b,by omega,h1,by rw [h2,h4]⟩
   · obtain ⟨M0,hM⟩:=Classical.not_forall.1 hc
     obtain ⟨a,b,h1,h2,h3⟩:=ih (fun k=>f (M0 + k)) (fun M=>by
      obtain ⟨k,h1,h2⟩:=h (M0 + M)
      exact ⟨k - M0,by omega,by rw [show M0 + (k - M0) = k by omega];exact h2⟩) (fun k hk=>by
      have h1:=hn _ hk
      have h2 : ¬ f (M0 + k) = n:=fun e=>hM ⟨M0 + k,by omega,hk,e⟩
      omega)
     exact ⟨M0 + a,M0 + b,by omega,h2,h3⟩
theorem wins_of {i : Int} {R : Nat → Prop} {σ : Nat → Nat} {n : Nat} (hn : ∀ v,R v → v < n) (hb : ∀ v,R v → Way (fun v u=>G.E v u ∧ (G.own v = i → u = σ v)) (fun u=>R u ∧ G.prio u ≤ G.prio v) v v → G.prio v % 2 = i) : An G i R σ:=by
 intro f p hp ht
 obtain ⟨a,b,h1,h2,h3⟩:=yF (Q:=fun v=>G.prio v = p) n f ht.2 (fun k _=>hn _ (hp k).1)
 have hw:=wV (E:=fun v u=>G.E v u ∧ (G.own v = i → u = σ v)) (L:=fun u=>R u ∧ G.prio u ≤ G.prio (f a)) (f:=f) b h1 fun k _ _=>⟨(hp k).2,(hp (k + 1)).1,by rw [h2];exact ht.1 (k + 1)⟩
 rw [← h3] at hw
 rw [← h2]
 exact hb _ (hp a).1 hw
end PG
end Go.Proofs.YtiadchinhofieaaGreat
