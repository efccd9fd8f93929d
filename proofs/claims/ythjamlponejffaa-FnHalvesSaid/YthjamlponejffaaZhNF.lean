/-
  Queries, the program: rounds and answers.
-/
import Derived.Test.YthjamlponejffaaZhNE
namespace Go.Proofs.Ythjamlponejffaa
set_option linter.unusedVariables false
set_option linter.unusedSimpArgs false
open Go.RowKit
attribute [local go_sem ↓] Go.wp_at_zero Go.wp_at_succ
def zk : Value → Nat
 | .slice _ n _ => n
 | _ => 0
def wm (g : Pa) (D : Nat) : Prop:=∀ (bs bm : Nat) (v : Value) (who : Int) (S : Nat → Prop) (x mine yours : Int) (w : World),x = D → (who = 0 ∨ who = 1) → (0 ≤ mine ∧ mine < 16) → (0 ≤ yours ∧ yours < 16) → (∀ u,S u → u < g.prio.length) → Ask w bs bm g → IsI w v (lst S g.prio.length) →
 Calls Try.prog 91 #[.pointer (some ⟨bs,0,none⟩),v,.int .i64 who,.int .i64 x,.int .i64 mine,.int .i64 yours] w (u6 w bs bm g (lst (itQ (qR (pgA g) (qA (pgA g) g.prio.length D) who D mine yours) S g.prio.length) g.prio.length))
set_option maxRecDepth 100000 in
theorem m8 (g : Pa) (hs : dA g) (D : Nat) (hD : D < 64) (hR : sF g D) : wm g D:=by
 intro bs bm v who S x mine yours w hx hw hm hy hS hK hI
 obtain ⟨sv,nv,cv,rfl,hIv⟩:=hI
 have HX:=Lib.hid hx
 have HY:=Lib.hid hy
 have HM:=Lib.hid hm
 have HW:=Lib.hid hw
 have HSm:=Lib.hid hs.2
 have hMw : Mv bm w w:=hK.mvb (Below.refl _ _)
 clear hx hy hm hw hs
 go_enter Try.func91,Try.ntmps91
 go_wp2_with fail
 go_loopw [1] (fun q wr=>∃ (k n c : Nat) (sa : Option Addr),q = .slice sa n c ∧ cQ wr sa n c (lst (itQ (qR (pgA g) (qA (pgA g) g.prio.length D) who D mine yours) S k) g.prio.length) ∧ Ask wr bs bm g ∧ Mv bm w wr) (fun q _=>zk q)
 case atStart=>exact ⟨0,nv,cv,sv,rfl,hIv,hK,hMw⟩
 case round =>
  obtain ⟨k,n,c,sa,rfl,hIk,hKk,hMk⟩:=hrel
  have hSk : ∀ u,itQ (qR (pgA g) (qA (pgA g) g.prio.length D) who D mine yours) S k u → u < g.prio.length:=fun u hu=>hS u (gn (fun _ _ h=>dN h) k u hu)
  go_wp2_with (go_at_call 57;refine (hR bs bm _ who _ x mine yours wr HX.out HW.out HM.out HY.out hSk hKk hIk.is).mono ?_;rintro e w2 ⟨s2,n2,c2,rfl,ho2,hK2,hM2⟩)
  · have hnn : (n2 : Int) = n:=eq_of_beq (by assumption : ((n2 : Int) == (n : Int)) = true)
    go_ret
    have l2:=ho2.len
    have l1:=hIk.1
    have e:=pw (n:=g.prio.length) (S:=itQ (qR (pgA g) (qA (pgA g) g.prio.length D) who D mine yours) S k) (fun v h=>dN h) hSk (T:=qR (pgA g) (qA (pgA g) g.prio.length D) who D mine yours (itQ (qR (pgA g) (qA (pgA g) g.prio.length D) who D mine yours) S k)) (by omega)
    refine ⟨s2,n2,c2,rfl,?_,hK2,hMk.trans hM2⟩
    rw [← uf (R:=qR (pgA g) (qA (pgA g) g.prio.length D) who D mine yours) (fun _ _ h=>dN h) hS e,← e]
    exact bp.far ho2 hKk.lt
  · have hnn : ¬ (n2 : Int) = n:=ne_of_beq_false (by assumption : ((n2 : Int) == (n : Int)) = false)
    have l2:=ho2.len
    have l1:=hIk.1
    have e:=uA (n:=g.prio.length) (S:=itQ (qR (pgA g) (qA (pgA g) g.prio.length D) who D mine yours) S k) (T:=qR (pgA g) (qA (pgA g) g.prio.length D) who D mine yours (itQ (qR (pgA g) (qA (pgA g) g.prio.length D) who D mine yours) S k)) fun v h=>dN h
    refine ⟨⟨k + 1,n2,c2,s2,rfl,ho2.is.ints,hK2,hMk.trans hM2⟩,?_⟩
    show n2 < n
    omega
end Go.Proofs.Ythjamlponejffaa
