/-
  Trimmed on both sides, in the old words.
-/
import Derived.Test.YtiadchinhofieaaZcXN
import Derived.Test.YtiadchinhofieaaZcXI
namespace Go.Proofs.Ytiadchinhofieaa
set_option linter.unusedVariables false
set_option linter.unusedSimpArgs false
open Go.RowKit
def tt (w : World) (g : Pa) (e : Ending) (w' : World) : Prop:=∃ s1 n1 c1 s2 n2 c2 s3 n3 c3,e = .returned (.agg #[.slice s1 n1 c1,.slice s2 n2 c2,.slice s3 n3 c3]) ∧ IsP w' (.agg #[.slice s1 n1 c1,.slice s2 n2 c2,.slice s3 n3 c3]) g ∧ Below w.heap.size w w'
theorem uI {w w' : World} {g : Pa} {φ : Nat → Loc} {hp : Hp} {v : Value} (h : AVC φ hp w' (paA g) v) (hb : Below w.heap.size w w') : tt w g (.returned v) w':=by
 have hP:=nz h
 obtain ⟨_,_,_,rfl,⟨s1,n1,c1,rfl,k1⟩,⟨s2,n2,c2,rfl,k2⟩,⟨s3,n3,c3,rfl,k3⟩⟩:=id hP
 exact ⟨_,_,_,_,_,_,_,_,_,rfl,hP,hb⟩
theorem kL {φ : Nat → Loc} {hp : Hp} {w : World} {v : Value} (h : AVC φ hp w (.agg [.c .nul,.c .nul,.c .nul]) v) : v = .agg #[.slice none 0 0,.slice none 0 0,.slice none 0 0]:=by
 obtain ⟨us,rfl,h'⟩:=ip h
 clear h
 match us,h' with
 | [a, b, c], .cons k1 (.cons k2 (.cons k3 .nil)) =>
   obtain rfl:=dG k1
   obtain rfl:=dG k2
   obtain rfl:=dG k3
   rfl
theorem kM (x : Value) (g : Pa) (w : World) (hP : IsP w x g) : Calls Try.prog 24 #[x] w (rC w (tmN g)):=by
 by_cases h : PaOk g
 · rw [lJ h];exact pG x g w hP h
 · rw [nP h]
   refine (gM (vs:=[x]) (nQ g h) (.cons (mo hP) .nil)).mono ?_
   rintro e w' ⟨v,rfl,⟨φ,hp,hv⟩,hb⟩
   obtain rfl:=kL hv
   exact ⟨_,_,_,_,_,_,_,_,_,rfl,iz _ _ _,hb⟩
theorem pJ (x : Value) (g : Pa) (w : World) (hP : IsP w x g) : Calls Try.prog 23 #[x] w (tt w (tmN g)):=by
 by_cases h : PaOk g
 · rw [lJ h]
   refine (gM (vs:=[x]) (nO g h) (.cons (mo hP) .nil)).mono ?_
   rintro e w' ⟨v,rfl,⟨φ,hp,hv⟩,hb⟩
   exact uI hv hb
 · rw [nP h]
   refine (gM (vs:=[x]) (nR g h) (.cons (mo hP) .nil)).mono ?_
   rintro e w' ⟨v,rfl,⟨φ,hp,hv⟩,hb⟩
   obtain rfl:=kL hv
   exact ⟨_,_,_,_,_,_,_,_,_,rfl,(iz 0 w'.heap.size w').is,hb⟩
theorem rB (g : Pa) : szP (tmN g) ≤ 1048576:=by
 by_cases h : PaOk g
 · rw [lJ h];exact tq (rs h).ok
 · rw [nP h];decide
end Go.Proofs.Ytiadchinhofieaa
