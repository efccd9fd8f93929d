/-
  RoundOf and AnsweredTo, the program.
-/
import Derived.Test.YthjamlponejffaaZwNG
import Derived.Test.YthjamlponejffaaZwNH
import Derived.Test.YthjamlponejffaaZwLaw
namespace Go.Proofs.Ythjamlponejffaa
set_option linter.unusedVariables false
set_option linter.unusedSimpArgs false
open Go.RowKit
attribute [local irreducible] au ci Aw Le
attribute [local go_sem ↓] Go.wp_at_zero Go.wp_at_succ
theorem mu (g : Pa) (hs : cP g) : ∀ D,D < 50 → oZ g D ∧ sk g D ∧ sj g D
 | 0, _ => by
   have h1:=qM g hs
   have h2:=kI g hs 0 (by omega) h1
   exact ⟨h1,h2,kJ g hs 0 (by omega) h1 h2⟩
 | D + 1, h => by
   have h1:=qN g hs D (by omega) (mu g hs D (by omega)).2.2
   have h2:=kI g hs (D + 1) (by omega) h1
   exact ⟨h1,h2,kJ g hs (D + 1) (by omega) h1 h2⟩
set_option maxRecDepth 100000 in
theorem lH (x : Value) (g : Pa) (w : World) (hP : IsP w x g) : Calls Try.prog 52 #[x] w fun e w'=>∃ bs bm,e = .returned (.pointer (some ⟨bs,0,none⟩)) ∧ Ask w' bs bm g ∧ w.heap.size ≤ bm ∧ Below w.heap.size w w':=by
 have hP0:=hP
 obtain ⟨_,_,_,rfl,⟨s1,n1,c1,rfl,h1⟩,⟨s2,n2,c2,rfl,h2⟩,⟨s3,n3,c3,rfl,h3⟩⟩:=hP
 have hmm:=@run_makeMap Try.prog
 go_enter Try.func52,Try.ntmps52
 go_wp2_with fail
 have e1 : (w.alloc (.cells #[.slice s1 n1 c1,.slice s2 n2 c2,.slice s3 n3 c3] 32)).heap.size = w.heap.size + 1:=by simp
 have hA:=aq w (.cells #[.slice s1 n1 c1,.slice s2 n2 c2,.slice s3 n3 c3] 32)
 generalize w.alloc (.cells #[.slice s1 n1 c1,.slice s2 n2 c2,.slice s3 n3 c3] 32) = wA at *
 have hO:=World.ownsMap_made wA Try.prog 102 rdV
 have e2 : (wA.alloc (.map #[] 0)).heap.size = w.heap.size + 1 + 1:=by simp [e1]
 have hM:=aq wA (.map #[] 0)
 rw [e1] at hO
 generalize wA.alloc (.map #[] 0) = wM at *
 have hB:=cL wM [.slice s1 n1 c1,.slice s2 n2 c2,.slice s3 n3 c3,.map (some (w.heap.size + 1))] 100
 have hC:=aq wM (.cells #[.slice s1 n1 c1,.slice s2 n2 c2,.slice s3 n3 c3,.map (some (w.heap.size + 1))] 100)
 rw [e2] at hB
 go_ret
 have hP3 : IsP (wM.alloc (.cells #[.slice s1 n1 c1,.slice s2 n2 c2,.slice s3 n3 c3,.map (some (w.heap.size + 1))] 100)) (.agg #[.slice s1 n1 c1,.slice s2 n2 c2,.slice s3 n3 c3]) g:=((hP0.below hA).below hM).below hC
 exact ⟨w.heap.size + 1 + 1,w.heap.size + 1,rfl,⟨⟨s1,n1,c1,s2,n2,c2,s3,n3,c3,hB.cell 0 rfl,hB.cell 1 rfl,hB.cell 2 rfl,hP3⟩,hB.cell 3 rfl,0,_,hO.alloc _,fun p hp=>by cases hp⟩,by omega,hA.trans ((hM.mono (by omega)).trans (hC.mono (by omega)))⟩
theorem o7 (x : Value) (g : Pa) (w : World) (hP : IsP w x g) : Calls Try.prog 50 #[x] w fun e w'=>e = .returned (.bool (tf (cP g))) ∧ Below w.heap.size w w' :=
 qb (vs:=[x]) (ky g) (.cons (oA hP) .nil)
end Go.Proofs.Ythjamlponejffaa
