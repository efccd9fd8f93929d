/-
  Queries, the program: a round.
-/
import Derived.Test.YthjamlponejffaaZhND
import Derived.Test.YthjamlponejffaaZhM3
namespace Go.Proofs.Ythjamlponejffaa
set_option linter.unusedVariables false
set_option linter.unusedSimpArgs false
open Go.RowKit
attribute [local go_sem ↓] Go.wp_at_zero Go.wp_at_succ
theorem lb (x u v : Value) (g : Pa) (hg : PaOk g) (who : Int) (S T : Nat → Prop) (hS : ∀ v,S v → v < g.prio.length) (hT : ∀ v,T v → v < g.prio.length) (w : World) (hA : IsA w x g.ar) (hx : IsI w u (lst S g.prio.length)) (hy : IsI w v (lst T g.prio.length)) :
  Calls Try.prog 96 #[x,.int .i64 who,u,v] w (eg w (lst (PG.Attr (pgA g) who S T) g.prio.length)):=by
 rw [← ux hS hT]
 exact pz (vs:=[x,.int .i64 who,u,v]) (qF g hg who _ _ (iU _ _) (iU _ _)) rfl (.cons (za hA) (.cons (iP _ _) (.cons (jW hx) (.cons (jW hy) .nil))))
theorem qJ (x u v : Value) (g : Pa) (hg : PaOk g) (who d : Int) (S : Nat → Prop) (hS : ∀ v,S v → v < g.prio.length) (w : World) (hA : IsA w x g.ar) (hx : IsI w u (lst S g.prio.length)) (hy : IsI w v (lst (fun v=>S v ∧ (pgA g).prio v = d) g.prio.length)) :
  Calls Try.prog 96 #[x,.int .i64 who,u,v] w (eg w (lst (PG.Attr (pgA g) who S fun v=>(pgA g).prio v = d) g.prio.length)):=by
 rw [← show PG.Attr (pgA g) who S (fun v=>S v ∧ (pgA g).prio v = d) = PG.Attr (pgA g) who S fun v=>(pgA g).prio v = d from funext fun v=>propext (PG.attr_congr (fun _=>Iff.rfl) (fun u hu=>⟨fun h=>h.2,fun h=>⟨hu,h⟩⟩) v)]
 exact lb x u v g hg who S _ hS (fun v h=>hS v h.1) w hA hx hy
theorem m7 (u v : Value) (S T : Nat → Prop) (n : Nat) (hn : n ≤ 256) (w : World) (hx : IsI w u (lst S n)) (hy : IsI w v (lst T n)) : Calls Try.prog 95 #[u,v] w (eg w (lst (PG.Diff S T) n)):=by
 have h1:=eR S n
 have h2:=eR T n
 rw [← uy]
 exact pz (vs:=[u,v]) (qH _ _ (by omega) (ov _ _) (by omega)) rfl (.cons (jW hx) (.cons (jW hy) .nil))
theorem ox (x u : Value) (g : Pa) (hg : PaOk g) (d : Int) (S : Nat → Prop) (w : World) (hP : IsP w x g) (hx : IsI w u (lst S g.prio.length)) : Calls Try.prog 97 #[x,u,.int .i64 d] w (eg w (lst (fun v=>S v ∧ (pgA g).prio v = d) g.prio.length)):=by
 have h1:=eR S g.prio.length
 have h2:=hg.ar.le
 have h3:=hg.len
 rw [← uz hg]
 exact nA x u g _ d w hP hx (fun k hk=>by obtain ⟨v,h4,_,h5⟩:=cW.1 (cy hk);omega) (by omega)
def sF (g : Pa) (D : Nat) : Prop:=∀ (bs bm : Nat) (v : Value) (who : Int) (S : Nat → Prop) (x mine yours : Int) (w : World),x = D → (who = 0 ∨ who = 1) → (0 ≤ mine ∧ mine < 16) → (0 ≤ yours ∧ yours < 16) → (∀ u,S u → u < g.prio.length) → Ask w bs bm g → IsI w v (lst S g.prio.length) →
 Calls Try.prog 57 #[.pointer (some ⟨bs,0,none⟩),v,.int .i64 who,.int .i64 x,.int .i64 mine,.int .i64 yours] w (x7 w bs bm g (lst (qR (pgA g) (qA (pgA g) g.prio.length D) who D mine yours S) g.prio.length))
def wk (g : Pa) (D : Nat) : Prop:=∀ (bs bm : Nat) (v : Value) (who : Int) (S : Nat → Prop) (x mine yours : Int) (w : World),x = D → (who = 0 ∨ who = 1) → (0 ≤ mine ∧ mine < 16) → (0 ≤ yours ∧ yours < 16) → (∀ u,S u → u < g.prio.length) → Ask w bs bm g → IsI w v (lst S g.prio.length) →
 Calls Try.prog 53 #[.pointer (some ⟨bs,0,none⟩),v,.int .i64 who,.int .i64 x,.int .i64 mine,.int .i64 yours] w (u6 w bs bm g (lst (qA (pgA g) g.prio.length (D + 1) who S mine yours) g.prio.length))
set_option maxRecDepth 100000 in
theorem uG (g : Pa) (hs : dA g) : sF g 0:=by
 intro bs bm v who S x mine yours w hx hw hm hy hS hK hI
 obtain ⟨sv,nv,cv,rfl,hIv⟩:=hI
 obtain rfl : x = 0:=hx
 rw [uh]
 have hl:=hIv.1
 have hle:=eR S g.prio.length
 have hsm:=hs.2
 have hlv : nv ≤ 12:=by omega
 have HL:=Lib.hid hl
 clear hl hle
 by_cases h0 : nv = 0
 · subst h0
   cases sv with
   | none =>
     go_enter Try.func57,Try.ntmps57
     go_wp2_with fail
     go_ret
     exact ⟨_,0,0,rfl,by rw [List.eq_nil_of_length_eq_zero HL.out];exact hH _ _ 0 (Nat.le_refl _),hK.below (bg _ _),hK.mvb (bg _ _)⟩
   | some ad =>
     go_enter Try.func57,Try.ntmps57
     go_wp2_with fail
     go_ret
     exact ⟨_,0,0,rfl,by rw [List.eq_nil_of_length_eq_zero HL.out];exact hH _ _ 0 (Nat.le_refl _),hK.below (bg _ _),hK.mvb (bg _ _)⟩
 · go_enter Try.func57,Try.ntmps57
   go_wp2_with (refine kC (by rfl) _ _ (by rfl) _ (by rfl) (by rfl) (hIv.below (by repeat' (first|(with_reducible exact Below.refl _ _)|(with_reducible assumption)|(with_reducible apply aS)|(with_reducible apply Below.alloc)|(with_reducible apply Below.drew)|(with_reducible apply aG)|(with_reducible refine Below.trans ?_ (Below.mono (by assumption) ?_))|omega|(simp only [World.size_alloc,World.size_setCell,World.size_drew];omega)))) (by omega) (by omega) ?_;intro s2 c2 w2 ho2 hb2)
   go_ret
   have hB2 : Below w.heap.size w w2:=(by repeat' (first|(with_reducible exact Below.refl _ _)|(with_reducible assumption)|(with_reducible apply aS)|(with_reducible apply Below.alloc)|(with_reducible apply Below.drew)|(with_reducible apply aG)|(with_reducible refine Below.trans ?_ (Below.mono (by assumption) ?_))|omega|(simp only [World.size_alloc,World.size_setCell,World.size_drew];omega)))
   exact ⟨s2,nv,c2,rfl,ho2.mono (by simp) (Nat.le_refl _),hK.below hB2,hK.mvb hB2⟩
set_option maxRecDepth 100000 in
theorem uH (g : Pa) (hs : dA g) (D : Nat) (hD : D < 63) (hA : wk g D) : sF g (D + 1):=by
 intro bs bm v who S x mine yours w hx hw hm hy hS hK hI
 have hne : ¬ x = 0:=by omega
 have hx64 : 0 < x ∧ x ≤ 64:=by omega
 have HX:=Lib.hid hx
 clear hx
 have hw01 : 0 ≤ who ∧ who ≤ 1:=by omega
 obtain ⟨sv,nv,cv,rfl,hIv⟩:=hI
 have hI : IsI w (.slice sv nv cv) (lst S g.prio.length):=hIv.is
 obtain ⟨so,no,co,sn,nn,cn,sp,np,cp,b0_0,b0_1,b0_2,hP⟩:=hK.cells
 have b0_3:=hK.mp
 go_enter Try.func57,Try.ntmps57
 go_wp2_with fail
 have hbw : Below w.heap.size w (w.alloc (.cells #[.slice so no co,.slice sn nn cn] 30)):=bg _ _
 have hB : Blk (w.alloc (.cells #[.slice so no co,.slice sn nn cn] 30)) w.heap.size [.slice so no co,.slice sn nn cn] 30:=dR _ _ _
 generalize w.alloc (.cells #[.slice so no co,.slice sn nn cn] 30) = w1 at *
 replace b0_0:=bC b0_0 hbw
 replace b0_1:=bC b0_1 hbw
 replace b0_2:=bC b0_2 hbw
 have b1_0:=hB.cell 0 rfl
 have b1_1:=hB.cell 1 rfl
 have HS:=Lib.hid hs
 have hn12 : g.prio.length ≤ 256:=by have:=hs.2;omega
 have HN:=Lib.hid hn12
 clear hs hn12
 go_region_held3 (fun w'=>w'.cell? ⟨bs,0,none⟩ = some (.slice so no co) ∧ w'.cell? ⟨bs,1,none⟩ = some (.slice sn nn cn) ∧ w'.cell? ⟨bs,2,none⟩ = some (.slice sp np cp) ∧ w'.cell? ⟨w.heap.size,0,none⟩ = some (.slice so no co) ∧ w'.cell? ⟨w.heap.size,1,none⟩ = some (.slice sn nn cn)) (first|exact ⟨b0_0,b0_1,b0_2,b1_0,b1_1⟩|go_keep)
  (first
   | (go_at_call 97; refine (ox _ _ g HS.out.1 x S _ ((hP.below hbw).drew) ((hI.below hbw).drew)).mono ?_; rintro e w2 ⟨s2, n2, c2, rfl, ho2, hbw2⟩; replace hbw2 := ny hbw2; replace b0_0 := bC b0_0 hbw2; replace b0_1 := bC b0_1 hbw2; replace b0_2 := bC b0_2 hbw2; replace b1_0 := bC b1_0 hbw2; replace b1_1 := bC b1_1 hbw2; replace hbw : Below w.heap.size w w2 := hbw.trans (hbw2.mono hbw.size); have hz2 := hbw2.size)
   | (go_at_call 96; refine (qJ _ _ _ g HS.out.1 who x S hS _ (hP.arena.below hbw) (hI.below hbw) ho2.is).mono ?_; rintro e w3 ⟨s3, n3, c3, rfl, ho3, hbw3⟩; replace b0_0 := bC b0_0 hbw3; replace b0_1 := bC b0_1 hbw3; replace b0_2 := bC b0_2 hbw3; replace b1_0 := bC b1_0 hbw3; replace b1_1 := bC b1_1 hbw3; replace hbw : Below w.heap.size w w3 := hbw.trans (hbw3.mono hbw.size); have hz3 := hbw3.size)
   | (go_at_call 95; refine (m7 _ _ S _ _ HN.out _ (hI.below hbw) ho3.is).mono ?_; rintro e w4 ⟨s4, n4, c4, rfl, ho4, hbw4⟩; replace b0_0 := bC b0_0 hbw4; replace b0_1 := bC b0_1 hbw4; replace b0_2 := bC b0_2 hbw4; replace b1_0 := bC b1_0 hbw4; replace b1_1 := bC b1_1 hbw4; replace hbw : Below w.heap.size w w4 := hbw.trans (hbw4.mono hbw.size); have hz4 := hbw4.size))
 have hmw:=hK.mvb hbw
 go_wp2_with (first
  | (go_at_call 53; refine (hA bs bm _ (1 - who) _ (x - 1) yours mine _ (by have := HX.out; omega) (by omega) hy hm (fun u h => hS u h.1) (hK.below hbw) ho4.is).mono ?_; rintro e w5 ⟨s5, n5, c5, rfl, hI5, hK5, hM5⟩; have d0 := hM5.cell b1_0; have d1 := hM5.cell b1_1)
  | (go_at_call 96; refine (lb _ _ _ g HS.out.1 (1 - who) S _ hS (fun u h => hS u (sd h).1) _ (((hP.below hbw).mv hM5).arena) ((hI.below hbw).mv hM5) hI5.1).mono ?_; rintro e w6 ⟨s6, n6, c6, rfl, ho6, hb6⟩)
  | (go_at_call 95; refine (m7 _ _ S _ _ HN.out _ (((hI.below hbw).mv hM5).below hb6) ho6.is).mono ?_; rintro e w7 ⟨s7, n7, c7, rfl, ho7, hb7⟩))
 go_ret
 have hz5:=hM5.out.size
 have hz6:=hb6.size
 have hzw:=hbw.size
 have e : x = (D : Int) + 1:=by have:=HX.out;omega
 subst e
 exact ⟨s7,n7,c7,rfl,bp.mono ho7 (by omega) (Nat.le_refl _),(hK5.below hb6).below hb7,(hmw.trans hM5).trans ((hK5.mvb hb6).trans ((hK5.below hb6).mvb hb7))⟩
end Go.Proofs.Ythjamlponejffaa
