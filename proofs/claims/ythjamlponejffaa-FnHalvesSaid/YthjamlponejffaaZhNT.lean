/-
  The answer to a query holds every small dominion of its player, and no vertex of a small dominion of the opponent.
-/
import Derived.Test.YthjamlponejffaaZhNA
namespace Go.Proofs.Ythjamlponejffaa
set_option linter.unusedVariables false
set_option linter.unusedSimpArgs false
open Go.RowKit
variable {P : PG.Gm} {n : Nat}
theorem lh {i : Int} {S T X : Nat → Prop} (h : PG.Dom P i S X) : PG.Dom P i (PG.Diff S (PG.Attr P i S T)) (fun v=>X v ∧ ¬ PG.Attr P i S T v):=by
 obtain ⟨σ,d⟩:=h
 exact ⟨σ,fun v h=>⟨d.sub v h.1,h.2⟩,fun v hv ho=>⟨(d.mine v hv.1 ho).1,(d.mine v hv.1 ho).2,fun ha=>hv.2 (PG.attr_mine (d.sub v hv.1) ho (d.mine v hv.1 ho).1 ha)⟩,
  fun v u hv ho hE hu=>⟨d.yours v u hv.1 ho hE hu.1,hu.2⟩,fun f p hp ht=>d.wins f p (fun k=>⟨(hp k).1.1,(hp k).2⟩) ht⟩
theorem rc {i : Int} (hi : i = 0 ∨ i = 1) {S X W : Nat → Prop} (h : PG.Dom P i S X) (hW : ∀ v,X v → ¬ W v) (v : Nat) (hv : X v) : ¬ PG.Attr P (1 - i) S W v:=by
 obtain ⟨σ,d⟩:=h
 intro ha
 refine (PG.attr_least (X:=fun v=>S v ∧ ¬ X v) (fun v hS hw=>⟨hS,fun hx=>hW v hx hw⟩) (fun v u hS ho hE hu=>⟨hS,fun hx=>hu.2 (d.yours v u hx (by omega) hE hu.1)⟩) (fun v hS ho _ hall=>⟨hS,fun hx=>?_⟩) v ha).2 hv
 have h1:=d.mine v hx (by have:=P.own01 v;omega)
 exact (hall _ h1.1 (d.sub _ h1.2)).2 h1.2
theorem li {i : Int} {S S' X : Nat → Prop} (h : PG.Dom P i S X) (h1 : ∀ v,X v → S' v) (h2 : ∀ v,S' v → S v) : PG.Dom P i S' X:=by
 obtain ⟨σ,d⟩:=h
 exact ⟨σ,h1,d.mine,fun v u hv ho hE hu=>d.yours v u hv ho hE (h2 u hu),d.wins⟩
theorem re (hf : PG.Fin P n) {i d : Int} (hi : i = 0 ∨ i = 1) (hd : d % 2 = 1 - i) {S Y : Nat → Prop} (hS : ∀ v,S v → v < n) (ht : PG.Total P S) (hm : ∀ v,S v → P.prio v ≤ d) (h : PG.Dom P i S Y) (hne : ∃ v,Y v) :
  ∃ Z : Nat → Prop,(∀ v,Z v → Y v) ∧ (∃ v,Z v) ∧ PG.Dom P i (PG.Diff S (PG.Attr P (1 - i) S fun v=>P.prio v = d)) Z:=by
 obtain ⟨σ,e⟩:=id h
 have hw : 1 - i = 0 ∨ 1 - i = 1:=by omega
 have hYt : PG.Total P Y:=fun v hv=>by
  by_cases ho : P.own v = i
  · exact ⟨σ v,(e.mine v hv ho).1,(e.mine v hv ho).2⟩
  · obtain ⟨u,h1,h2⟩:=ht v (e.sub v hv)
    exact ⟨u,h1,e.yours v u hv ho h1 h2⟩
 have hHt : PG.Total P (PG.Diff Y (PG.Attr P (1 - i) Y fun v=>P.prio v = d)):=PG.total_diff hf hYt
 have hHn : ∀ v,PG.Diff Y (PG.Attr P (1 - i) Y fun v=>P.prio v = d) v → v < n:=fun v hv=>hS v (e.sub v hv.1)
 have hsp:=PG.won_for hf hHn hHt hi
 refine ⟨PG.Won P i (PG.Diff Y (PG.Attr P (1 - i) Y fun v=>P.prio v = d)),fun v hv=>(PG.won_in hv).1,?_,?_⟩
 · refine Classical.byContradiction fun hno=>?_
   have hsw:=PG.won_for hf hHn hHt hw
   have hall:=PG.step_end (d:=d) hd hYt (T:=fun v=>P.prio v = d) (fun _ _ h=>h) (fun v hv=>hm v (e.sub v hv)) hsw (fun v hv=>hno ⟨v,by rwa [show 1 - (1 - i) = i by omega] at hv⟩)
   obtain ⟨v,hv⟩:=hne
   exact PG.dom_apart hi rfl (li h (fun _ h=>h) e.sub) hall v hv hv
 · obtain ⟨τ,f⟩:=hsp.1
   have key : ∀ v,PG.Attr P (1 - i) S (fun v=>P.prio v = d) v → Y v → PG.Attr P (1 - i) Y (fun v=>P.prio v = d) v:=fun v ha=>by
    refine (PG.attr_least (X:=fun v=>S v ∧ (Y v → PG.Attr P (1 - i) Y (fun v=>P.prio v = d) v)) (fun v hS hT=>⟨hS,fun hY=>PG.attr_goal hY hT⟩) (fun v u hS ho hE hu=>⟨hS,fun hY=>?_⟩) (fun v hS ho _ hall=>⟨hS,fun hY=>?_⟩) v ha).2
    · exact PG.attr_mine hY ho hE (hu.2 (e.yours v u hY (by omega) hE hu.1))
    · have h1:=e.mine v hY (by have:=P.own01 v;omega)
      exact PG.attr_yours hf hY ho ⟨σ v,h1.1,h1.2⟩ fun u hE hu=>(hall u hE (e.sub u hu)).2 hu
   refine ⟨τ,fun v hv=>⟨e.sub v (f.sub v hv).1,fun ha=>(f.sub v hv).2 (key v ha (f.sub v hv).1)⟩,f.mine,fun v u hv ho hE hu=>?_,f.wins⟩
   have h1:=f.sub v hv
   have hY:=e.yours v u h1.1 ho hE hu.1
   exact f.yours v u hv ho hE ⟨hY,fun ha=>h1.2 (PG.attr_mine h1.1 (by have:=P.own01 v;omega) hE ha)⟩
def QC (P : PG.Gm) (n D : Nat) : Prop:=∀ (who : Int) (S : Nat → Prop) (mine yours : Int),(who = 0 ∨ who = 1) → ((D : Int) - 1) % 2 = who → 0 ≤ mine → 0 ≤ yours → (∀ v,S v → v < n) → PG.Total P S → (∀ v,S v → P.prio v ≤ (D : Int) - 1) →
 (∀ X,PG.Dom P who S X → (num X n : Int) ≤ mine → ∀ v,X v → qA P n D who S mine yours v) ∧ (∀ Y,PG.Dom P (1 - who) S Y → (num Y n : Int) ≤ yours → ∀ v,Y v → ¬ qA P n D who S mine yours v)
section
variable (hf : PG.Fin P n) {D : Nat} (hC : QC P n D) {who : Int} (hD : (D : Int) % 2 = who) {mine yours : Int} (hm : 0 ≤ mine) (hy : 0 ≤ yours) {S : Nat → Prop} (hS : ∀ v,S v → v < n) (ht : PG.Total P S) (hp : ∀ v,S v → P.prio v ≤ D)
include hf hC hD hm hy hS ht hp
theorem g8 {X : Nat → Prop} (hX : PG.Dom P who S X) (hn : (num X n : Int) ≤ mine) : (∀ v,X v → qR P (qA P n D) who D mine yours S v) ∧ PG.Dom P who (qR P (qA P n D) who D mine yours S) X:=by
 have hw : who = 0 ∨ who = 1:=by omega
 have h2:=(hC (1 - who) (PG.Diff S (PG.Attr P who S fun v=>P.prio v = D)) yours mine (by omega) (by omega) hy hm (fun v h=>hS v h.1) (PG.total_diff hf ht) (og hp)).2 (fun v=>X v ∧ ¬ PG.Attr P who S (fun v=>P.prio v = D) v)
  (by rw [show 1 - (1 - who) = who by omega];exact lh hX) (by have:=lS (A:=fun v=>X v ∧ ¬ PG.Attr P who S (fun v=>P.prio v = D) v) (B:=X) (k:=n) (fun _ h=>h.1);omega)
 have h3 : ∀ v,X v → qR P (qA P n D) who D mine yours S v:=fun v hv=>by
  obtain ⟨σ,d⟩:=id hX
  exact ⟨d.sub v hv,rc hw hX (fun u hu hL=>h2 u ⟨hu,(sd hL).2⟩ hL) v hv⟩
 exact ⟨h3,li hX h3 fun v h=>dN h⟩
theorem kq {Y : Nat → Prop} (hY : PG.Dom P (1 - who) S Y) (hne : ∃ v,Y v) (hfix : qR P (qA P n D) who D mine yours S = S) :
  ∃ Z : Nat → Prop,(∀ v,Z v → Y v) ∧ PG.Dom P (1 - who) (PG.Diff S (PG.Attr P who S fun v=>P.prio v = D)) Z ∧ yours < (num Z n : Int):=by
 obtain ⟨Z,h1,⟨v,hv⟩,h3⟩:=re hf (i:=1 - who) (d:=D) (by omega) (by omega) hS ht hp hY hne
 rw [show 1 - (1 - who) = who by omega] at h3
 refine ⟨Z,h1,h3,Int.not_le.1 fun hle=>?_⟩
 have h2:=(hC (1 - who) (PG.Diff S (PG.Attr P who S fun v=>P.prio v = D)) yours mine (by omega) (by omega) hy hm (fun v h=>hS v h.1) (PG.total_diff hf ht) (og hp)).1 Z h3 hle v hv
 have hSv : S v:=by obtain ⟨σ,d⟩:=h3;exact (d.sub v hv).1
 have h5 : qR P (qA P n D) who D mine yours S v:=by rw [hfix];exact hSv
 exact h5.2 (PG.attr_goal hSv h2)
theorem oO {Z : Nat → Prop} (hZ : PG.Dom P (1 - who) (PG.Diff S (PG.Attr P who S fun v=>P.prio v = D)) Z) (hn : (num Z n : Int) ≤ yours) (v : Nat) (hv : Z v) : ¬ qR P (qA P n D) who D mine yours S v:=fun h=>by
 have h2:=(hC (1 - who) (PG.Diff S (PG.Attr P who S fun v=>P.prio v = D)) yours mine (by omega) (by omega) hy hm (fun v h=>hS v h.1) (PG.total_diff hf ht) (og hp)).1 Z hZ hn v hv
 exact h.2 (PG.attr_goal h.1 h2)
end
theorem tu {who d mine yours : Int} {A : Int → (Nat → Prop) → Int → Int → Nat → Prop} {S Y : Nat → Prop} (hY : PG.Dom P (1 - who) S Y) : PG.Dom P (1 - who) (qR P A who d mine yours S) (fun v=>Y v ∧ qR P A who d mine yours S v):=by
 obtain ⟨σ,e⟩:=id hY
 exact PG.dom_set (fun _=>Iff.rfl) (fun v=>⟨fun h=>⟨h.1,e.sub v h.1,h.2⟩,fun h=>⟨h.1,h.2.2⟩⟩) (lh (T:=A (1 - who) (PG.Diff S (PG.Attr P who S fun v=>P.prio v = d)) yours mine) hY)
theorem l7 {who d mine yours : Int} {A : Int → (Nat → Prop) → Int → Int → Nat → Prop} {S Y : Nat → Prop} (hY : PG.Dom P (1 - who) S Y) : ∀ k,PG.Dom P (1 - who) (itQ (qR P A who d mine yours) S k) (fun v=>Y v ∧ itQ (qR P A who d mine yours) S k v)
 | 0 => by
   obtain ⟨σ,e⟩:=id hY
   exact PG.dom_set (fun _=>Iff.rfl) (fun v=>⟨fun h=>⟨h,e.sub v h⟩,fun h=>h.1⟩) hY
 | k + 1 => PG.dom_set (fun _ => Iff.rfl) (fun v => ⟨fun h => ⟨h.1.1, h.2⟩, fun h => ⟨⟨h.1, dN h.2⟩, h.2⟩⟩) (tu (l7 hY k))
theorem uX : QC P n 0:=fun who S mine yours hw hd hm hy hS ht hp=>by
 have hno : ∀ v,¬ S v:=fun v hv=>by have:=hp v hv;have:=P.nn v;simp at *;omega
 exact ⟨fun X ⟨σ,d⟩ _ v hv=>absurd (d.sub v hv) (hno v),fun Y _ _ v _ h=>h⟩
theorem uY (hf : PG.Fin P n) {D : Nat} (hC : QC P n D) : QC P n (D + 1):=fun who S mine yours hw hd hm hy hS ht hp=>by
 have hD : (D : Int) % 2 = who:=by rw [← hd];congr 1;omega
 have hp' : ∀ v,S v → P.prio v ≤ D:=fun v hv=>by have:=hp v hv;omega
 by_cases h0 : mine = 0
 · rw [u4 h0]
   refine ⟨fun X ⟨σ,d⟩ hn v hv=>?_,fun Y _ _ v _ h=>h⟩
   exact absurd hv (dZ.1 (show num X n = 0 by omega) v (hS v (d.sub v hv)))
 · rw [lT h0]
   have hy2 : 0 ≤ yours / 2:=by omega
   have tot : ∀ (y : Int) (T : Nat → Prop),PG.Total P T → ∀ k,PG.Total P (itQ (qR P (qA P n D) who D mine y) T k):=fun y T h k=>k7 (fun _ h=>mL hf h) h k
   have sub : ∀ (y : Int) (T : Nat → Prop) k v,itQ (qR P (qA P n D) who D mine y) T k v → T v:=fun y T k v h=>gn (fun _ _ h=>dN h) k v h
   have keep : ∀ X,(num X n : Int) ≤ mine → ∀ T,(∀ v,T v → S v) → PG.Total P T → PG.Dom P who T X → ∀ k,PG.Dom P who (itQ (qR P (qA P n D) who D mine (yours / 2)) T k) X:=fun X hn T hT htT hX k=>by
    induction k with
    | zero => exact hX
    | succ k ih => exact (g8 hf hC hD hm hy2 (fun v h => hS v (hT v (sub _ _ _ v h))) (tot _ _ htT k) (fun v h => hp' v (hT v (sub _ _ _ v h))) ih hn).2
   generalize hG1 : itQ (qR P (qA P n D) who D mine (yours / 2)) S n = G1
   have s1 : ∀ v,G1 v → S v:=fun v h=>by rw [← hG1] at h;exact sub _ _ _ v h
   have t1 : PG.Total P G1:=by rw [← hG1];exact tot _ _ ht n
   have f1 : qR P (qA P n D) who D mine (yours / 2) G1 = G1:=by rw [← hG1];exact jB (fun _ _ h=>dN h) hS
   have t2 : PG.Total P (qR P (qA P n D) who D mine yours G1):=mL hf t1
   generalize hG3 : itQ (qR P (qA P n D) who D mine (yours / 2)) (qR P (qA P n D) who D mine yours G1) n = G3
   have s3 : ∀ v,G3 v → qR P (qA P n D) who D mine yours G1 v:=fun v h=>by rw [← hG3] at h;exact sub _ _ _ v h
   have t3 : PG.Total P G3:=by rw [← hG3];exact tot _ _ t2 n
   have f3 : qR P (qA P n D) who D mine (yours / 2) G3 = G3:=by rw [← hG3];exact jB (fun _ _ h=>dN h) fun v h=>hS v (s1 v (dN h))
   refine ⟨fun X hX hn v hv=>?_,fun Y hY hn v hv hv3=>?_⟩
   · have k1:=keep X hn S (fun _ h=>h) ht hX n
     rw [hG1] at k1
     have k2:=(g8 hf hC hD hm hy (fun v h=>hS v (s1 v h)) t1 (fun v h=>hp' v (s1 v h)) k1 hn).2
     have k3:=keep X hn _ (fun v h=>s1 v (dN h)) t2 k2 n
     rw [hG3] at k3
     obtain ⟨σ,d⟩:=k3
     exact d.sub v hv
   · have k1:=l7 (A:=qA P n D) (d:=D) (mine:=mine) (yours:=yours / 2) hY n
     rw [hG1] at k1
     have k2:=tu (A:=qA P n D) (d:=D) (mine:=mine) (yours:=yours) k1
     have k3:=l7 (A:=qA P n D) (d:=D) (mine:=mine) (yours:=yours / 2) k2 n
     rw [hG3] at k3
     have v2:=s3 v hv3
     have v1:=dN v2
     obtain ⟨Z3,a1,_,a3⟩:=kq hf hC hD hm hy2 (fun v h=>hS v (s1 v (dN (s3 v h)))) t3 (fun v h=>hp' v (s1 v (dN (s3 v h)))) k3 ⟨v,⟨⟨hv,v1⟩,v2⟩,hv3⟩ f3
     obtain ⟨Z1,b1,b2,b3⟩:=kq hf hC hD hm hy2 (fun v h=>hS v (s1 v h)) t1 (fun v h=>hp' v (s1 v h)) k1 ⟨v,hv,v1⟩ f1
     have c1:=lS (A:=Z1) (B:=Y) (k:=n) fun u h=>(b1 u h).1
     have c2:=oO hf hC hD hm hy (fun v h=>hS v (s1 v h)) t1 (fun v h=>hp' v (s1 v h)) b2 (by omega)
     have c3:=lR (A:=Z3) (B:=Z1) (C:=Y) (k:=n) (fun u h=>(a1 u h).1.1.1) (fun u h=>(b1 u h).1) fun u h h'=>c2 u h' (a1 u h).1.2
     omega
theorem kp (hf : PG.Fin P n) : ∀ D,QC P n D
 | 0 => uX
 | D + 1 => uY hf (kp hf D)
theorem uT (hf : PG.Fin P n) {D : Nat} {who : Int} (hD : (D : Int) % 2 = who) {mine yours : Int} (hm : 0 ≤ mine) (hy : 0 ≤ yours) {S : Nat → Prop} (hS : ∀ v,S v → v < n) (ht : PG.Total P S) (hp : ∀ v,S v → P.prio v ≤ D)
  {X : Nat → Prop} (hX : PG.Dom P who S X) (hn : (num X n : Int) ≤ mine) (v : Nat) (hv : X v) : qR P (qA P n D) who D mine yours S v:=(g8 hf (kp hf D) hD hm hy hS ht hp hX hn).1 v hv
end Go.Proofs.Ythjamlponejffaa
