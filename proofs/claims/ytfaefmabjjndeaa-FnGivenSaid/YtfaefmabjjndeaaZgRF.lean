/-
  FnGiven, walked.
-/
import Derived.Test.YtfaefmabjjndeaaZgR2
import Derived.Test.YtfaefmabjjndeaaZgRB
import Derived.Test.YtfaefmabjjndeaaZgRC
import Derived.Test.YtfaefmabjjndeaaZgD5
import Derived.Test.YtfaefmabjjndeaaZgE24
namespace Go.Proofs.Ytfaefmabjjndeaa
set_option linter.unusedVariables false
set_option linter.unusedSimpArgs false
open Go.RowKit
theorem oG {g : Pa} (hg : PaOk g) {ps : List Int} (h : PickOk g ps) (hG : iX g ps) : bH (cW g ps) = bH g:=by
 have hok:=dO hg h.pk
 have e1 : (bH (cW g ps)).length = g.prio.length:=dN _
 refine (iV (by rw [dN g];exact e1)).2 fun v hv=>?_
 have hv' : v < g.prio.length:=by omega
 have hi:=iW (g:=g) hv'
 obtain ⟨σ,d⟩:=iY hg h hi (hG _ hi)
 refine (ic hok hv' hi).2 ⟨_,⟨σ,PG.dom_part d (fun x hx=>(ee.1 hx).1) fun x u hx ho he hu=>?_⟩,ee.2 ⟨hv',rfl⟩⟩
 obtain ⟨a1,a2,a3⟩:=(eJ hg).1 he
 have hxw:=(ee.1 hx).2
 rw [np hok a1] at ho
 have ho' : gi g.ar.own x ≠ gi (bH g) v:=ho
 have h0 : ¬ 0 ≤ gi ps x:=fun hp=>ho' ((h.in' x a1 hp).1.trans hxw)
 rw [show cQ g.ar.nxt ps x = gr g.ar.nxt x from if_neg h0] at a3
 obtain ⟨t,ht,e⟩:=dc a3
 have:=(gW hg a1).2 (by omega) t ht
 rw [e,Int.toNat_natCast] at this
 exact ee.2 ⟨a2,this.trans hxw⟩
theorem tW {g : Pa} (hg : PaOk g) {ps : List Int} (h : PickOk g ps) (hG : iX g ps) : jH g ps :=
 ⟨⟨⟨hg,h.pk⟩,oG hg h hG⟩,fun v hv h0=>(h.in' v (by have:=h.pk.1;omega) h0).1⟩
noncomputable def jI (g : Pa) (k : Nat) : List Int:=tab g.prio.length fun v=>if v < k then gi (sr g) v else -1
theorem sD (g : Pa) (k : Nat) : (jI g k).length = g.prio.length:=cR _ _
theorem sE {g : Pa} (hg : PaOk g) : (sr g).length = g.prio.length:=(eV hg (iB hg) _ (Nat.le_refl _)).pk.1
theorem sF {g : Pa} {ps : List Int} {k v : Nat} (hk : k < ps.length) (h : v ≠ k) : gi (eU g (bH g) ps k) v = gi ps v:=by
 unfold eU
 split
 · rw [cU hk,if_neg h]
 · rfl
theorem qB {g : Pa} (hg : PaOk g) {ps : List Int} (h : PickOk g ps) {k v : Nat} (hv : v < k) : ∀ m,k ≤ m → m ≤ g.prio.length → gi (cV g (bH g) ps m) v = gi (cV g (bH g) ps k) v:=by
 intro m
 induction m with
 | zero => intro h1; omega
 | succ m ih =>
   intro h1 h2
   by_cases e : k = m + 1
   · rw [e]
   · rw [← ih (by omega) (by omega)]
     exact sF (by rw [(eV hg h m (by omega)).pk.1];omega) (by omega)
theorem lF {g : Pa} (hg : PaOk g) {k : Nat} (hk : k ≤ g.prio.length) : cV g (bH g) (noP g.prio.length) k = jI g k:=by
 have h0:=iB hg
 refine i5 (eV hg h0 k hk).pk.1 fun v hv=>?_
 by_cases e : v < k
 · rw [if_pos e,qB hg h0 e _ hk (Nat.le_refl _)]
 · rw [if_neg e,(fv hg h0 (f7 (i4 hg)) k hk).2.2 v (.inr (by omega)),noP,df _ hv]
theorem sG {g : Pa} (hg : PaOk g) {k : Nat} (hk : k ≤ g.prio.length) : jH g (jI g k):=by
 have h0:=iB hg
 rw [← lF hg hk]
 exact tW hg (eV hg h0 k hk) (fv hg h0 (f7 (i4 hg)) k hk).1
theorem oH {g : Pa} (hg : PaOk g) {k : Nat} (hk : k ≤ g.prio.length) : cV g (bH g) (jI g k) g.prio.length = sr g:=by
 have h0:=iB hg
 have hall:=(fv hg h0 (f7 (i4 hg)) _ (Nat.le_refl _)).2.1
 have h1 : ∀ j,j ≤ k → cV g (bH g) (jI g k) j = jI g k:=by
  intro j
  induction j with
  | zero => intro _; rfl
  | succ j ih =>
    intro hj
    show eU g (bH g) (cV g (bH g) (jI g k) j) j = _
    rw [ih (by omega)]
    unfold eU
    refine if_neg fun ⟨a,b⟩=>?_
    rw [jI,df _ (by omega),if_pos (by omega)] at b
    have : 0 ≤ gi (sr g) j:=hall j (by omega) a
    omega
 have h2 : ∀ d,k + d ≤ g.prio.length → cV g (bH g) (jI g k) (k + d) = cV g (bH g) (noP g.prio.length) (k + d):=by
  intro d
  induction d with
  | zero => intro _; rw [Nat.add_zero, h1 k (Nat.le_refl _), lF hg hk]
  | succ d ih =>
    intro hd
    show eU g (bH g) (cV g (bH g) (jI g k) (k + d)) (k + d) = eU g (bH g) (cV g (bH g) (noP g.prio.length) (k + d)) (k + d)
    rw [ih (by omega)]
 have:=h2 (g.prio.length - k) (by omega)
 rwa [show k + (g.prio.length - k) = g.prio.length by omega] at this
theorem oI {g : Pa} {ps : List Int} (h : jH g ps) {v : Nat} (h0 : 0 ≤ gi ps v) : gi (cV g (bH g) ps g.prio.length) v = gi ps v :=
 (fv h.1.1.1 (fY h) (f7 h) _ (Nat.le_refl _)).2.2 v (.inl h0)
theorem lG {p : Int → Prop} {xs : List Int} {x : Int} : ∀ k,k ≤ xs.length → (x ∈ i9 p xs k ↔ ∃ j,j < k ∧ gi xs j = x ∧ p x)
 | 0, _ => ⟨fun h => (by cases h), fun ⟨j, h, _⟩ => absurd h (Nat.not_lt_zero _)⟩
 | k + 1, hk => by
   have ih:=lG (p:=p) (xs:=xs) (x:=x) k (by omega)
   by_cases h : p (gi xs k)
   · rw [fJ h,List.mem_append,ih,List.mem_singleton]
     constructor
     · rintro (⟨j,h1,h2⟩|rfl)
       · exact ⟨j,by omega,h2⟩
       · exact ⟨k,by omega,rfl,h⟩
     · rintro ⟨j,h1,h2,h3⟩
       rcases Nat.lt_or_ge j k with h'|h'
       · exact .inl ⟨j,h',h2,h3⟩
       · rw [show j = k by omega] at h2;exact .inr h2.symm
   · rw [g0 h,ih]
     constructor
     · rintro ⟨j,h1,h2⟩;exact ⟨j,by omega,h2⟩
     · rintro ⟨j,h1,h2,h3⟩
       rcases Nat.lt_or_ge j k with h'|h'
       · exact ⟨j,h',h2,h3⟩
       · rw [show j = k by omega] at h2;exact absurd (h2 ▸ h3) h
noncomputable def f8 (g : Pa) (v : Nat) : List Int:=i9 (fun u=>gi g.ar.own v ≠ gi (bH g) v ∨ gi (bH g) u.toNat = gi (bH g) v) (gr g.ar.nxt v) (gr g.ar.nxt v).length
theorem nB {g : Pa} {v : Nat} {u : Int} : u ∈ f8 g v ↔ u ∈ gr g.ar.nxt v ∧ (gi g.ar.own v ≠ gi (bH g) v ∨ gi (bH g) u.toNat = gi (bH g) v):=by
 unfold f8
 rw [lG _ (Nat.le_refl _),jZ]
 exact ⟨fun ⟨j,a,b,c⟩=>⟨⟨j,a,b⟩,c⟩,fun ⟨⟨j,a,b⟩,c⟩=>⟨j,a,b,c⟩⟩
theorem qC {g : Pa} (hg : PaOk g) {v : Nat} (hv : v < g.prio.length) : 0 < (f8 g v).length:=by
 obtain ⟨t,ht,e⟩:=(gW hg hv).1
 exact List.length_pos_of_mem (nB.2 ⟨dr ht,.inr e⟩)
end Go.Proofs.Ytfaefmabjjndeaa
namespace Go.Proofs.Ytfaefmabjjndeaa
set_option linter.unusedVariables false
set_option linter.unusedSimpArgs false
open Go.RowKit
attribute [local irreducible] aG cO Aw Le
end Go.Proofs.Ytfaefmabjjndeaa
namespace Go.Proofs.Ytfaefmabjjndeaa
set_option linter.unusedVariables false
set_option linter.unusedSimpArgs false
open Go.RowKit
attribute [local irreducible] aG cO Aw Le
set_option maxHeartbeats 1000000 in
theorem qD (g : Pa) (hg : PaOk g) (v : Nat) (hv : v < g.prio.length) : aG Try.prog 37 [paA g,.c (.int .i64 v)] [.arr 2 .yes (.I (f8 g v))] (fun ns=>.sl (ns.getD 0 0)):=by
 have hl:=hg.len
 have hle:=hg.ar.le
 have hln:=hg.ar.len
 have c1:=iQ g
 have c2:=tB g.ar v
 have c3:=fg g hg
 have hWl:=dN g
 rw [bZ hg] at c1
 rw [bZ (show wo g.ar.own.length v from ⟨by omega,by omega⟩)] at c2
 have hcv:=hg.ar.vert v (by omega)
 have hrw : ∀ t,t < (gr g.ar.nxt v).length → 0 ≤ gi (gr g.ar.nxt v) t ∧ gi (gr g.ar.nxt v) t < g.prio.length:=fun t ht=>ep hg hv ht
 unfold f8
 generalize bH g = W at *
 (refine bT aM Try.func37 rfl rfl (by kernel_rfl) fun hp0 ν hX hN=>?_;simp only [cL,Nat.reduceAdd])
 (repeat' (first|(with_reducible first|(refine hK _ _ ?_;clear hK K)|(refine aa _ ?_;clear aa K)|(refine ab _ _ _ ?_;clear ab K)|(refine ac _ _ ?_;clear ac K)|refine bh ?_|refine b7 ?_|refine a9 ?_|refine aq ?_|refine ap ?_|refine b8 ?_|refine aI ?_|refine ba ?_|refine b9 ?_|refine bc ?_|refine bd rfl ?_|refine bi ?_|refine be ?_|refine ca ?_|refine bf ?_|refine aH ?_|refine n_k ?_|refine bg ?_|(refine ae ?_;clear ae X af Y)|(refine af ?_;clear ae X af Y))|(with_reducible refine bo ?_;first|refine bm rfl ?_|refine bn rfl ?_)|(with_reducible refine aW ?_;first|refine au rfl rfl rfl rfl ?_|refine aK rfl rfl rfl ?_|refine bt rfl rfl rfl rfl ?_)|(with_reducible refine cr ?_;first|refine bR rfl rfl rfl rfl ?_|refine cf rfl rfl rfl ?_|refine cA rfl rfl rfl rfl ?_|refine cB hN (by apply Exists.intro;apply And.intro;(repeat' (first|apply FtI.nil|apply FI.nil|apply FI.cons|apply FtI.cons));kernel_rfl) ?_)|((first|(with_reducible first|refine bp rfl rfl fun K hK=>?_|refine cy rfl rfl fun K ab=>?_|refine br rfl rfl fun K aa=>?_|refine cz rfl rfl fun K ac=>?_|refine aJ fun X Y ae af=>?_|refine aL ?_)|(with_reducible refine aW ?_;refine bv rfl rfl fun X Y ae af=>?_)|(with_reducible refine cr ?_;refine cC rfl rfl fun X Y ae af=>?_));simp (disch:=first|decide|omega|(simp only [List.length_cons,List.length_nil];omega)) only [go_sem,beq_self_eq_true,↓aj,↓ak hN,am hN,reduceIte,reduceCtorEq,Nat.reduceAdd,Nat.reduceLT,Nat.reduceLeDiff,Nat.reduceEqDiff,Nat.reduceSub])|(with_reducible refine And.intro (fun h=>?_) (fun h=>?_) <;> try (exfalso;omega))|(with_reducible refine bj aM hN rfl ?_ ?_;kernel_rfl)|(with_reducible refine bS aM hN rfl ?_ ?_ ?_ ?_;(kernel_rfl);(kernel_rfl);(kernel_rfl))|(refine aV c1 ?_ rfl (fun _=>rfl) ?_)|(refine aV c2 ?_ rfl (fun _=>rfl) ?_)|(refine aV (c3) ?_ rfl (fun _=>rfl) ?_;focus ((repeat' (first|(with_reducible first|exact aF|refine ax ?_ ?_|exact cu _|refine bw ?_|exact a8 _|exact bY _ _|refine bX ?_|exact aY _)|exact bz hN rfl rfl|(refine bW hN rfl ?_;first|exact aN _|exact aO _)|exact aZ rfl rfl rfl));done))|(with_reducible first|exact aF|refine ax ?_ ?_|exact cu _|refine bw ?_|exact a8 _|exact bY _ _|refine bX ?_|exact aY _)|exact bz hN rfl rfl|(refine bW hN rfl ?_;first|exact aN _|exact aO _)|exact aZ rfl rfl rfl|(simp only [bI,List.map_nil])|(with_reducible refine cc ?_)|(with_reducible refine And.intro ?_ ?_)|(refine ah ?_;omega)|(exact bu hN (by decide))))
 (refine ck (fun (k : Nat)=>(tmL [(29,.c (.int .i64 k)),(28,.c (.int .i64 (gr g.ar.nxt v).length)),(27,.c (.I (gr g.ar.nxt v))),(6,.sl (ν 2)),(5,.sl (ν 1)),(2,.ad (ν 0) 0),(1,.c (.int .i64 v))],hpL hp0 ν [.box [.c (.I g.ar.own),.c (.R g.ar.nxt),.c (.I g.prio)],.arr 2 .yes (.I W),.arr 2 .yes (.I (i9 (fun u=>¬ gi g.ar.own v = gi W v ∨ gi W u.toNat = gi W v) (gr g.ar.nxt v) k))])) (fun (k : Nat)=>k ≤ (gr g.ar.nxt v).length) (fun (k : Nat)=>(gr g.ar.nxt v).length - k) ⟨0,?_,bU hX hN [] ?_ ?_⟩ ?_;(repeat' (first|(with_reducible first|exact bL _|exact bM|exact bN|refine bO ?_ ?_|refine bP ?_ ?_|exact ay _|exact bJ _|exact ao _|rfl|exact aR _ _|refine aA ?_|exact bK _|refine aU ?_)|refine bQ rfl ?_ ?_|exact aS hN _ rfl rfl rfl|exact aT hN _ rfl rfl rfl|exact aB hN _ rfl rfl rfl (Or.inr rfl)|(refine aP hN _ rfl rfl (by first|exact Or.inr rfl|exact Or.inl rfl) ?_;first|exact aN _|exact aO _)|refine aC hN rfl ?_|refine aD hN rfl rfl ?_|exact az hN _ rfl rfl|exact aE hN rfl rfl rfl rfl|(with_reducible first|refine aQ ?_|refine bC ?_|refine bE ?_|refine bF ?_|refine bD ?_|refine bB ?_)));(try (any_goals (first|(with_reducible rfl)|(refine ah ?_;omega)))))
 · rfl
 intro k hk
 have hfl:=jY (fun u=>¬ gi g.ar.own v = gi W v ∨ gi W u.toNat = gi W v) (gr g.ar.nxt v) k
 have hrk:=hrw k
 (repeat' (first|(with_reducible first|(refine hK _ _ ?_;clear hK K)|(refine aa _ ?_;clear aa K)|(refine ab _ _ _ ?_;clear ab K)|(refine ac _ _ ?_;clear ac K)|refine bh ?_|refine b7 ?_|refine a9 ?_|refine aq ?_|refine ap ?_|refine b8 ?_|refine aI ?_|refine ba ?_|refine b9 ?_|refine bc ?_|refine bd rfl ?_|refine bi ?_|refine be ?_|refine ca ?_|refine bf ?_|refine aH ?_|refine n_k ?_|refine bg ?_|(refine ae ?_;clear ae X af Y)|(refine af ?_;clear ae X af Y))|(with_reducible refine bo ?_;first|refine bm rfl ?_|refine bn rfl ?_)|(with_reducible refine aW ?_;first|refine au rfl rfl rfl rfl ?_|refine aK rfl rfl rfl ?_|refine bt rfl rfl rfl rfl ?_)|(with_reducible refine cr ?_;first|refine bR rfl rfl rfl rfl ?_|refine cf rfl rfl rfl ?_|refine cA rfl rfl rfl rfl ?_|refine cB hN (by apply Exists.intro;apply And.intro;(repeat' (first|apply FtI.nil|apply FI.nil|apply FI.cons|apply FtI.cons));kernel_rfl) ?_)|((first|(with_reducible first|refine bp rfl rfl fun K hK=>?_|refine cy rfl rfl fun K ab=>?_|refine br rfl rfl fun K aa=>?_|refine cz rfl rfl fun K ac=>?_|refine aJ fun X Y ae af=>?_|refine aL ?_)|(with_reducible refine aW ?_;refine bv rfl rfl fun X Y ae af=>?_)|(with_reducible refine cr ?_;refine cC rfl rfl fun X Y ae af=>?_));simp (disch:=first|decide|omega|(simp only [List.length_cons,List.length_nil];omega)) only [go_sem,beq_self_eq_true,↓aj,↓ak hN,am hN,reduceIte,reduceCtorEq,Nat.reduceAdd,Nat.reduceLT,Nat.reduceLeDiff,Nat.reduceEqDiff,Nat.reduceSub])|(with_reducible refine And.intro (fun h=>?_) (fun h=>?_) <;> try (exfalso;omega))|(with_reducible refine bj aM hN rfl ?_ ?_;kernel_rfl)|(with_reducible refine bS aM hN rfl ?_ ?_ ?_ ?_;(kernel_rfl);(kernel_rfl);(kernel_rfl))|(with_reducible refine And.intro ?_ ?_)|(refine ah ?_;omega)|(exact bu hN (by decide))))
 · (refine ⟨k + 1,⟨?_,?_⟩,bU hX hN [(2,4)] ?_ ?_⟩;(try any_goals dsimp only);(repeat' (first|(with_reducible first|exact bL _|exact bM|exact bN|refine bO ?_ ?_|refine bP ?_ ?_|exact ay _|exact bJ _|exact ao _|rfl|exact aR _ _|refine aA ?_|exact bK _|refine aU ?_)|refine bQ rfl ?_ ?_|exact aS hN _ rfl rfl rfl|exact aT hN _ rfl rfl rfl|exact aB hN _ rfl rfl rfl (Or.inr rfl)|(refine aP hN _ rfl rfl (by first|exact Or.inr rfl|exact Or.inl rfl) ?_;first|exact aN _|exact aO _)|refine aC hN rfl ?_|refine aD hN rfl rfl ?_|exact az hN _ rfl rfl|exact aE hN rfl rfl rfl rfl|(with_reducible first|refine aQ ?_|refine bC ?_|refine bE ?_|refine bF ?_|refine bD ?_|refine bB ?_)));(try (any_goals (first|(with_reducible rfl)|(refine ah ?_;omega)))))
   exact fJ (p:=fun u=>¬ gi g.ar.own v = gi W v ∨ gi W u.toNat = gi W v) (.inl (by assumption))
 · (refine ⟨k + 1,⟨?_,?_⟩,bU hX hN [(2,4)] ?_ ?_⟩;(try any_goals dsimp only);(repeat' (first|(with_reducible first|exact bL _|exact bM|exact bN|refine bO ?_ ?_|refine bP ?_ ?_|exact ay _|exact bJ _|exact ao _|rfl|exact aR _ _|refine aA ?_|exact bK _|refine aU ?_)|refine bQ rfl ?_ ?_|exact aS hN _ rfl rfl rfl|exact aT hN _ rfl rfl rfl|exact aB hN _ rfl rfl rfl (Or.inr rfl)|(refine aP hN _ rfl rfl (by first|exact Or.inr rfl|exact Or.inl rfl) ?_;first|exact aN _|exact aO _)|refine aC hN rfl ?_|refine aD hN rfl rfl ?_|exact az hN _ rfl rfl|exact aE hN rfl rfl rfl rfl|(with_reducible first|refine aQ ?_|refine bC ?_|refine bE ?_|refine bF ?_|refine bD ?_|refine bB ?_)));(try (any_goals (first|(with_reducible rfl)|(refine ah ?_;omega)))))
   exact fJ (p:=fun u=>¬ gi g.ar.own v = gi W v ∨ gi W u.toNat = gi W v) (.inr (by assumption))
 · (refine ⟨k + 1,⟨?_,?_⟩,bU hX hN [] ?_ ?_⟩;(try any_goals dsimp only);(repeat' (first|(with_reducible first|exact bL _|exact bM|exact bN|refine bO ?_ ?_|refine bP ?_ ?_|exact ay _|exact bJ _|exact ao _|rfl|exact aR _ _|refine aA ?_|exact bK _|refine aU ?_)|refine bQ rfl ?_ ?_|exact aS hN _ rfl rfl rfl|exact aT hN _ rfl rfl rfl|exact aB hN _ rfl rfl rfl (Or.inr rfl)|(refine aP hN _ rfl rfl (by first|exact Or.inr rfl|exact Or.inl rfl) ?_;first|exact aN _|exact aO _)|refine aC hN rfl ?_|refine aD hN rfl rfl ?_|exact az hN _ rfl rfl|exact aE hN rfl rfl rfl rfl|(with_reducible first|refine aQ ?_|refine bC ?_|refine bE ?_|refine bF ?_|refine bD ?_|refine bB ?_)));(try (any_goals (first|(with_reducible rfl)|(refine ah ?_;omega)))))
   exact g0 fun h=>h.elim (fun h=>h (dq (by assumption))) (gu (by assumption))
 · (refine dk hN (i:=2) (.inr rfl) (by first|rfl|(simp (disch:=first|decide|omega|(simp only [List.length_cons,List.length_nil];omega)) only [ci,cj,cm,co,go_sem,beq_self_eq_true,↓aj,↓ak hN,am hN,reduceIte,reduceCtorEq,Nat.reduceAdd,Nat.reduceLT,Nat.reduceLeDiff,Nat.reduceEqDiff,Nat.reduceSub];rfl)) rfl ?_ rfl)
   rw [show k = (gr g.ar.nxt v).length by omega]
theorem sH (n : Nat) (hn : n ≤ 1048576) : aG Try.prog 35 [.c (.int .i64 n)] [.arr 2 .yes (.I (noP n))] (fun ns=>.sl (ns.getD 0 0)):=by
 (refine bT aM Try.func35 rfl rfl (by kernel_rfl) fun hp0 ν hX hN=>?_;simp only [cL,Nat.reduceAdd])
 (repeat' (first|(with_reducible first|(refine hK _ _ ?_;clear hK K)|(refine aa _ ?_;clear aa K)|refine bh ?_|refine b7 ?_|refine a9 ?_|refine aq ?_|refine ap ?_|refine b8 ?_|refine aI ?_|refine ba ?_|refine b9 ?_|refine bc ?_|refine bd rfl ?_|refine bi ?_|refine be ?_|refine ca ?_|refine bf ?_|refine aH ?_|refine n_k ?_|refine bg ?_|(refine ae ?_;clear ae X af Y)|(refine af ?_;clear ae X af Y))|(with_reducible refine bo ?_;first|refine bm rfl ?_|refine bn rfl ?_)|(with_reducible refine aW ?_;first|refine au rfl rfl rfl rfl ?_|refine aK rfl rfl rfl ?_|refine bt rfl rfl rfl rfl ?_)|((first|(with_reducible first|refine bp rfl rfl fun K hK=>?_|refine br rfl rfl fun K aa=>?_|refine aJ fun X Y ae af=>?_|refine aL ?_));simp (disch:=first|decide|omega|(simp only [List.length_cons,List.length_nil];omega)) only [go_sem,beq_self_eq_true,↓aj,↓ak hN,am hN,reduceIte,reduceCtorEq,Nat.reduceAdd,Nat.reduceLT,Nat.reduceLeDiff,Nat.reduceEqDiff,Nat.reduceSub])|(with_reducible refine And.intro (fun h=>?_) (fun h=>?_) <;> try (exfalso;omega))|(with_reducible refine bj aM hN rfl ?_ ?_;kernel_rfl)|(with_reducible refine And.intro ?_ ?_)|(refine ah ?_;omega)|(exact bu hN (by decide))))
 (refine ck (fun (k : Nat)=>(tmL [(4,.c (.int .i64 k)),(3,.sl (ν 0)),(0,.c (.int .i64 n))],hpL hp0 ν [.arr 2 .yes (.I (tab k fun _=>-1))])) (fun (k : Nat)=>k ≤ n) (fun (k : Nat)=>n - k) ⟨0,?_,bU hX hN [] ?_ ?_⟩ ?_;(repeat' (first|(with_reducible first|exact bL _|exact bM|exact bN|refine bO ?_ ?_|refine bP ?_ ?_|exact ay _|exact bJ _|exact ao _|rfl|exact aR _ _|refine aA ?_|exact bK _|refine aU ?_)|refine bQ rfl ?_ ?_|exact aS hN _ rfl rfl rfl|exact aT hN _ rfl rfl rfl|exact aB hN _ rfl rfl rfl (Or.inr rfl)|(refine aP hN _ rfl rfl (by first|exact Or.inr rfl|exact Or.inl rfl) ?_;first|exact aN _|exact aO _)|refine aC hN rfl ?_|refine aD hN rfl rfl ?_|exact az hN _ rfl rfl|exact aE hN rfl rfl rfl rfl|(with_reducible first|refine aQ ?_|refine bC ?_|refine bE ?_|refine bF ?_|refine bD ?_|refine bB ?_)));(try (any_goals (first|(with_reducible rfl)|(refine ah ?_;omega)))))
 · rfl
 intro k hk
 have htl:=cR k fun _=>(-1 : Int)
 (repeat' (first|(with_reducible first|(refine hK _ _ ?_;clear hK K)|(refine aa _ ?_;clear aa K)|refine bh ?_|refine b7 ?_|refine a9 ?_|refine aq ?_|refine ap ?_|refine b8 ?_|refine aI ?_|refine ba ?_|refine b9 ?_|refine bc ?_|refine bd rfl ?_|refine bi ?_|refine be ?_|refine ca ?_|refine bf ?_|refine aH ?_|refine n_k ?_|refine bg ?_|(refine ae ?_;clear ae X af Y)|(refine af ?_;clear ae X af Y))|(with_reducible refine bo ?_;first|refine bm rfl ?_|refine bn rfl ?_)|(with_reducible refine aW ?_;first|refine au rfl rfl rfl rfl ?_|refine aK rfl rfl rfl ?_|refine bt rfl rfl rfl rfl ?_)|((first|(with_reducible first|refine bp rfl rfl fun K hK=>?_|refine br rfl rfl fun K aa=>?_|refine aJ fun X Y ae af=>?_|refine aL ?_));simp (disch:=first|decide|omega|(simp only [List.length_cons,List.length_nil];omega)) only [go_sem,beq_self_eq_true,↓aj,↓ak hN,am hN,reduceIte,reduceCtorEq,Nat.reduceAdd,Nat.reduceLT,Nat.reduceLeDiff,Nat.reduceEqDiff,Nat.reduceSub])|(with_reducible refine And.intro (fun h=>?_) (fun h=>?_) <;> try (exfalso;omega))|(with_reducible refine bj aM hN rfl ?_ ?_;kernel_rfl)|(with_reducible refine And.intro ?_ ?_)|(refine ah ?_;omega)|(exact bu hN (by decide))))
 · (refine ⟨k + 1,⟨?_,?_⟩,bU hX hN [(0,2)] ?_ ?_⟩;(try any_goals dsimp only);(repeat' (first|(with_reducible first|exact bL _|exact bM|exact bN|refine bO ?_ ?_|refine bP ?_ ?_|exact ay _|exact bJ _|exact ao _|rfl|exact aR _ _|refine aA ?_|exact bK _|refine aU ?_)|refine bQ rfl ?_ ?_|exact aS hN _ rfl rfl rfl|exact aT hN _ rfl rfl rfl|exact aB hN _ rfl rfl rfl (Or.inr rfl)|(refine aP hN _ rfl rfl (by first|exact Or.inr rfl|exact Or.inl rfl) ?_;first|exact aN _|exact aO _)|refine aC hN rfl ?_|refine aD hN rfl rfl ?_|exact az hN _ rfl rfl|exact aE hN rfl rfl rfl rfl|(with_reducible first|refine aQ ?_|refine bC ?_|refine bE ?_|refine bF ?_|refine bD ?_|refine bB ?_)));(try (any_goals (first|(with_reducible rfl)|(refine ah ?_;omega)))))
   exact gG _ _
 · (refine dk hN (i:=0) (.inr rfl) (by first|rfl|(simp (disch:=first|decide|omega|(simp only [List.length_cons,List.length_nil];omega)) only [ci,cj,cm,co,go_sem,beq_self_eq_true,↓aj,↓ak hN,am hN,reduceIte,reduceCtorEq,Nat.reduceAdd,Nat.reduceLT,Nat.reduceLeDiff,Nat.reduceEqDiff,Nat.reduceSub];rfl)) rfl ?_ rfl)
   rw [show k = n by omega];rfl
theorem sI {g : Pa} (hg : PaOk g) {v : Nat} (hv : v < g.prio.length) {u : Int} (hu : u ∈ gr g.ar.nxt v) : d8 g ((noP g.prio.length).set v u):=by
 have hn : (noP g.prio.length).length = g.prio.length:=cR _ _
 refine ⟨by rw [List.length_set];exact hn,fun x hx=>?_⟩
 rw [List.length_set,hn] at hx
 rw [cU (by omega)]
 split
 · rename_i e;subst e;exact .inr hu
 · exact .inl (by rw [noP,df _ hx])
theorem oJ {g : Pa} (hg : PaOk g) {v : Nat} (hv : v < g.prio.length) {Q : List Int} (h : jH g Q) : AOk g (bH g) (cV g (bH g) Q g.prio.length) ∧ (cV g (bH g) Q g.prio.length).length = g.prio.length ∧ (0 ≤ gi Q v → gi (cV g (bH g) Q g.prio.length) v = gi Q v) :=
 ⟨so h,(eV hg (fY h) _ (Nat.le_refl _)).pk.1,oI h⟩
set_option maxHeartbeats 4000000 in
theorem qE (bs : List Int) (hb : ∀ j,j < bs.length → 0 ≤ gi bs j ∧ gi bs j ≤ 255) (hlb : bs.length ≤ 9223372036854775807) : aG Try.prog 6 [.c (.Y bs)] [] (fun _=>.c (.bool true)):=by
 have hbig:=ws bs hlb
 by_cases hl : bs.length ≤ 4096
 · rw [show decide ((bs.length : Int) > 4096) = false by rw [decide_eq_false_iff_not];omega] at hbig
   have hroll:=u6 bs hl hb 903
   generalize t6 bs hl hb 903 = d at hroll
   have hgame:=sg d 7 (by omega)
   obtain ⟨hg,hlen,_⟩:=se (d:=d) (most:=7) (pm:=6) (by omega) (by omega)
   generalize hG : gV d 7 6 = G at *
   obtain ⟨g,d1⟩:=G
   simp only at hgame hg hlen
   have hln:=hg.len
   have hle:=hg.ar.le
   have hpos:=hg.ar.pos
   have hWl:=dN g
   have hPl : (cV g (bH g) (noP g.prio.length) g.prio.length).length = g.prio.length:=sE hg
   have h3:=qv g hg
   have hn9:=sH g.prio.length (by omega)
   have hbl:=fE d1 ((g.prio.length : Int) + 1) (by omega)
   have hk1:=d1.bnd (n:=(g.prio.length : Int) + 1) (by omega)
   obtain ⟨k,hk⟩ : ∃ k : Nat,d1.val ((g.prio.length : Int) + 1) = k:=⟨(d1.val ((g.prio.length : Int) + 1)).toNat,by omega⟩
   rw [hk] at hbl hk1
   have hkn : k ≤ g.prio.length:=by omega
   generalize d1.nxt = d2 at *
   have hpf:=gY g (jI g k) (sG hg hkn)
   rw [oH hg hkn] at hpf
   have hbl2:=fE d2 (g.prio.length : Int) (by omega)
   have hv1:=d2.bnd (n:=(g.prio.length : Int)) (by omega)
   obtain ⟨v,hv⟩ : ∃ v : Nat,d2.val (g.prio.length : Int) = v:=⟨(d2.val (g.prio.length : Int)).toNat,by omega⟩
   rw [hv] at hbl2 hv1
   have hvn : v < g.prio.length:=by omega
   generalize d2.nxt = d3 at *
   have hsu:=qD g hg v hvn
   have hsp:=qC hg hvn
   have hsl : (f8 g v).length ≤ (gr g.ar.nxt v).length:=jY _ _ _
   have hsm:=fun u=>nB (g:=g) (v:=v) (u:=u)
   have hnl : (noP g.prio.length).length = g.prio.length:=cR _ _
   have hbl3:=fE d3 ((f8 g v).length : Int) (by have:=(hg.ar.vert v (by omega)).2.2.2.1;omega)
   have hs1:=d3.bnd (n:=((f8 g v).length : Int)) (by omega)
   have hpre : jI g k = tab g.prio.length fun v=>if v < k then gi (cV g (bH g) (noP g.prio.length) g.prio.length) v else -1:=rfl
   have hprl:=sD g k
   have lk1:=kx (cV g (bH g) (noP g.prio.length) g.prio.length) (cV g (bH g) (noP g.prio.length) g.prio.length) (by omega)
   have lk2:=kx (bH g) (bH g) (by omega)
   rw [bZ rfl] at lk1 lk2
   have hrowv:=(hg.ar.vert v (by omega)).2.2.2.1
   have htail:=fun Q=>oJ (g:=g) (v:=v) (Q:=Q) hg hvn
   unfold sr at hpf
   generalize cV g (bH g) (noP g.prio.length) g.prio.length = P at *
   (refine bT aM Try.func6 rfl rfl (by kernel_rfl) fun hp0 ν hX hN=>?_;simp only [cL,Nat.reduceAdd])
   (repeat' (first|(with_reducible first|(refine hK _ _ ?_;clear hK K)|(refine aa _ ?_;clear aa K)|(refine ab _ _ _ ?_;clear ab K)|(refine ac _ _ ?_;clear ac K)|refine bh ?_|refine b7 ?_|refine a9 ?_|refine aq ?_|refine ap ?_|refine b8 ?_|refine aI ?_|refine ba ?_|refine b9 ?_|refine bc ?_|refine bd rfl ?_|refine bi ?_|refine be ?_|refine ca ?_|refine bf ?_|refine aH ?_|refine n_k ?_|refine bg ?_|(refine ae ?_;clear ae X af Y)|(refine af ?_;clear ae X af Y))|(with_reducible refine bo ?_;first|refine bm rfl ?_|refine bn rfl ?_)|(with_reducible refine aW ?_;first|refine au rfl rfl rfl rfl ?_|refine aK rfl rfl rfl ?_|refine bt rfl rfl rfl rfl ?_)|(with_reducible refine cr ?_;first|refine bR rfl rfl rfl rfl ?_|refine cf rfl rfl rfl ?_|refine cA rfl rfl rfl rfl ?_|refine cB hN (by apply Exists.intro;apply And.intro;(repeat' (first|apply FtI.nil|apply FI.nil|apply FI.cons|apply FtI.cons));kernel_rfl) ?_)|((first|(with_reducible first|refine bp rfl rfl fun K hK=>?_|refine cy rfl rfl fun K ab=>?_|refine br rfl rfl fun K aa=>?_|refine cz rfl rfl fun K ac=>?_|refine aJ fun X Y ae af=>?_|refine aL ?_)|(with_reducible refine aW ?_;refine bv rfl rfl fun X Y ae af=>?_)|(with_reducible refine cr ?_;refine cC rfl rfl fun X Y ae af=>?_));simp (disch:=first|decide|omega|(simp only [List.length_cons,List.length_nil];omega)) only [go_sem,beq_self_eq_true,↓aj,↓ak hN,am hN,reduceIte,reduceCtorEq,Nat.reduceAdd,Nat.reduceLT,Nat.reduceLeDiff,Nat.reduceEqDiff,Nat.reduceSub])|(with_reducible refine And.intro (fun h=>?_) (fun h=>?_) <;> try (exfalso;omega))|(with_reducible refine bj aM hN rfl ?_ ?_;kernel_rfl)|(with_reducible refine bS aM hN rfl ?_ ?_ ?_ ?_;(kernel_rfl);(kernel_rfl);(kernel_rfl))|(refine aV hbig ?_ rfl (fun _=>rfl) ?_)|(refine ru (hroll) rfl (fun ν'=>?_) ?_ ?_;(focus ((repeat' (first|exact ArgMs.nil|refine ArgMs.cons ?_ ?_|exact jh _|exact iO (by first|exact a8 _|exact aY _|exact aZ rfl rfl rfl) rfl|refine eN ?_));done));(focus (first|exact Or.inl (by simp [bG,AV.names]))))|(refine dQ (hgame) hN 0 rfl rfl rfl rfl rfl ?_ ?_ ?_ ?_;(focus (simp [bG,AV.names];done));(focus (intro ν' hν;(repeat' (first|exact ArgMs.nil|refine ArgMs.cons ?_ ?_|exact gy hν|exact gz hν|exact jh _|exact iO (by first|exact a8 _|exact aY _|exact aZ rfl rfl rfl) rfl|(refine gA hN rfl ?_ (by decide);first|exact aN _|exact aO _)|refine eN ?_));done));(focus (first|exact Or.inr ⟨rfl,rfl,fun _=>rfl⟩|exact Or.inl (by simp [bG,AV.names]))))|((first|refine aV (h3) ?_ rfl (fun _=>rfl) ?_|refine aV (hn9) ?_ rfl (fun _=>rfl) ?_);focus ((repeat' (first|(with_reducible first|exact aF|refine ax ?_ ?_|exact cu _|refine bw ?_|exact a8 _|exact bY _ _|refine bX ?_|exact aY _)|exact bz hN rfl rfl|(refine bW hN rfl ?_;first|exact aN _|exact aO _)|exact aZ rfl rfl rfl));done))|(with_reducible first|exact aF|refine ax ?_ ?_|exact cu _|refine bw ?_|exact a8 _|exact bY _ _|refine bX ?_|exact aY _)|exact bz hN rfl rfl|(refine bW hN rfl ?_;first|exact aN _|exact aO _)|exact aZ rfl rfl rfl|(simp only [bI,List.map_nil])|(with_reducible refine cc ?_)|(simp (disch:=first|decide|omega|(simp only [List.length_cons,List.length_nil];omega)) only [bI,List.map_cons,List.map_nil,am hN,List.set_cons_zero,List.set_cons_succ])|(with_reducible refine And.intro ?_ ?_)|(refine ah ?_;omega)|(exact bu hN (by decide))))
   rw [hnl]
   (repeat' (first|(with_reducible first|(refine hK _ _ ?_;clear hK K)|(refine aa _ ?_;clear aa K)|(refine ab _ _ _ ?_;clear ab K)|(refine ac _ _ ?_;clear ac K)|refine bh ?_|refine b7 ?_|refine a9 ?_|refine aq ?_|refine ap ?_|refine b8 ?_|refine aI ?_|refine ba ?_|refine b9 ?_|refine bc ?_|refine bd rfl ?_|refine bi ?_|refine be ?_|refine ca ?_|refine bf ?_|refine aH ?_|refine n_k ?_|refine bg ?_|(refine ae ?_;clear ae X af Y)|(refine af ?_;clear ae X af Y))|(with_reducible refine bo ?_;first|refine bm rfl ?_|refine bn rfl ?_)|(with_reducible refine aW ?_;first|refine au rfl rfl rfl rfl ?_|refine aK rfl rfl rfl ?_|refine bt rfl rfl rfl rfl ?_)|(with_reducible refine cr ?_;first|refine bR rfl rfl rfl rfl ?_|refine cf rfl rfl rfl ?_|refine cA rfl rfl rfl rfl ?_|refine cB hN (by apply Exists.intro;apply And.intro;(repeat' (first|apply FtI.nil|apply FI.nil|apply FI.cons|apply FtI.cons));kernel_rfl) ?_)|((first|(with_reducible first|refine bp rfl rfl fun K hK=>?_|refine cy rfl rfl fun K ab=>?_|refine br rfl rfl fun K aa=>?_|refine cz rfl rfl fun K ac=>?_|refine aJ fun X Y ae af=>?_|refine aL ?_)|(with_reducible refine aW ?_;refine bv rfl rfl fun X Y ae af=>?_)|(with_reducible refine cr ?_;refine cC rfl rfl fun X Y ae af=>?_));simp (disch:=first|decide|omega|(simp only [List.length_cons,List.length_nil];omega)) only [go_sem,beq_self_eq_true,↓aj,↓ak hN,am hN,reduceIte,reduceCtorEq,Nat.reduceAdd,Nat.reduceLT,Nat.reduceLeDiff,Nat.reduceEqDiff,Nat.reduceSub])|(with_reducible refine And.intro (fun h=>?_) (fun h=>?_) <;> try (exfalso;omega))|(with_reducible refine bj aM hN rfl ?_ ?_;kernel_rfl)|(with_reducible refine bS aM hN rfl ?_ ?_ ?_ ?_;(kernel_rfl);(kernel_rfl);(kernel_rfl))|(refine dQ (hbl) hN 0 rfl rfl rfl rfl rfl ?_ ?_ ?_ ?_;(focus (simp [bG,AV.names];done));(focus (intro ν' hν;(repeat' (first|exact ArgMs.nil|refine ArgMs.cons ?_ ?_|exact gy hν|exact gz hν|exact jh _|exact iO (by first|exact a8 _|exact aY _|exact aZ rfl rfl rfl) rfl|(refine gA hN rfl ?_ (by decide);first|exact aN _|exact aO _)|refine eN ?_));done));(focus (first|exact Or.inr ⟨rfl,rfl,fun _=>rfl⟩|exact Or.inl (by simp [bG,AV.names]))))|(with_reducible first|exact aF|refine ax ?_ ?_|exact cu _|refine bw ?_|exact a8 _|exact bY _ _|refine bX ?_|exact aY _)|exact bz hN rfl rfl|(refine bW hN rfl ?_;first|exact aN _|exact aO _)|exact aZ rfl rfl rfl|(simp only [bI,List.map_nil])|(with_reducible refine cc ?_)|(simp (disch:=first|decide|omega|(simp only [List.length_cons,List.length_nil];omega)) only [bI,List.map_cons,List.map_nil,am hN,List.set_cons_zero,List.set_cons_succ])|(with_reducible refine And.intro ?_ ?_)|(refine ah ?_;omega)|(exact bu hN (by decide))))
   (refine ck (fun (j : Nat)=>(tmL [(8,.c (.int .i64 j)),(7,.c (.int .i64 k)),(6,.sl (ν 5)),(5,.ad (ν 4) 0),(4,.ad (ν 1) 0),(3,.ad (ν 0) 0)],hpL hp0 ν [diE d2,.box [.c (.I g.ar.own),.c (.R g.ar.nxt),.c (.I g.prio)],.arr 2 .yes (.I (bH g)),.arr 2 .yes (.I P),.box [.sl (ν 2),.sl (ν 3)],.arr 2 .yes (.I (tab g.prio.length fun v=>if v < j then gi P v else -1))])) (fun (j : Nat)=>j ≤ k) (fun (j : Nat)=>k - j) ⟨0,?_,bU hX hN [] ?_ ?_⟩ ?_;(repeat' (first|(with_reducible first|exact bL _|exact bM|exact bN|refine bO ?_ ?_|refine bP ?_ ?_|exact ay _|exact bJ _|exact ao _|rfl|exact aR _ _|refine aA ?_|exact bK _|refine aU ?_)|refine bQ rfl ?_ ?_|exact aS hN _ rfl rfl rfl|exact aT hN _ rfl rfl rfl|exact aB hN _ rfl rfl rfl (Or.inr rfl)|(refine aP hN _ rfl rfl (by first|exact Or.inr rfl|exact Or.inl rfl) ?_;first|exact aN _|exact aO _)|refine aC hN rfl ?_|refine aD hN rfl rfl ?_|exact az hN _ rfl rfl|exact aE hN rfl rfl rfl rfl|(with_reducible first|refine aQ ?_|refine bC ?_|refine bE ?_|refine bF ?_|refine bD ?_|refine bB ?_)));(try (any_goals (first|(with_reducible rfl)|(refine ah ?_;omega)))))
   · exact dl fun v _=>by rw [if_neg (Nat.not_lt_zero v)]
   intro j hj
   have htj:=cR g.prio.length fun v=>if v < j then gi P v else (-1 : Int)
   by_cases hjk : j < k
   · (repeat' (first|(with_reducible first|(refine hK _ _ ?_;clear hK K)|(refine aa _ ?_;clear aa K)|(refine ab _ _ _ ?_;clear ab K)|(refine ac _ _ ?_;clear ac K)|refine bh ?_|refine b7 ?_|refine a9 ?_|refine aq ?_|refine ap ?_|refine b8 ?_|refine aI ?_|refine ba ?_|refine b9 ?_|refine bc ?_|refine bd rfl ?_|refine bi ?_|refine be ?_|refine ca ?_|refine bf ?_|refine aH ?_|refine n_k ?_|refine bg ?_|(refine ae ?_;clear ae X af Y)|(refine af ?_;clear ae X af Y))|(with_reducible refine bo ?_;first|refine bm rfl ?_|refine bn rfl ?_)|(with_reducible refine aW ?_;first|refine au rfl rfl rfl rfl ?_|refine aK rfl rfl rfl ?_|refine bt rfl rfl rfl rfl ?_)|(with_reducible refine cr ?_;first|refine bR rfl rfl rfl rfl ?_|refine cf rfl rfl rfl ?_|refine cA rfl rfl rfl rfl ?_|refine cB hN (by apply Exists.intro;apply And.intro;(repeat' (first|apply FtI.nil|apply FI.nil|apply FI.cons|apply FtI.cons));kernel_rfl) ?_)|((first|(with_reducible first|refine bp rfl rfl fun K hK=>?_|refine cy rfl rfl fun K ab=>?_|refine br rfl rfl fun K aa=>?_|refine cz rfl rfl fun K ac=>?_|refine aJ fun X Y ae af=>?_|refine aL ?_)|(with_reducible refine aW ?_;refine bv rfl rfl fun X Y ae af=>?_)|(with_reducible refine cr ?_;refine cC rfl rfl fun X Y ae af=>?_));simp (disch:=first|decide|omega|(simp only [List.length_cons,List.length_nil];omega)) only [go_sem,beq_self_eq_true,↓aj,↓ak hN,am hN,reduceIte,reduceCtorEq,Nat.reduceAdd,Nat.reduceLT,Nat.reduceLeDiff,Nat.reduceEqDiff,Nat.reduceSub])|(with_reducible refine And.intro (fun h=>?_) (fun h=>?_) <;> try (exfalso;omega))|(with_reducible refine bj aM hN rfl ?_ ?_;kernel_rfl)|(with_reducible refine bS aM hN rfl ?_ ?_ ?_ ?_;(kernel_rfl);(kernel_rfl);(kernel_rfl))|(with_reducible refine And.intro ?_ ?_)|(refine ah ?_;omega)|(exact bu hN (by decide))))
     (refine ⟨j + 1,⟨?_,?_⟩,bU hX hN [] ?_ ?_⟩;(try any_goals dsimp only);(repeat' (first|(with_reducible first|exact bL _|exact bM|exact bN|refine bO ?_ ?_|refine bP ?_ ?_|exact ay _|exact bJ _|exact ao _|rfl|exact aR _ _|refine aA ?_|exact bK _|refine aU ?_)|refine bQ rfl ?_ ?_|exact aS hN _ rfl rfl rfl|exact aT hN _ rfl rfl rfl|exact aB hN _ rfl rfl rfl (Or.inr rfl)|(refine aP hN _ rfl rfl (by first|exact Or.inr rfl|exact Or.inl rfl) ?_;first|exact aN _|exact aO _)|refine aC hN rfl ?_|refine aD hN rfl rfl ?_|exact az hN _ rfl rfl|exact aE hN rfl rfl rfl rfl|(with_reducible first|refine aQ ?_|refine bC ?_|refine bE ?_|refine bF ?_|refine bD ?_|refine bB ?_)));(try (any_goals (first|(with_reducible rfl)|(refine ah ?_;omega)))))
     exact oZ (by omega) rfl
   obtain rfl : j = k:=by omega
   rw [← hpre]
   (repeat' (first|(with_reducible first|(refine hK _ _ ?_;clear hK K)|(refine aa _ ?_;clear aa K)|(refine ab _ _ _ ?_;clear ab K)|(refine ac _ _ ?_;clear ac K)|refine bh ?_|refine b7 ?_|refine a9 ?_|refine aq ?_|refine ap ?_|refine b8 ?_|refine aI ?_|refine ba ?_|refine b9 ?_|refine bc ?_|refine bd rfl ?_|refine bi ?_|refine be ?_|refine ca ?_|refine bf ?_|refine aH ?_|refine n_k ?_|refine bg ?_|(refine ae ?_;clear ae X af Y)|(refine af ?_;clear ae X af Y))|(with_reducible refine bo ?_;first|refine bm rfl ?_|refine bn rfl ?_)|(with_reducible refine aW ?_;first|refine au rfl rfl rfl rfl ?_|refine aK rfl rfl rfl ?_|refine bt rfl rfl rfl rfl ?_)|(with_reducible refine cr ?_;first|refine bR rfl rfl rfl rfl ?_|refine cf rfl rfl rfl ?_|refine cA rfl rfl rfl rfl ?_|refine cB hN (by apply Exists.intro;apply And.intro;(repeat' (first|apply FtI.nil|apply FI.nil|apply FI.cons|apply FtI.cons));kernel_rfl) ?_)|((first|(with_reducible first|refine bp rfl rfl fun K hK=>?_|refine cy rfl rfl fun K ab=>?_|refine br rfl rfl fun K aa=>?_|refine cz rfl rfl fun K ac=>?_|refine aJ fun X Y ae af=>?_|refine aL ?_)|(with_reducible refine aW ?_;refine bv rfl rfl fun X Y ae af=>?_)|(with_reducible refine cr ?_;refine cC rfl rfl fun X Y ae af=>?_));simp (disch:=first|decide|omega|(simp only [List.length_cons,List.length_nil];omega)) only [go_sem,beq_self_eq_true,↓aj,↓ak hN,am hN,reduceIte,reduceCtorEq,Nat.reduceAdd,Nat.reduceLT,Nat.reduceLeDiff,Nat.reduceEqDiff,Nat.reduceSub])|(with_reducible refine And.intro (fun h=>?_) (fun h=>?_) <;> try (exfalso;omega))|(with_reducible refine bj aM hN rfl ?_ ?_;kernel_rfl)|(with_reducible refine bS aM hN rfl ?_ ?_ ?_ ?_;(kernel_rfl);(kernel_rfl);(kernel_rfl))|((first|refine aV (hpf) ?_ rfl (fun _=>rfl) ?_|refine aV (lk1) ?_ rfl (fun _=>rfl) ?_);focus ((repeat' (first|(with_reducible first|exact aF|refine ax ?_ ?_|exact cu _|refine bw ?_|exact a8 _|exact bY _ _|refine bX ?_|exact aY _)|exact bz hN rfl rfl|(refine bW hN rfl ?_;first|exact aN _|exact aO _)|exact aZ rfl rfl rfl));done))|(refine aV (lk2) ?_ rfl (fun _=>rfl) ?_;focus ((repeat' (first|(with_reducible first|exact aF|refine ax ?_ ?_|exact cu _|refine bw ?_|exact a8 _|exact bY _ _|refine bX ?_|exact aY _)|exact bz hN rfl rfl|(refine bW hN rfl ?_;first|exact aN _|exact aO _)|exact aZ rfl rfl rfl));done))|(with_reducible first|exact aF|refine ax ?_ ?_|exact cu _|refine bw ?_|exact a8 _|exact bY _ _|refine bX ?_|exact aY _)|exact bz hN rfl rfl|(refine bW hN rfl ?_;first|exact aN _|exact aO _)|exact aZ rfl rfl rfl|(simp only [bI,List.map_nil])|(with_reducible refine cc ?_)|(with_reducible refine And.intro ?_ ?_)|(refine ah ?_;omega)|(exact bu hN (by decide))))
   rw [hprl]
   by_cases hown : gi (bH g) v = gi g.ar.own v
   · (repeat' (first|(with_reducible first|(refine hK _ _ ?_;clear hK K)|(refine aa _ ?_;clear aa K)|(refine ab _ _ _ ?_;clear ab K)|(refine ac _ _ ?_;clear ac K)|refine bh ?_|refine b7 ?_|refine a9 ?_|refine aq ?_|refine ap ?_|refine b8 ?_|refine aI ?_|refine ba ?_|refine b9 ?_|refine bc ?_|refine bd rfl ?_|refine bi ?_|refine be ?_|refine ca ?_|refine bf ?_|refine aH ?_|refine n_k ?_|refine bg ?_|(refine ae ?_;clear ae X af Y)|(refine af ?_;clear ae X af Y))|(with_reducible refine bo ?_;first|refine bm rfl ?_|refine bn rfl ?_)|(with_reducible refine aW ?_;first|refine au rfl rfl rfl rfl ?_|refine aK rfl rfl rfl ?_|refine bt rfl rfl rfl rfl ?_)|(with_reducible refine cr ?_;first|refine bR rfl rfl rfl rfl ?_|refine cf rfl rfl rfl ?_|refine cA rfl rfl rfl rfl ?_|refine cB hN (by apply Exists.intro;apply And.intro;(repeat' (first|apply FtI.nil|apply FI.nil|apply FI.cons|apply FtI.cons));kernel_rfl) ?_)|((first|(with_reducible first|refine bp rfl rfl fun K hK=>?_|refine cy rfl rfl fun K ab=>?_|refine br rfl rfl fun K aa=>?_|refine cz rfl rfl fun K ac=>?_|refine aJ fun X Y ae af=>?_|refine aL ?_)|(with_reducible refine aW ?_;refine bv rfl rfl fun X Y ae af=>?_)|(with_reducible refine cr ?_;refine cC rfl rfl fun X Y ae af=>?_));simp (disch:=first|decide|omega|(simp only [List.length_cons,List.length_nil];omega)) only [go_sem,beq_self_eq_true,↓aj,↓ak hN,am hN,reduceIte,reduceCtorEq,Nat.reduceAdd,Nat.reduceLT,Nat.reduceLeDiff,Nat.reduceEqDiff,Nat.reduceSub])|(with_reducible refine And.intro (fun h=>?_) (fun h=>?_) <;> try (exfalso;omega))|(with_reducible refine bj aM hN rfl ?_ ?_;kernel_rfl)|(with_reducible refine bS aM hN rfl ?_ ?_ ?_ ?_;(kernel_rfl);(kernel_rfl);(kernel_rfl))|(refine dQ (hbl2) hN 0 rfl rfl rfl rfl rfl ?_ ?_ ?_ ?_;(focus (simp [bG,AV.names];done));(focus (intro ν' hν;(repeat' (first|exact ArgMs.nil|refine ArgMs.cons ?_ ?_|exact gy hν|exact gz hν|exact jh _|exact iO (by first|exact a8 _|exact aY _|exact aZ rfl rfl rfl) rfl|(refine gA hN rfl ?_ (by decide);first|exact aN _|exact aO _)|refine eN ?_));done));(focus (first|exact Or.inr ⟨rfl,rfl,fun _=>rfl⟩|exact Or.inl (by simp [bG,AV.names]))))|((first|refine aV (hsu) ?_ rfl (fun _=>rfl) ?_|refine aV (hn9) ?_ rfl (fun _=>rfl) ?_);focus ((repeat' (first|(with_reducible first|exact aF|refine ax ?_ ?_|exact cu _|refine bw ?_|exact a8 _|exact bY _ _|refine bX ?_|exact aY _)|exact bz hN rfl rfl|(refine bW hN rfl ?_;first|exact aN _|exact aO _)|exact aZ rfl rfl rfl));done))|(refine dQ (hbl3) hN 0 rfl rfl rfl rfl rfl ?_ ?_ ?_ ?_;(focus (simp [bG,AV.names];done));(focus (intro ν' hν;(repeat' (first|exact ArgMs.nil|refine ArgMs.cons ?_ ?_|exact gy hν|exact gz hν|exact jh _|exact iO (by first|exact a8 _|exact aY _|exact aZ rfl rfl rfl) rfl|(refine gA hN rfl ?_ (by decide);first|exact aN _|exact aO _)|refine eN ?_));done));(focus (first|exact Or.inr ⟨rfl,rfl,fun _=>rfl⟩|exact Or.inl (by simp [bG,AV.names]))))|(with_reducible first|exact aF|refine ax ?_ ?_|exact cu _|refine bw ?_|exact a8 _|exact bY _ _|refine bX ?_|exact aY _)|exact bz hN rfl rfl|(refine bW hN rfl ?_;first|exact aN _|exact aO _)|exact aZ rfl rfl rfl|(simp only [bI,List.map_nil])|(with_reducible refine cc ?_)|(simp (disch:=first|decide|omega|(simp only [List.length_cons,List.length_nil];omega)) only [bI,List.map_cons,List.map_nil,am hN,List.set_cons_zero,List.set_cons_succ])|(with_reducible refine And.intro ?_ ?_)|(refine ah ?_;omega)|(exact bu hN (by decide))))
     all_goals first|(exact absurd hown (gu (by assumption)))|skip
     have hum : gi (f8 g v) (d3.val ((f8 g v).length : Int)).toNat ∈ f8 g v:=dr (by omega)
     obtain ⟨hu1,hu2⟩:=(hsm _).1 hum
     generalize hue : gi (f8 g v) (d3.val ((f8 g v).length : Int)).toNat = u at *
     have hu0:=oA hg hvn hu1
     have hQp:=sI hg hvn hu1
     have hQv : ∀ x,gi ((noP g.prio.length).set v u) x = if x = v then u else gi (noP g.prio.length) x:=fun x=>cU (by omega)
     have hQl : ((noP g.prio.length).set v u).length = g.prio.length:=by rw [List.length_set];exact hnl
     have hQo : ∀ x,x < ((noP g.prio.length).set v u).length → 0 ≤ gi ((noP g.prio.length).set v u) x → gi g.ar.own x = gi (bH g) x:=fun x hx h0=>by
      rw [hQv] at h0
      split at h0
      · rename_i e;rw [e];exact hown.symm
      · rw [noP,df _ (by omega)] at h0;omega
     have hQvv:=hQv v
     rw [if_pos rfl] at hQvv
     by_cases hkp : rW g ((noP g.prio.length).set v u)
     · have hfit : jH g ((noP g.prio.length).set v u):=⟨hkp,hQo⟩
       obtain ⟨a1,a2,a3⟩:=htail _ hfit
       have c1:=gY g _ hfit
       have c2:=gU g ((noP g.prio.length).set v u)
       have c3:=jD g (bH g) (cV g (bH g) ((noP g.prio.length).set v u) g.prio.length)
       rw [bZ hkp] at c2
       rw [bZ a1] at c3
       rw [hQvv] at a3
       generalize cV g (bH g) ((noP g.prio.length).set v u) g.prio.length = P2 at *
       generalize (noP g.prio.length).set v u = Q at *
       (repeat' (first|(with_reducible first|(refine hK _ _ ?_;clear hK K)|(refine aa _ ?_;clear aa K)|(refine ab _ _ _ ?_;clear ab K)|(refine ac _ _ ?_;clear ac K)|refine bh ?_|refine b7 ?_|refine a9 ?_|refine aq ?_|refine ap ?_|refine b8 ?_|refine aI ?_|refine ba ?_|refine b9 ?_|refine bc ?_|refine bd rfl ?_|refine bi ?_|refine be ?_|refine ca ?_|refine bf ?_|refine aH ?_|refine n_k ?_|refine bg ?_|(refine ae ?_;clear ae X af Y)|(refine af ?_;clear ae X af Y))|(with_reducible refine bo ?_;first|refine bm rfl ?_|refine bn rfl ?_)|(with_reducible refine aW ?_;first|refine au rfl rfl rfl rfl ?_|refine aK rfl rfl rfl ?_|refine bt rfl rfl rfl rfl ?_)|(with_reducible refine cr ?_;first|refine bR rfl rfl rfl rfl ?_|refine cf rfl rfl rfl ?_|refine cA rfl rfl rfl rfl ?_|refine cB hN (by apply Exists.intro;apply And.intro;(repeat' (first|apply FtI.nil|apply FI.nil|apply FI.cons|apply FtI.cons));kernel_rfl) ?_)|((first|(with_reducible first|refine bp rfl rfl fun K hK=>?_|refine cy rfl rfl fun K ab=>?_|refine br rfl rfl fun K aa=>?_|refine cz rfl rfl fun K ac=>?_|refine aJ fun X Y ae af=>?_|refine aL ?_)|(with_reducible refine aW ?_;refine bv rfl rfl fun X Y ae af=>?_)|(with_reducible refine cr ?_;refine cC rfl rfl fun X Y ae af=>?_));simp (disch:=first|decide|omega|(simp only [List.length_cons,List.length_nil];omega)) only [go_sem,beq_self_eq_true,↓aj,↓ak hN,am hN,reduceIte,reduceCtorEq,Nat.reduceAdd,Nat.reduceLT,Nat.reduceLeDiff,Nat.reduceEqDiff,Nat.reduceSub])|(with_reducible refine And.intro (fun h=>?_) (fun h=>?_) <;> try (exfalso;omega))|(with_reducible refine bj aM hN rfl ?_ ?_;kernel_rfl)|(with_reducible refine bS aM hN rfl ?_ ?_ ?_ ?_;(kernel_rfl);(kernel_rfl);(kernel_rfl))|((first|refine aV (c1) ?_ rfl (fun _=>rfl) ?_|refine aV (c2) ?_ rfl (fun _=>rfl) ?_|refine aV (lk2) ?_ rfl (fun _=>rfl) ?_|refine aV (c3) ?_ rfl (fun _=>rfl) ?_);focus ((repeat' (first|(with_reducible first|exact aF|refine ax ?_ ?_|exact cu _|refine bw ?_|exact a8 _|exact bY _ _|refine bX ?_|exact aY _)|exact bz hN rfl rfl|(refine bW hN rfl ?_;first|exact aN _|exact aO _)|exact aZ rfl rfl rfl));done))|(with_reducible first|exact aF|refine ax ?_ ?_|exact cu _|refine bw ?_|exact a8 _|exact bY _ _|refine bX ?_|exact aY _)|exact bz hN rfl rfl|(refine bW hN rfl ?_;first|exact aN _|exact aO _)|exact aZ rfl rfl rfl|(simp only [bI,List.map_nil])|(with_reducible refine cc ?_)|(with_reducible refine And.intro ?_ ?_)|(refine ah ?_;omega)|(exact bu hN (by decide))))
       all_goals first|(exact absurd ((a3 (by omega)).trans hQvv.symm) (gu (by assumption)))|((refine cN (.inr rfl) (by first|rfl|(simp (disch:=first|decide|omega|(simp only [List.length_cons,List.length_nil];omega)) only [ci,cj,cm,co,go_sem,beq_self_eq_true,↓aj,↓ak hN,am hN,reduceIte,reduceCtorEq,Nat.reduceAdd,Nat.reduceLT,Nat.reduceLeDiff,Nat.reduceEqDiff,Nat.reduceSub];rfl)) ?_);rfl)
     · have c1:=mu g ((noP g.prio.length).set v u) fun h=>hkp h.1
       have c2:=gU g ((noP g.prio.length).set v u)
       rw [aX hkp] at c2
       generalize (noP g.prio.length).set v u = Q at *
       (repeat' (first|(with_reducible first|(refine hK _ _ ?_;clear hK K)|(refine aa _ ?_;clear aa K)|(refine ab _ _ _ ?_;clear ab K)|(refine ac _ _ ?_;clear ac K)|refine bh ?_|refine b7 ?_|refine a9 ?_|refine aq ?_|refine ap ?_|refine b8 ?_|refine aI ?_|refine ba ?_|refine b9 ?_|refine bc ?_|refine bd rfl ?_|refine bi ?_|refine be ?_|refine ca ?_|refine bf ?_|refine aH ?_|refine n_k ?_|refine bg ?_|(refine ae ?_;clear ae X af Y)|(refine af ?_;clear ae X af Y))|(with_reducible refine bo ?_;first|refine bm rfl ?_|refine bn rfl ?_)|(with_reducible refine aW ?_;first|refine au rfl rfl rfl rfl ?_|refine aK rfl rfl rfl ?_|refine bt rfl rfl rfl rfl ?_)|(with_reducible refine cr ?_;first|refine bR rfl rfl rfl rfl ?_|refine cf rfl rfl rfl ?_|refine cA rfl rfl rfl rfl ?_|refine cB hN (by apply Exists.intro;apply And.intro;(repeat' (first|apply FtI.nil|apply FI.nil|apply FI.cons|apply FtI.cons));kernel_rfl) ?_)|((first|(with_reducible first|refine bp rfl rfl fun K hK=>?_|refine cy rfl rfl fun K ab=>?_|refine br rfl rfl fun K aa=>?_|refine cz rfl rfl fun K ac=>?_|refine aJ fun X Y ae af=>?_|refine aL ?_)|(with_reducible refine aW ?_;refine bv rfl rfl fun X Y ae af=>?_)|(with_reducible refine cr ?_;refine cC rfl rfl fun X Y ae af=>?_));simp (disch:=first|decide|omega|(simp only [List.length_cons,List.length_nil];omega)) only [go_sem,beq_self_eq_true,↓aj,↓ak hN,am hN,reduceIte,reduceCtorEq,Nat.reduceAdd,Nat.reduceLT,Nat.reduceLeDiff,Nat.reduceEqDiff,Nat.reduceSub])|(with_reducible refine And.intro (fun h=>?_) (fun h=>?_) <;> try (exfalso;omega))|(with_reducible refine bj aM hN rfl ?_ ?_;kernel_rfl)|(with_reducible refine bS aM hN rfl ?_ ?_ ?_ ?_;(kernel_rfl);(kernel_rfl);(kernel_rfl))|((first|refine aV (c1) ?_ rfl (fun _=>rfl) ?_|refine aV (c2) ?_ rfl (fun _=>rfl) ?_);focus ((repeat' (first|(with_reducible first|exact aF|refine ax ?_ ?_|exact cu _|refine bw ?_|exact a8 _|exact bY _ _|refine bX ?_|exact aY _)|exact bz hN rfl rfl|(refine bW hN rfl ?_;first|exact aN _|exact aO _)|exact aZ rfl rfl rfl));done))|(with_reducible first|exact aF|refine ax ?_ ?_|exact cu _|refine bw ?_|exact a8 _|exact bY _ _|refine bX ?_|exact aY _)|exact bz hN rfl rfl|(refine bW hN rfl ?_;first|exact aN _|exact aO _)|exact aZ rfl rfl rfl|(simp only [bI,List.map_nil])|(with_reducible refine cc ?_)|(with_reducible refine And.intro ?_ ?_)|(refine ah ?_;omega)|(exact bu hN (by decide))))
       (refine cN (.inr rfl) (by first|rfl|(simp (disch:=first|decide|omega|(simp only [List.length_cons,List.length_nil];omega)) only [ci,cj,cm,co,go_sem,beq_self_eq_true,↓aj,↓ak hN,am hN,reduceIte,reduceCtorEq,Nat.reduceAdd,Nat.reduceLT,Nat.reduceLeDiff,Nat.reduceEqDiff,Nat.reduceSub];rfl)) ?_)
       rfl
   · have hfit : jH g (noP g.prio.length):=i4 hg
     obtain ⟨a1,a2,_⟩:=htail _ hfit
     have c1:=gY g _ hfit
     have c2:=gU g (noP g.prio.length)
     have c3:=jD g (bH g) (cV g (bH g) (noP g.prio.length) g.prio.length)
     rw [bZ hfit.1] at c2
     rw [bZ a1] at c3
     have hnv : gi (noP g.prio.length) v = -1:=df _ hvn
     generalize cV g (bH g) (noP g.prio.length) g.prio.length = P2 at *
     (repeat' (first|(with_reducible first|(refine hK _ _ ?_;clear hK K)|(refine aa _ ?_;clear aa K)|(refine ab _ _ _ ?_;clear ab K)|(refine ac _ _ ?_;clear ac K)|refine bh ?_|refine b7 ?_|refine a9 ?_|refine aq ?_|refine ap ?_|refine b8 ?_|refine aI ?_|refine ba ?_|refine b9 ?_|refine bc ?_|refine bd rfl ?_|refine bi ?_|refine be ?_|refine ca ?_|refine bf ?_|refine aH ?_|refine n_k ?_|refine bg ?_|(refine ae ?_;clear ae X af Y)|(refine af ?_;clear ae X af Y))|(with_reducible refine bo ?_;first|refine bm rfl ?_|refine bn rfl ?_)|(with_reducible refine aW ?_;first|refine au rfl rfl rfl rfl ?_|refine aK rfl rfl rfl ?_|refine bt rfl rfl rfl rfl ?_)|(with_reducible refine cr ?_;first|refine bR rfl rfl rfl rfl ?_|refine cf rfl rfl rfl ?_|refine cA rfl rfl rfl rfl ?_|refine cB hN (by apply Exists.intro;apply And.intro;(repeat' (first|apply FtI.nil|apply FI.nil|apply FI.cons|apply FtI.cons));kernel_rfl) ?_)|((first|(with_reducible first|refine bp rfl rfl fun K hK=>?_|refine cy rfl rfl fun K ab=>?_|refine br rfl rfl fun K aa=>?_|refine cz rfl rfl fun K ac=>?_|refine aJ fun X Y ae af=>?_|refine aL ?_)|(with_reducible refine aW ?_;refine bv rfl rfl fun X Y ae af=>?_)|(with_reducible refine cr ?_;refine cC rfl rfl fun X Y ae af=>?_));simp (disch:=first|decide|omega|(simp only [List.length_cons,List.length_nil];omega)) only [go_sem,beq_self_eq_true,↓aj,↓ak hN,am hN,reduceIte,reduceCtorEq,Nat.reduceAdd,Nat.reduceLT,Nat.reduceLeDiff,Nat.reduceEqDiff,Nat.reduceSub])|(with_reducible refine And.intro (fun h=>?_) (fun h=>?_) <;> try (exfalso;omega))|(with_reducible refine bj aM hN rfl ?_ ?_;kernel_rfl)|(with_reducible refine bS aM hN rfl ?_ ?_ ?_ ?_;(kernel_rfl);(kernel_rfl);(kernel_rfl))|(refine dQ (hbl2) hN 0 rfl rfl rfl rfl rfl ?_ ?_ ?_ ?_;(focus (simp [bG,AV.names];done));(focus (intro ν' hν;(repeat' (first|exact ArgMs.nil|refine ArgMs.cons ?_ ?_|exact gy hν|exact gz hν|exact jh _|exact iO (by first|exact a8 _|exact aY _|exact aZ rfl rfl rfl) rfl|(refine gA hN rfl ?_ (by decide);first|exact aN _|exact aO _)|refine eN ?_));done));(focus (first|exact Or.inr ⟨rfl,rfl,fun _=>rfl⟩|exact Or.inl (by simp [bG,AV.names]))))|((first|refine aV (hsu) ?_ rfl (fun _=>rfl) ?_|refine aV (hn9) ?_ rfl (fun _=>rfl) ?_);focus ((repeat' (first|(with_reducible first|exact aF|refine ax ?_ ?_|exact cu _|refine bw ?_|exact a8 _|exact bY _ _|refine bX ?_|exact aY _)|exact bz hN rfl rfl|(refine bW hN rfl ?_;first|exact aN _|exact aO _)|exact aZ rfl rfl rfl));done))|(with_reducible first|exact aF|refine ax ?_ ?_|exact cu _|refine bw ?_|exact a8 _|exact bY _ _|refine bX ?_|exact aY _)|exact bz hN rfl rfl|(refine bW hN rfl ?_;first|exact aN _|exact aO _)|exact aZ rfl rfl rfl|(simp only [bI,List.map_nil])|(with_reducible refine cc ?_)|(simp (disch:=first|decide|omega|(simp only [List.length_cons,List.length_nil];omega)) only [bI,List.map_cons,List.map_nil,am hN,List.set_cons_zero,List.set_cons_succ])|(with_reducible refine And.intro ?_ ?_)|(refine ah ?_;omega)|(exact bu hN (by decide))))
     all_goals first|(exact absurd (by assumption) hown)|skip
     (repeat' (first|(with_reducible first|(refine hK _ _ ?_;clear hK K)|(refine aa _ ?_;clear aa K)|(refine ab _ _ _ ?_;clear ab K)|(refine ac _ _ ?_;clear ac K)|refine bh ?_|refine b7 ?_|refine a9 ?_|refine aq ?_|refine ap ?_|refine b8 ?_|refine aI ?_|refine ba ?_|refine b9 ?_|refine bc ?_|refine bd rfl ?_|refine bi ?_|refine be ?_|refine ca ?_|refine bf ?_|refine aH ?_|refine n_k ?_|refine bg ?_|(refine ae ?_;clear ae X af Y)|(refine af ?_;clear ae X af Y))|(with_reducible refine bo ?_;first|refine bm rfl ?_|refine bn rfl ?_)|(with_reducible refine aW ?_;first|refine au rfl rfl rfl rfl ?_|refine aK rfl rfl rfl ?_|refine bt rfl rfl rfl rfl ?_)|(with_reducible refine cr ?_;first|refine bR rfl rfl rfl rfl ?_|refine cf rfl rfl rfl ?_|refine cA rfl rfl rfl rfl ?_|refine cB hN (by apply Exists.intro;apply And.intro;(repeat' (first|apply FtI.nil|apply FI.nil|apply FI.cons|apply FtI.cons));kernel_rfl) ?_)|((first|(with_reducible first|refine bp rfl rfl fun K hK=>?_|refine cy rfl rfl fun K ab=>?_|refine br rfl rfl fun K aa=>?_|refine cz rfl rfl fun K ac=>?_|refine aJ fun X Y ae af=>?_|refine aL ?_)|(with_reducible refine aW ?_;refine bv rfl rfl fun X Y ae af=>?_)|(with_reducible refine cr ?_;refine cC rfl rfl fun X Y ae af=>?_));simp (disch:=first|decide|omega|(simp only [List.length_cons,List.length_nil];omega)) only [go_sem,beq_self_eq_true,↓aj,↓ak hN,am hN,reduceIte,reduceCtorEq,Nat.reduceAdd,Nat.reduceLT,Nat.reduceLeDiff,Nat.reduceEqDiff,Nat.reduceSub])|(with_reducible refine And.intro (fun h=>?_) (fun h=>?_) <;> try (exfalso;omega))|(with_reducible refine bj aM hN rfl ?_ ?_;kernel_rfl)|(with_reducible refine bS aM hN rfl ?_ ?_ ?_ ?_;(kernel_rfl);(kernel_rfl);(kernel_rfl))|((first|refine aV (c1) ?_ rfl (fun _=>rfl) ?_|refine aV (c2) ?_ rfl (fun _=>rfl) ?_|refine aV (lk2) ?_ rfl (fun _=>rfl) ?_|refine aV (c3) ?_ rfl (fun _=>rfl) ?_);focus ((repeat' (first|(with_reducible first|exact aF|refine ax ?_ ?_|exact cu _|refine bw ?_|exact a8 _|exact bY _ _|refine bX ?_|exact aY _)|exact bz hN rfl rfl|(refine bW hN rfl ?_;first|exact aN _|exact aO _)|exact aZ rfl rfl rfl));done))|(with_reducible first|exact aF|refine ax ?_ ?_|exact cu _|refine bw ?_|exact a8 _|exact bY _ _|refine bX ?_|exact aY _)|exact bz hN rfl rfl|(refine bW hN rfl ?_;first|exact aN _|exact aO _)|exact aZ rfl rfl rfl|(simp only [bI,List.map_nil])|(with_reducible refine cc ?_)|(with_reducible refine And.intro ?_ ?_)|(refine ah ?_;omega)|(exact bu hN (by decide))))
     (refine cN (.inr rfl) (by first|rfl|(simp (disch:=first|decide|omega|(simp only [List.length_cons,List.length_nil];omega)) only [ci,cj,cm,co,go_sem,beq_self_eq_true,↓aj,↓ak hN,am hN,reduceIte,reduceCtorEq,Nat.reduceAdd,Nat.reduceLT,Nat.reduceLeDiff,Nat.reduceEqDiff,Nat.reduceSub];rfl)) ?_)
     rfl
 · rw [show decide ((bs.length : Int) > 4096) = true by rw [decide_eq_true_iff];omega] at hbig
   (refine bT aM Try.func6 rfl rfl (by kernel_rfl) fun hp0 ν hX hN=>?_;simp only [cL,Nat.reduceAdd])
   (repeat' (first|(with_reducible first|(refine hK _ _ ?_;clear hK K)|(refine aa _ ?_;clear aa K)|(refine ab _ _ _ ?_;clear ab K)|(refine ac _ _ ?_;clear ac K)|refine bh ?_|refine b7 ?_|refine a9 ?_|refine aq ?_|refine ap ?_|refine b8 ?_|refine aI ?_|refine ba ?_|refine b9 ?_|refine bc ?_|refine bd rfl ?_|refine bi ?_|refine be ?_|refine ca ?_|refine bf ?_|refine aH ?_|refine n_k ?_|refine bg ?_|(refine ae ?_;clear ae X af Y)|(refine af ?_;clear ae X af Y))|(with_reducible refine bo ?_;first|refine bm rfl ?_|refine bn rfl ?_)|(with_reducible refine aW ?_;first|refine au rfl rfl rfl rfl ?_|refine aK rfl rfl rfl ?_|refine bt rfl rfl rfl rfl ?_)|(with_reducible refine cr ?_;first|refine bR rfl rfl rfl rfl ?_|refine cf rfl rfl rfl ?_|refine cA rfl rfl rfl rfl ?_|refine cB hN (by apply Exists.intro;apply And.intro;(repeat' (first|apply FtI.nil|apply FI.nil|apply FI.cons|apply FtI.cons));kernel_rfl) ?_)|((first|(with_reducible first|refine bp rfl rfl fun K hK=>?_|refine cy rfl rfl fun K ab=>?_|refine br rfl rfl fun K aa=>?_|refine cz rfl rfl fun K ac=>?_|refine aJ fun X Y ae af=>?_|refine aL ?_)|(with_reducible refine aW ?_;refine bv rfl rfl fun X Y ae af=>?_)|(with_reducible refine cr ?_;refine cC rfl rfl fun X Y ae af=>?_));simp (disch:=first|decide|omega|(simp only [List.length_cons,List.length_nil];omega)) only [go_sem,beq_self_eq_true,↓aj,↓ak hN,am hN,reduceIte,reduceCtorEq,Nat.reduceAdd,Nat.reduceLT,Nat.reduceLeDiff,Nat.reduceEqDiff,Nat.reduceSub])|(with_reducible refine And.intro (fun h=>?_) (fun h=>?_) <;> try (exfalso;omega))|(with_reducible refine bj aM hN rfl ?_ ?_;kernel_rfl)|(with_reducible refine bS aM hN rfl ?_ ?_ ?_ ?_;(kernel_rfl);(kernel_rfl);(kernel_rfl))|(refine aV hbig ?_ rfl (fun _=>rfl) ?_)|(with_reducible first|exact aF|refine ax ?_ ?_|exact cu _|refine bw ?_|exact a8 _|exact bY _ _|refine bX ?_|exact aY _)|exact bz hN rfl rfl|(refine bW hN rfl ?_;first|exact aN _|exact aO _)|exact aZ rfl rfl rfl|(simp only [bI,List.map_nil])|(with_reducible refine cc ?_)|(with_reducible refine And.intro ?_ ?_)|(refine ah ?_;omega)|(exact bu hN (by decide))))
   (refine cN (.inr rfl) (by first|rfl|(simp (disch:=first|decide|omega|(simp only [List.length_cons,List.length_nil];omega)) only [ci,cj,cm,co,go_sem,beq_self_eq_true,↓aj,↓ak hN,am hN,reduceIte,reduceCtorEq,Nat.reduceAdd,Nat.reduceLT,Nat.reduceLeDiff,Nat.reduceEqDiff,Nat.reduceSub];rfl)) ?_)
   rfl
end Go.Proofs.Ytfaefmabjjndeaa
