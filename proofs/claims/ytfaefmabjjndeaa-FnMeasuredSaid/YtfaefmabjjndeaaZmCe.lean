/-
  The reference's games with links both ways: what its functions return.
-/
import Derived.Test.YtfaefmabjjndeaaZmFc
import Derived.Test.YtfaefmabjjndeaaZmCg
import Derived.Test.YtfaefmabjjndeaaZmCb
import Derived.Test.YtfaefmabjjndeaaZmSd
namespace Go.Proofs.Ytfaefmabjjndeaa
set_option linter.unusedVariables false
set_option linter.unusedSimpArgs false
open Go.RowKit
attribute [local irreducible] aG cP Aw Le
abbrev gmA (g : Gm) : AV:=.agg [.c (.I g.own),.c (.I g.prio),.c (.R g.nxt),.c (.R g.prev),.c (.I g.pick)]
def edg (g : Gm) (v u : Int) : Bool:=decide (gi g.pick v.toNat < 0) || gi g.pick v.toNat == u
structure GmOk (g : Gm) (n : Nat) : Prop where
 le : n ≤ 256
 own : g.own.length = n
 prio : g.prio.length = n
 nxt : g.nxt.length = n
 prev : g.prev.length = n
 pick : g.pick.length = n
 nx : ∀ v,v < n → (gr g.nxt v).length ≤ 256 ∧ ∀ i,i < (gr g.nxt v).length → 0 ≤ gi (gr g.nxt v) i ∧ gi (gr g.nxt v) i < n
 nu : ∀ v s t,v < n → s < (gr g.nxt v).length → t < (gr g.nxt v).length → gi (gr g.nxt v) s = gi (gr g.nxt v) t → s = t
 pvi : ∀ u v : Nat,u < n → ((∃ t,t < (gr g.prev u).length ∧ gi (gr g.prev u) t = (v : Int)) ↔ v < n ∧ ∃ t,t < (gr g.nxt v).length ∧ gi (gr g.nxt v) t = (u : Int))
 pu : ∀ u s t,u < n → s < (gr g.prev u).length → t < (gr g.prev u).length → gi (gr g.prev u) s = gi (gr g.prev u) t → s = t
 o1 : ∀ v,v < n → 0 ≤ gi g.own v ∧ gi g.own v ≤ 1
 p1 : ∀ v,v < n → 0 ≤ gi g.prio v ∧ gi g.prio v ≤ 40
 pv : ∀ v,v < n → (gr g.prev v).length ≤ 65536 ∧ ∀ i,i < (gr g.prev v).length → 0 ≤ gi (gr g.prev v) i ∧ gi (gr g.prev v) i < n
theorem ot (g : Gm) (v u : Int) (h0 : 0 ≤ v) (h1 : v < g.pick.length) : aG Try.prog 186 [gmA g,.c (.int .i64 v),.c (.int .i64 u)] [] (fun _=>.c (.bool (edg g v u))):=by
 (refine b8 aP Try.func186 rfl rfl (by kernel_rfl) fun hp0 ν hX hN=>?_;simp only [cS,Nat.reduceAdd])
 (repeat' (first|(with_reducible first|(refine hK _ _ ?_;clear hK K)|(refine aa _ ?_;clear aa K)|refine bm ?_|refine ce ?_|refine bd ?_|refine ax ?_|refine au ?_|refine cf ?_|refine aK ?_|refine be ?_|refine cg ?_|refine bf ?_|refine bg rfl ?_|refine bn ?_|refine bh ?_|refine ch ?_|refine bi ?_|refine aJ ?_|refine n_k ?_|refine bj ?_|(refine ae ?_;clear ae X af Y)|(refine af ?_;clear ae X af Y))|(with_reducible refine bt ?_;first|refine bp rfl ?_|refine br rfl ?_)|(with_reducible refine bA ?_;first|refine ay rfl rfl rfl rfl ?_|refine aM rfl rfl rfl ?_|refine bw rfl rfl rfl rfl ?_)|((first|(with_reducible first|refine bu rfl rfl fun K hK=>?_|refine bv rfl rfl fun K aa=>?_|refine aL fun X Y ae af=>?_|refine aN ?_)|(with_reducible refine bA ?_;refine bN rfl rfl fun X Y ae af=>?_));simp (disch:=first|decide|omega|(simp only [List.length_cons,List.length_nil];omega)) only [go_sem,beq_self_eq_true,↓aj,↓ak hN,am hN,reduceIte,reduceCtorEq,Nat.reduceAdd,Nat.reduceLT,Nat.reduceLeDiff,Nat.reduceEqDiff,Nat.reduceSub])|(with_reducible refine And.intro (fun h=>?_) (fun h=>?_) <;> try (exfalso;omega))|(with_reducible refine bo aP hN rfl ?_ ?_;kernel_rfl)|(with_reducible refine And.intro ?_ ?_)|(refine ah ?_;omega)|(exact bz hN (by decide))))
 all_goals (refine cQ (.inr rfl) (by first|rfl|(simp (disch:=first|decide|omega|(simp only [List.length_cons,List.length_nil];omega)) only [cw,cA,cF,cG,go_sem,beq_self_eq_true,↓aj,↓ak hN,am hN,reduceIte,reduceCtorEq,Nat.reduceAdd,Nat.reduceLT,Nat.reduceLeDiff,Nat.reduceEqDiff,Nat.reduceSub];rfl)) ?_)
 all_goals simp [*,edg]
def gX (g : Gm) (inn : List Bool) (v : Int) : Nat → Nat
 | 0 => 0
 | k + 1 => gX g inn v k + if gb inn (gi (gr g.nxt v.toNat) k).toNat && edg g v (gi (gr g.nxt v.toNat) k) then 1 else 0
def deg (g : Gm) (inn : List Bool) (v : Int) : Nat:=gX g inn v (gr g.nxt v.toNat).length
theorem ou (g : Gm) (inn : List Bool) (v : Int) (k : Nat) : gX g inn v k ≤ k:=by
 induction k with
 | zero => exact Nat.le_refl _
 | succ k ih => simp only [gX]; split <;> omega
theorem pM (g : Gm) (n : Nat) (hg : GmOk g n) (inn : List Bool) (hi : inn.length = n) (v : Int) (h0 : 0 ≤ v) (h1 : v < n) : aG Try.prog 138 [gmA g,.c (.B inn),.c (.int .i64 v)] [] (fun _=>.c (.int .i64 (deg g inn v))):=by
 obtain ⟨hl,hx⟩:=hg.nx v.toNat (by omega)
 have e1:=hg.nxt
 have e2:=hg.pick
 have e3:=hg.le
 (refine b8 aP Try.func138 rfl rfl (by kernel_rfl) fun hp0 ν hX hN=>?_;simp only [cS,Nat.reduceAdd])
 (repeat' (first|(with_reducible first|(refine hK _ _ ?_;clear hK K)|(refine aa _ ?_;clear aa K)|refine bm ?_|refine ce ?_|refine bd ?_|refine ax ?_|refine au ?_|refine cf ?_|refine aK ?_|refine be ?_|refine cg ?_|refine bf ?_|refine bg rfl ?_|refine bn ?_|refine bh ?_|refine ch ?_|refine bi ?_|refine aJ ?_|refine n_k ?_|refine bj ?_|(refine ae ?_;clear ae X af Y)|(refine af ?_;clear ae X af Y))|(with_reducible refine bt ?_;first|refine bp rfl ?_|refine br rfl ?_)|(with_reducible refine bA ?_;first|refine ay rfl rfl rfl rfl ?_|refine aM rfl rfl rfl ?_|refine bw rfl rfl rfl rfl ?_)|((first|(with_reducible first|refine bu rfl rfl fun K hK=>?_|refine bv rfl rfl fun K aa=>?_|refine aL fun X Y ae af=>?_|refine aN ?_)|(with_reducible refine bA ?_;refine bN rfl rfl fun X Y ae af=>?_));simp (disch:=first|decide|omega|(simp only [List.length_cons,List.length_nil];omega)) only [go_sem,beq_self_eq_true,↓aj,↓ak hN,am hN,reduceIte,reduceCtorEq,Nat.reduceAdd,Nat.reduceLT,Nat.reduceLeDiff,Nat.reduceEqDiff,Nat.reduceSub])|(with_reducible refine And.intro (fun h=>?_) (fun h=>?_) <;> try (exfalso;omega))|(with_reducible refine bo aP hN rfl ?_ ?_;kernel_rfl)|(with_reducible refine And.intro ?_ ?_)|(refine ah ?_;omega)|(exact bz hN (by decide))))
 (refine cr (fun (k : Nat)=>(tmL [(8,.c (.int .i64 k)),(7,.c (.int .i64 (gX g inn v k))),(3,.ad (ν 0) 0),(1,.c (.B inn)),(2,.c (.int .i64 v))],hpL hp0 ν [.box [.c (.I g.own),.c (.I g.prio),.c (.R g.nxt),.c (.R g.prev),.c (.I g.pick)]])) (fun (k : Nat)=>k ≤ (gr g.nxt v.toNat).length) (fun (k : Nat)=>(gr g.nxt v.toNat).length - k) ⟨0,?_,bZ hX hN [] ?_ ?_⟩ ?_;(repeat' (first|(with_reducible first|exact bS _|exact bT|exact bU|refine bV ?_ ?_|refine bW ?_ ?_|exact az _|exact bQ _|exact ap _|rfl|exact aU _ _|refine aB ?_|exact bR _|refine aY ?_)|refine bX rfl ?_ ?_|exact aV hN _ rfl rfl rfl|exact aW hN _ rfl rfl rfl|exact aC hN _ rfl rfl rfl (Or.inr rfl)|(refine aX hN _ rfl rfl (by first|exact Or.inr rfl|exact Or.inl rfl) ?_;first|exact aH _|exact aI _)|refine aD hN rfl ?_|refine aE hN rfl rfl ?_|exact aA hN _ rfl rfl|exact aF hN rfl rfl rfl rfl|(with_reducible first|refine aT ?_|refine bJ ?_|refine bK ?_|refine bL ?_|refine bH ?_|refine bI ?_)));(try (any_goals (first|(with_reducible rfl)|(refine ah ?_;omega)))))
 · rfl
 intro k hk
 have hx:=hx k
 have hd:=ou g inn v k
 (repeat' (first|(with_reducible first|(refine hK _ _ ?_;clear hK K)|(refine aa _ ?_;clear aa K)|refine bm ?_|refine ce ?_|refine bd ?_|refine ax ?_|refine au ?_|refine cf ?_|refine aK ?_|refine be ?_|refine cg ?_|refine bf ?_|refine bg rfl ?_|refine bn ?_|refine bh ?_|refine ch ?_|refine bi ?_|refine aJ ?_|refine n_k ?_|refine bj ?_|(refine ae ?_;clear ae X af Y)|(refine af ?_;clear ae X af Y))|(with_reducible refine bt ?_;first|refine bp rfl ?_|refine br rfl ?_)|(with_reducible refine bA ?_;first|refine ay rfl rfl rfl rfl ?_|refine aM rfl rfl rfl ?_|refine bw rfl rfl rfl rfl ?_)|((first|(with_reducible first|refine bu rfl rfl fun K hK=>?_|refine bv rfl rfl fun K aa=>?_|refine aL fun X Y ae af=>?_|refine aN ?_)|(with_reducible refine bA ?_;refine bN rfl rfl fun X Y ae af=>?_));simp (disch:=first|decide|omega|(simp only [List.length_cons,List.length_nil];omega)) only [go_sem,beq_self_eq_true,↓aj,↓ak hN,am hN,reduceIte,reduceCtorEq,Nat.reduceAdd,Nat.reduceLT,Nat.reduceLeDiff,Nat.reduceEqDiff,Nat.reduceSub])|(with_reducible refine And.intro (fun h=>?_) (fun h=>?_) <;> try (exfalso;omega))|(with_reducible refine bo aP hN rfl ?_ ?_;kernel_rfl)|(refine bc (ot g v ?_ h0 (by omega)) ?_ rfl (fun _=>rfl) ?_)|(with_reducible first|exact aq|refine ao ?_ ?_|exact cn _|refine aZ ?_|exact aS _|exact bG _ _|refine bF ?_|exact aQ _)|exact a8 hN rfl rfl|(refine bE hN rfl ?_;first|exact aH _|exact aI _)|exact aR rfl rfl rfl|(simp only [bC,List.map_nil])|(with_reducible refine cc ?_)|(with_reducible refine And.intro ?_ ?_)|(refine ah ?_;omega)|(exact bz hN (by decide))))
 · (refine ⟨k + 1,⟨?_,?_⟩,bZ hX hN [] ?_ ?_⟩;(try any_goals dsimp only);(repeat' (first|(with_reducible first|exact bS _|exact bT|exact bU|refine bV ?_ ?_|refine bW ?_ ?_|exact az _|exact bQ _|exact ap _|rfl|exact aU _ _|refine aB ?_|exact bR _|refine aY ?_)|refine bX rfl ?_ ?_|exact aV hN _ rfl rfl rfl|exact aW hN _ rfl rfl rfl|exact aC hN _ rfl rfl rfl (Or.inr rfl)|(refine aX hN _ rfl rfl (by first|exact Or.inr rfl|exact Or.inl rfl) ?_;first|exact aH _|exact aI _)|refine aD hN rfl ?_|refine aE hN rfl rfl ?_|exact aA hN _ rfl rfl|exact aF hN rfl rfl rfl rfl|(with_reducible first|refine aT ?_|refine bJ ?_|refine bK ?_|refine bL ?_|refine bH ?_|refine bI ?_)));(try (any_goals (first|(with_reducible rfl)|(refine ah ?_;omega)))))
   simp [gX, *]
 · (refine ⟨k + 1,⟨?_,?_⟩,bZ hX hN [] ?_ ?_⟩;(try any_goals dsimp only);(repeat' (first|(with_reducible first|exact bS _|exact bT|exact bU|refine bV ?_ ?_|refine bW ?_ ?_|exact az _|exact bQ _|exact ap _|rfl|exact aU _ _|refine aB ?_|exact bR _|refine aY ?_)|refine bX rfl ?_ ?_|exact aV hN _ rfl rfl rfl|exact aW hN _ rfl rfl rfl|exact aC hN _ rfl rfl rfl (Or.inr rfl)|(refine aX hN _ rfl rfl (by first|exact Or.inr rfl|exact Or.inl rfl) ?_;first|exact aH _|exact aI _)|refine aD hN rfl ?_|refine aE hN rfl rfl ?_|exact aA hN _ rfl rfl|exact aF hN rfl rfl rfl rfl|(with_reducible first|refine aT ?_|refine bJ ?_|refine bK ?_|refine bL ?_|refine bH ?_|refine bI ?_)));(try (any_goals (first|(with_reducible rfl)|(refine ah ?_;omega)))))
   simp [gX, *]
 · (refine ⟨k + 1,⟨?_,?_⟩,bZ hX hN [] ?_ ?_⟩;(try any_goals dsimp only);(repeat' (first|(with_reducible first|exact bS _|exact bT|exact bU|refine bV ?_ ?_|refine bW ?_ ?_|exact az _|exact bQ _|exact ap _|rfl|exact aU _ _|refine aB ?_|exact bR _|refine aY ?_)|refine bX rfl ?_ ?_|exact aV hN _ rfl rfl rfl|exact aW hN _ rfl rfl rfl|exact aC hN _ rfl rfl rfl (Or.inr rfl)|(refine aX hN _ rfl rfl (by first|exact Or.inr rfl|exact Or.inl rfl) ?_;first|exact aH _|exact aI _)|refine aD hN rfl ?_|refine aE hN rfl rfl ?_|exact aA hN _ rfl rfl|exact aF hN rfl rfl rfl rfl|(with_reducible first|refine aT ?_|refine bJ ?_|refine bK ?_|refine bL ?_|refine bH ?_|refine bI ?_)));(try (any_goals (first|(with_reducible rfl)|(refine ah ?_;omega)))))
   simp [gX, *]
 · (refine cQ (.inr rfl) (by first|rfl|(simp (disch:=first|decide|omega|(simp only [List.length_cons,List.length_nil];omega)) only [cw,cA,cF,cG,go_sem,beq_self_eq_true,↓aj,↓ak hN,am hN,reduceIte,reduceCtorEq,Nat.reduceAdd,Nat.reduceLT,Nat.reduceLeDiff,Nat.reduceEqDiff,Nat.reduceSub];rfl)) ?_)
   have e : k = (gr g.nxt v.toNat).length:=by omega
   rw [e];rfl
end Go.Proofs.Ytfaefmabjjndeaa
namespace Go.Proofs.Ytfaefmabjjndeaa
set_option linter.unusedVariables false
set_option linter.unusedSimpArgs false
open Go.RowKit
theorem j9 {xs : List Int} {k : Nat} (h : k < xs.length) : xs.drop k = gi xs k :: xs.drop (k + 1):=by
 rw [List.drop_eq_getElem_cons h,dZ h]
end Go.Proofs.Ytfaefmabjjndeaa
namespace Go.Proofs.Ytfaefmabjjndeaa
set_option linter.unusedVariables false
set_option linter.unusedSimpArgs false
open Go.RowKit
attribute [local irreducible] aG cP Aw Le
theorem pN {φ : Nat → Loc} {hp : Hp} {w : World} {a : AV} {vs : List Value} (h : AVs φ hp w [a] vs) : ∃ v,vs = [v] ∧ AVC φ hp w a v:=by
 match vs,h with
 | [v], .cons h .nil => exact ⟨v, rfl, h⟩
theorem xd {φ : Nat → Loc} {hp : Hp} {w : World} {a b : AV} {vs : List Value} (h : AVs φ hp w [a,b] vs) : ∃ v u,vs = [v,u] ∧ AVC φ hp w a v ∧ AVC φ hp w b u:=by
 match vs,h with
 | [v, u], .cons h (.cons k .nil) => exact ⟨v, u, rfl, h, k⟩
theorem zK {φ : Nat → Loc} {hp : Hp} {w : World} {a b c : AV} {vs : List Value} (h : AVs φ hp w [a,b,c] vs) : ∃ v u x,vs = [v,u,x] ∧ AVC φ hp w a v ∧ AVC φ hp w b u ∧ AVC φ hp w c x:=by
 match vs,h with
 | [v, u, x], .cons h (.cons k (.cons l .nil)) => exact ⟨v, u, x, rfl, h, k, l⟩
theorem mX (x lo hi : Int) : aG Try.prog 83 [.c (.int .i64 x),.c (.int .i64 lo),.c (.int .i64 hi)] [] (fun _=>.c (.bool (tf (lo ≤ x ∧ x ≤ hi)))) :=
 gD Try.func83 rfl rfl (u:=.bool _) (fun O w=>.bool _) fun φ hp w vs h=>by
  obtain ⟨a,b,c,rfl,h1,h2,h3⟩:=zK h
  obtain rfl:=dn h1
  obtain rfl:=dn h2
  obtain rfl:=dn h3
  exact (ny x lo hi w).mono fun e w' ⟨he,hw⟩=>⟨he,by rw [← hw];exact Below.refl _ _⟩
theorem tC (g : Pa) : aG Try.prog 72 [paA g] [] (fun _=>.c (.bool (tf (PaOk g)))) :=
 gD Try.func72 rfl rfl (u:=.bool _) (fun O w=>.bool _) fun φ hp w vs h=>by
  obtain ⟨a,rfl,h1⟩:=pN h
  exact wk a g w (rD h1)
theorem kR (g : Pa) : aG Try.prog 59 [paA g] [] (fun _=>.c (.bool (tf (PaOk g)))) :=
 gD Try.func59 rfl rfl (u:=.bool _) (fun O w=>.bool _) fun φ hp w vs h=>by
  obtain ⟨a,rfl,h1⟩:=pN h
  exact (wl a g w (rD h1)).mono fun e w' h=>h
theorem qE (a : Ar) : aG Try.prog 134 [arA a] [] (fun _=>.c (.bool (tf (ArOk a)))) :=
 gD Try.func134 rfl rfl (u:=.bool _) (fun O w=>.bool _) fun φ hp w vs h=>by
  obtain ⟨v,rfl,h1⟩:=pN h
  exact (mu v a w (zG h1)).mono fun e w' h=>h
theorem vu (xs : List Int) (m : Int) (h0 : 0 ≤ m) (h1 : m ≤ 1048576) : aG Try.prog 185 [.c (.I xs),.c (.int .i64 m)] [] (fun _=>.c (.bool (tf (cO xs m)))) :=
 gD Try.func185 rfl rfl (u:=.bool _) (fun O w=>.bool _) fun φ hp w vs h=>by
  obtain ⟨a,b,rfl,h1,h2⟩:=xd h
  obtain rfl:=dn h2
  obtain ⟨sa,n,c,rfl,hI⟩:=pH (dQ h1)
  exact (jn sa n c xs m w hI h0 (by omega)).mono fun e w' h=>h.bb
theorem vv (xs : List Int) (m : Int) : aG Try.prog 135 [.c (.I xs),.c (.int .i64 m)] [] (fun _=>.c (.bool (tf ((0 ≤ m ∧ m ≤ 256) ∧ cO xs m)))):=by
 by_cases hm : 0 ≤ m ∧ m ≤ 256
 · rw [show tf ((0 ≤ m ∧ m ≤ 256) ∧ cO xs m) = tf (cO xs m) from iP ⟨fun h=>h.2,fun h=>⟨hm,h⟩⟩]
   obtain ⟨m0,m1⟩:=hm
   (refine b8 aP Try.func135 rfl rfl (by kernel_rfl) fun hp0 ν hX hN=>?_;simp only [cS,Nat.reduceAdd])
   (repeat' (first|(with_reducible first|(refine hK _ _ ?_;clear hK K)|(refine aa _ ?_;clear aa K)|refine bm ?_|refine ce ?_|refine bd ?_|refine ax ?_|refine au ?_|refine cf ?_|refine aK ?_|refine be ?_|refine cg ?_|refine bf ?_|refine bg rfl ?_|refine bn ?_|refine bh ?_|refine ch ?_|refine bi ?_|refine aJ ?_|refine n_k ?_|refine bj ?_|(refine ae ?_;clear ae X af Y)|(refine af ?_;clear ae X af Y))|(with_reducible refine bt ?_;first|refine bp rfl ?_|refine br rfl ?_)|(with_reducible refine bA ?_;first|refine ay rfl rfl rfl rfl ?_|refine aM rfl rfl rfl ?_|refine bw rfl rfl rfl rfl ?_)|((first|(with_reducible first|refine bu rfl rfl fun K hK=>?_|refine bv rfl rfl fun K aa=>?_|refine aL fun X Y ae af=>?_|refine aN ?_)|(with_reducible refine bA ?_;refine bN rfl rfl fun X Y ae af=>?_));simp (disch:=first|decide|omega|(simp only [List.length_cons,List.length_nil];omega)) only [go_sem,beq_self_eq_true,↓aj,↓ak hN,am hN,reduceIte,reduceCtorEq,Nat.reduceAdd,Nat.reduceLT,Nat.reduceLeDiff,Nat.reduceEqDiff,Nat.reduceSub])|(with_reducible refine And.intro (fun h=>?_) (fun h=>?_) <;> try (exfalso;omega))|(with_reducible refine bo aP hN rfl ?_ ?_;kernel_rfl)|(refine bc (mX ?_ ?_ ?_) ?_ rfl (fun _=>rfl) ?_)|(refine bc (vu xs m m0 (by omega)) ?_ rfl (fun _=>rfl) ?_)|(with_reducible first|exact aq|refine ao ?_ ?_|exact cn _|refine aZ ?_|exact aS _|exact bG _ _|refine bF ?_|exact aQ _)|exact a8 hN rfl rfl|(refine bE hN rfl ?_;first|exact aH _|exact aI _)|exact aR rfl rfl rfl|(simp only [bC,List.map_nil])|(with_reducible refine cc ?_)|(with_reducible refine And.intro ?_ ?_)|(refine ah ?_;omega)|(exact bz hN (by decide))))
   all_goals (refine cQ (.inr rfl) (by first|rfl|(simp (disch:=first|decide|omega|(simp only [List.length_cons,List.length_nil];omega)) only [cw,cA,cF,cG,go_sem,beq_self_eq_true,↓aj,↓ak hN,am hN,reduceIte,reduceCtorEq,Nat.reduceAdd,Nat.reduceLT,Nat.reduceLeDiff,Nat.reduceEqDiff,Nat.reduceSub];rfl)) ?_)
   all_goals rfl
 · rw [ba (fun h=>hm h.1)]
   (refine b8 aP Try.func135 rfl rfl (by kernel_rfl) fun hp0 ν hX hN=>?_;simp only [cS,Nat.reduceAdd])
   (repeat' (first|(with_reducible first|(refine hK _ _ ?_;clear hK K)|(refine aa _ ?_;clear aa K)|refine bm ?_|refine ce ?_|refine bd ?_|refine ax ?_|refine au ?_|refine cf ?_|refine aK ?_|refine be ?_|refine cg ?_|refine bf ?_|refine bg rfl ?_|refine bn ?_|refine bh ?_|refine ch ?_|refine bi ?_|refine aJ ?_|refine n_k ?_|refine bj ?_|(refine ae ?_;clear ae X af Y)|(refine af ?_;clear ae X af Y))|(with_reducible refine bt ?_;first|refine bp rfl ?_|refine br rfl ?_)|(with_reducible refine bA ?_;first|refine ay rfl rfl rfl rfl ?_|refine aM rfl rfl rfl ?_|refine bw rfl rfl rfl rfl ?_)|((first|(with_reducible first|refine bu rfl rfl fun K hK=>?_|refine bv rfl rfl fun K aa=>?_|refine aL fun X Y ae af=>?_|refine aN ?_)|(with_reducible refine bA ?_;refine bN rfl rfl fun X Y ae af=>?_));simp (disch:=first|decide|omega|(simp only [List.length_cons,List.length_nil];omega)) only [go_sem,beq_self_eq_true,↓aj,↓ak hN,am hN,reduceIte,reduceCtorEq,Nat.reduceAdd,Nat.reduceLT,Nat.reduceLeDiff,Nat.reduceEqDiff,Nat.reduceSub])|(with_reducible refine And.intro (fun h=>?_) (fun h=>?_) <;> try (exfalso;omega))|(with_reducible refine bo aP hN rfl ?_ ?_;kernel_rfl)|(refine bc (mX ?_ ?_ ?_) ?_ rfl (fun _=>rfl) ?_)|(with_reducible first|exact aq|refine ao ?_ ?_|exact cn _|refine aZ ?_|exact aS _|exact bG _ _|refine bF ?_|exact aQ _)|exact a8 hN rfl rfl|(refine bE hN rfl ?_;first|exact aH _|exact aI _)|exact aR rfl rfl rfl|(simp only [bC,List.map_nil])|(with_reducible refine cc ?_)|(with_reducible refine And.intro ?_ ?_)|(refine ah ?_;omega)|(exact bz hN (by decide))))
   all_goals (refine cQ (.inr rfl) (by first|rfl|(simp (disch:=first|decide|omega|(simp only [List.length_cons,List.length_nil];omega)) only [cw,cA,cF,cG,go_sem,beq_self_eq_true,↓aj,↓ak hN,am hN,reduceIte,reduceCtorEq,Nat.reduceAdd,Nat.reduceLT,Nat.reduceLeDiff,Nat.reduceEqDiff,Nat.reduceSub];rfl)) ?_)
   all_goals first|rfl|(exfalso;omega)
theorem ov (g : Pa) : aG Try.prog 108 [paA g] [] (fun _=>.c (.bool (tf (ec g)))):=by
 (refine b8 aP Try.func108 rfl rfl (by kernel_rfl) fun hp0 ν hX hN=>?_;simp only [cS,Nat.reduceAdd])
 (repeat' (first|(with_reducible first|(refine hK _ _ ?_;clear hK K)|(refine aa _ ?_;clear aa K)|refine bm ?_|refine ce ?_|refine bd ?_|refine ax ?_|refine au ?_|refine cf ?_|refine aK ?_|refine be ?_|refine cg ?_|refine bf ?_|refine bg rfl ?_|refine bn ?_|refine bh ?_|refine ch ?_|refine bi ?_|refine aJ ?_|refine n_k ?_|refine bj ?_|(refine ae ?_;clear ae X af Y)|(refine af ?_;clear ae X af Y))|(with_reducible refine bt ?_;first|refine bp rfl ?_|refine br rfl ?_)|(with_reducible refine bA ?_;first|refine ay rfl rfl rfl rfl ?_|refine aM rfl rfl rfl ?_|refine bw rfl rfl rfl rfl ?_)|((first|(with_reducible first|refine bu rfl rfl fun K hK=>?_|refine bv rfl rfl fun K aa=>?_|refine aL fun X Y ae af=>?_|refine aN ?_)|(with_reducible refine bA ?_;refine bN rfl rfl fun X Y ae af=>?_));simp (disch:=first|decide|omega|(simp only [List.length_cons,List.length_nil];omega)) only [go_sem,beq_self_eq_true,↓aj,↓ak hN,am hN,reduceIte,reduceCtorEq,Nat.reduceAdd,Nat.reduceLT,Nat.reduceLeDiff,Nat.reduceEqDiff,Nat.reduceSub])|(with_reducible refine And.intro (fun h=>?_) (fun h=>?_) <;> try (exfalso;omega))|(with_reducible refine bo aP hN rfl ?_ ?_;kernel_rfl)|(refine bc (tC ?_) ?_ rfl (fun _=>rfl) ?_)|(with_reducible first|exact aq|refine ao ?_ ?_|exact cn _|refine aZ ?_|exact aS _|exact bG _ _|refine bF ?_|exact aQ _)|exact a8 hN rfl rfl|(refine bE hN rfl ?_;first|exact aH _|exact aI _)|exact aR rfl rfl rfl|(simp only [bC,List.map_nil])|(with_reducible refine cc ?_)|(with_reducible refine And.intro ?_ ?_)|(refine ah ?_;omega)|(exact bz hN (by decide))))
 all_goals (refine cQ (.inr rfl) (by first|rfl|(simp (disch:=first|decide|omega|(simp only [List.length_cons,List.length_nil];omega)) only [cw,cA,cF,cG,go_sem,beq_self_eq_true,↓aj,↓ak hN,am hN,reduceIte,reduceCtorEq,Nat.reduceAdd,Nat.reduceLT,Nat.reduceLeDiff,Nat.reduceEqDiff,Nat.reduceSub];rfl)) ?_)
 · exact congrArg C.bool (wY ⟨fun h'=>⟨by assumption,by omega⟩,fun h'=>by have:=h'.2;omega⟩)
 · exact congrArg C.bool (ba fun h'=>absurd h'.1 (by assumption)).symm
end Go.Proofs.Ytfaefmabjjndeaa
namespace Go.Proofs.Ytfaefmabjjndeaa
set_option linter.unusedVariables false
set_option linter.unusedSimpArgs false
open Go.RowKit
attribute [local irreducible] aG cP Aw Le
end Go.Proofs.Ytfaefmabjjndeaa
namespace Go.Proofs.Ytfaefmabjjndeaa
set_option linter.unusedVariables false
set_option linter.unusedSimpArgs false
open Go.RowKit
def tD (a : Ar) (xs : List Int) : Prop:=cO xs a.own.length ∧ ∀ k,k < xs.length → ∃ i,i < (gr a.nxt (gi xs k).toNat).length ∧ gi (gr a.nxt (gi xs k).toNat) i ∈ xs
end Go.Proofs.Ytfaefmabjjndeaa
namespace Go.Proofs.Ytfaefmabjjndeaa
set_option linter.unusedVariables false
set_option linter.unusedSimpArgs false
open Go.RowKit
theorem ow {row : List Int} {v u : Nat} {x : Int} : ∀ {k : Nat},x ∈ dh row v u k ↔ x = v ∧ ∃ i,i < k ∧ (gi row i).toNat = u:=by
 intro k
 induction k with
 | zero => simp [dh]
 | succ k ih =>
   unfold dh
   rw [List.mem_append,ih]
   constructor
   · rintro (⟨h1,i,h2,h3⟩|h)
     · exact ⟨h1,i,by omega,h3⟩
     · split at h
       · rename_i hu;simp at h;exact ⟨h,k,by omega,hu⟩
       · simp at h
   · rintro ⟨h1,i,h2,h3⟩
     rcases Nat.lt_or_ge i k with h|h
     · exact .inl ⟨h1,i,h,h3⟩
     · have : i = k:=by omega
       subst this
       rw [if_pos h3];exact .inr (by simp [h1])
theorem gE {nxt : List (List Int)} {u : Nat} {x : Int} : ∀ {k : Nat},x ∈ cU nxt u k ↔ ∃ v,v < k ∧ x = (v : Int) ∧ ∃ i,i < (gr nxt v).length ∧ (gi (gr nxt v) i).toNat = u:=by
 intro k
 induction k with
 | zero => simp [cU]
 | succ k ih =>
   unfold cU
   rw [List.mem_append,ih,ow]
   constructor
   · rintro (⟨v,h1,h2⟩|⟨h1,h2⟩)
     · exact ⟨v,by omega,h2⟩
     · exact ⟨k,by omega,h1,h2⟩
   · rintro ⟨v,h1,h2⟩
     rcases Nat.lt_or_ge v k with h|h
     · exact .inl ⟨v,h,h2⟩
     · have : v = k:=by omega
       subst this;exact .inr h2
theorem tE {xs : List Int} {m : Int} (h : cO xs m) : ∀ {t s : Nat},s < t → t < xs.length → gi xs s < gi xs t:=by
 intro t
 induction t with
 | zero => intro s h1; omega
 | succ t ih =>
   intro s h1 h2
   have:=(h (t + 1) h2).2.2 (by omega)
   simp only [Nat.add_sub_cancel] at this
   rcases Nat.lt_or_ge s t with h3|h3
   · have:=ih h3 (by omega);omega
   · have : s = t:=by omega
     subst this;omega
theorem ox {xs : List Int} {m : Int} (h : cO xs m) {s t : Nat} (hs : s < xs.length) (ht : t < xs.length) (e : gi xs s = gi xs t) : s = t:=by
 rcases Nat.lt_trichotomy s t with h'|h'|h'
 · have:=tE h h' ht;omega
 · exact h'
 · have:=tE h h' hs;omega
theorem kS {xs : List Int} (h : xs.Nodup) {s t : Nat} (hs : s < xs.length) (ht : t < xs.length) (e : gi xs s = gi xs t) : s = t:=by
 rw [dZ hs,dZ ht] at e
 exact (List.getElem_inj (h₀:=hs) (h₁:=ht) h).1 e
theorem ly {row : List Int} {m : Int} (h : cO row m) (v u : Nat) : ∀ i,i ≤ row.length → (dh row v u i = [] ∨ (dh row v u i = [(v : Int)] ∧ ∃ j,j < i ∧ (gi row j).toNat = u)):=by
 intro i
 induction i with
 | zero => intro _; exact .inl rfl
 | succ i ih =>
   intro hi
   unfold dh
   by_cases e : (gi row i).toNat = u
   · rw [if_pos e]
     rcases ih (by omega) with h1|⟨_,j,h1,h2⟩
     · rw [h1];exact .inr ⟨rfl,i,by omega,e⟩
     · have a:=(h j (by omega)).1
       have b:=(h i (by omega)).1
       have:=ox h (s:=j) (t:=i) (by omega) (by omega) (by omega)
       omega
   · rw [if_neg e,List.append_nil]
     rcases ih (by omega) with h1|⟨h0,j,h1,h2⟩
     · exact .inl h1
     · exact .inr ⟨h0,j,by omega,h2⟩
theorem mY {nxt : List (List Int)} {n : Nat} {m : Int} (h : ∀ v,v < n → cO (gr nxt v) m) (u : Nat) : (cU nxt u n).Nodup:=by
 induction n with
 | zero => exact List.nodup_nil
 | succ n ih =>
   unfold cU
   rcases ly (h n (by omega)) n u _ (Nat.le_refl _) with e|⟨e,_⟩
   · rw [e,List.append_nil];exact ih fun v hv=>h v (by omega)
   · rw [e,List.nodup_append]
     refine ⟨ih fun v hv=>h v (by omega),by simp,fun x hx y hy=>?_⟩
     obtain ⟨v,h1,h2,_⟩:=gE.1 hx
     simp at hy
     omega
theorem pO {nxt : List (List Int)} {n : Nat} (hv : ∀ v,v < n → ∀ i,i < (gr nxt v).length → 0 ≤ gi (gr nxt v) i ∧ gi (gr nxt v) i < n) (u v : Nat) : (∃ t,t < (cU nxt u n).length ∧ gi (cU nxt u n) t = (v : Int)) ↔ v < n ∧ ∃ t,t < (gr nxt v).length ∧ gi (gr nxt v) t = (u : Int):=by
 constructor
 · rintro ⟨t,h1,h2⟩
   have hm : (v : Int) ∈ cU nxt u n:=by rw [← h2];exact dz h1
   obtain ⟨v',h3,h4,i,h5,h6⟩:=gE.1 hm
   have e : v' = v:=by omega
   subst e
   exact ⟨h3,i,h5,by have:=hv v' h3 i h5;omega⟩
 · rintro ⟨h1,t,h2,h3⟩
   have hm : (v : Int) ∈ cU nxt u n:=gE.2 ⟨v,h1,rfl,t,h2,by omega⟩
   exact dm hm
theorem kb {g : Pa} (hg : PaOk g) : GmOk (dO g) g.prio.length:=by
 have h1:=hg.ar.le
 have h2:=hg.len
 have h3:=hg.ar.len
 have hv : ∀ v,v < g.prio.length → (gr g.ar.nxt v).length ≤ 16 ∧ ∀ i,i < (gr g.ar.nxt v).length → 0 ≤ gi (gr g.ar.nxt v) i ∧ gi (gr g.ar.nxt v) i < g.prio.length:=fun v hv=>by
  obtain ⟨_,_,_,a,b⟩:=hg.ar.vert v (by omega)
  exact ⟨a,fun i hi=>by have:=b.bnd i hi;omega⟩
 refine ⟨by omega,h2.symm,rfl,by show g.ar.nxt.length = _;omega,eI _ _,cy _ _,fun v hv'=>⟨by have:=(hv v hv').1;show (gr g.ar.nxt v).length ≤ _;omega,(hv v hv').2⟩,fun v s t hv' hs ht e=>ox (hg.ar.vert v (by omega)).2.2.2.2 hs ht e,fun u v hu=>?_,fun u s t hu hs ht e=>?_,fun v hv'=>by have:=hg.ar.vert v (by omega);exact ⟨this.1,this.2.1⟩,fun v hv'=>hg.prio v hv',fun u hu=>?_⟩
 · rw [show gr (dO g).prev u = cU g.ar.nxt u g.prio.length from dy _ hu]
   exact pO (fun v hv' i hi=>(hv v hv').2 i hi) u v
 · rw [show gr (dO g).prev u = cU g.ar.nxt u g.prio.length from dy _ hu] at hs ht e
   exact kS (mY (fun v hv'=>hg.ar.vert v (by omega) |>.2.2.2.2) u) hs ht e
 have e : gr (dO g).prev u = cU g.ar.nxt u g.prio.length:=dy _ hu
 rw [e]
 refine ⟨?_,fun i hi=>?_⟩
 · have:=kQ (nxt:=g.ar.nxt) (m:=16) u g.prio.length fun j hj=>(hv j hj).1
   have : 16 * g.prio.length ≤ 16 * 256:=Nat.mul_le_mul_left _ (by omega)
   omega
 · obtain ⟨v,k1,k2,_⟩:=gE.1 (dz hi)
   omega
end Go.Proofs.Ytfaefmabjjndeaa
