/-
  The reference's games with links both ways: what its functions return.
-/
import Derived.Test.YtiadchinhofieaaZcFc
import Derived.Test.YtiadchinhofieaaZcCg
import Derived.Test.YtiadchinhofieaaZcCb
import Derived.Test.YtiadchinhofieaaZcSd
namespace Go.Proofs.Ytiadchinhofieaa
set_option linter.unusedVariables false
set_option linter.unusedSimpArgs false
open Go.RowKit
attribute [local irreducible] aq ci Aw Le
abbrev gmA (g : Gm) : AV:=.agg [.c (.I g.own),.c (.I g.prio),.c (.R g.nxt),.c (.R g.prev),.c (.I g.pick)]
def edg (g : Gm) (v u : Int) : Bool:=decide (gi g.pick v.toNat < 0) || gi g.pick v.toNat == u
structure GmOk (g : Gm) (n : Nat) : Prop where
 le : n ≤ 256
 own : g.own.length = n
 prio : g.prio.length = n
 nxt : g.nxt.length = n
 prev : g.prev.length = n
 pick : g.pick.length = n
 nx : ∀ v,v < n → (gr g.nxt v).length ≤ 256 ∧ ∀ i,i < (gr g.nxt v).length → 0 ≤ gi (gr g.nxt v) i ∧ gi (gr g.nxt v) i < n
 nu : ∀ v s t,v < n → s < (gr g.nxt v).length → t < (gr g.nxt v).length → gi (gr g.nxt v) s = gi (gr g.nxt v) t → s = t
 pvi : ∀ u v : Nat,u < n → ((∃ t,t < (gr g.prev u).length ∧ gi (gr g.prev u) t = (v : Int)) ↔ v < n ∧ ∃ t,t < (gr g.nxt v).length ∧ gi (gr g.nxt v) t = (u : Int))
 pu : ∀ u s t,u < n → s < (gr g.prev u).length → t < (gr g.prev u).length → gi (gr g.prev u) s = gi (gr g.prev u) t → s = t
 o1 : ∀ v,v < n → 0 ≤ gi g.own v ∧ gi g.own v ≤ 1
 p1 : ∀ v,v < n → 0 ≤ gi g.prio v ∧ gi g.prio v ≤ 40
 pv : ∀ v,v < n → (gr g.prev v).length ≤ 65536 ∧ ∀ i,i < (gr g.prev v).length → 0 ≤ gi (gr g.prev v) i ∧ gi (gr g.prev v) i < n
theorem mp (g : Gm) (v u : Int) (h0 : 0 ≤ v) (h1 : v < g.pick.length) : aq Try.prog 156 [gmA g,.c (.int .i64 v),.c (.int .i64 u)] [] (fun _=>.c (.bool (edg g v u))):=by
 (refine bh aG Try.func156 rfl rfl (by kernel_rfl) fun hp0 ν hX hN=>?_;simp only [cx,Nat.reduceAdd])
 (repeat' (first|(with_reducible first|(apply hK;clear hK K)|refine stZ ?_|refine aM rfl ?_|((first|apply ae|apply af);clear ae X af Y))|(with_reducible refine aP ?_;first|refine aN rfl ?_|refine aO rfl ?_)|(with_reducible refine be ?_;first|refine aK rfl rfl rfl rfl ?_|refine bc rfl rfl rfl ?_|refine bp rfl rfl rfl rfl ?_)|((first|(with_reducible first|((first|refine aS ?_|refine aT ?_);intro K hK)|(refine az ?_;intro X Y ae af)|refine aA ?_)|(with_reducible refine be ?_;refine aL rfl rfl fun X Y ae af=>?_));simp (disch:=first|decide|omega|(simp only [List.length_cons,List.length_nil];omega)) only [go_sem,↓am hN,ao hN,reduceIte,reduceCtorEq,Nat.reduceAdd,Nat.reduceLT,Nat.reduceLeDiff,Nat.reduceEqDiff,Nat.reduceSub])|(with_reducible refine And.intro (fun h=>?_) (fun h=>?_) <;> try (exfalso;omega))|(with_reducible refine aR aG hN ?_)|(with_reducible refine And.intro ?_ ?_)|(refine ak ?_;omega)|(exact aQ hN (by decide))))
 all_goals (refine dd (.inr rfl) (by first|rfl|(simp (disch:=first|decide|omega|(simp only [List.length_cons,List.length_nil];omega)) only [bK,bS,bV,bY,go_sem,beq_self_eq_true,↓au,↓am hN,ao hN,reduceIte,reduceCtorEq,Nat.reduceAdd,Nat.reduceLT,Nat.reduceLeDiff,Nat.reduceEqDiff,Nat.reduceSub];rfl)) ?_)
 all_goals simp [*,edg]
def fc (g : Gm) (inn : List Bool) (v : Int) : Nat → Nat
 | 0 => 0
 | k + 1 => fc g inn v k + if gb inn (gi (gr g.nxt v.toNat) k).toNat && edg g v (gi (gr g.nxt v.toNat) k) then 1 else 0
def deg (g : Gm) (inn : List Bool) (v : Int) : Nat:=fc g inn v (gr g.nxt v.toNat).length
theorem mq (g : Gm) (inn : List Bool) (v : Int) (k : Nat) : fc g inn v k ≤ k:=by
 induction k with
 | zero => exact Nat.le_refl _
 | succ k ih => simp only [fc]; split <;> omega
theorem nB (g : Gm) (n : Nat) (hg : GmOk g n) (inn : List Bool) (hi : inn.length = n) (v : Int) (h0 : 0 ≤ v) (h1 : v < n) : aq Try.prog 155 [gmA g,.c (.B inn),.c (.int .i64 v)] [] (fun _=>.c (.int .i64 (deg g inn v))):=by
 obtain ⟨hl,hx⟩:=hg.nx v.toNat (by omega)
 have e1:=hg.nxt
 have e2:=hg.pick
 have e3:=hg.le
 (refine bh aG Try.func155 rfl rfl (by kernel_rfl) fun hp0 ν hX hN=>?_;simp only [cx,Nat.reduceAdd])
 (repeat' (first|(with_reducible first|(apply hK;clear hK K)|refine stZ ?_|refine aM rfl ?_|((first|apply ae|apply af);clear ae X af Y))|(with_reducible refine aP ?_;first|refine aN rfl ?_|refine aO rfl ?_)|(with_reducible refine be ?_;first|refine aK rfl rfl rfl rfl ?_|refine bc rfl rfl rfl ?_|refine bp rfl rfl rfl rfl ?_)|((first|(with_reducible first|((first|refine aS ?_|refine aT ?_);intro K hK)|(refine az ?_;intro X Y ae af)|refine aA ?_)|(with_reducible refine be ?_;refine aL rfl rfl fun X Y ae af=>?_));simp (disch:=first|decide|omega|(simp only [List.length_cons,List.length_nil];omega)) only [go_sem,↓am hN,ao hN,reduceIte,reduceCtorEq,Nat.reduceAdd,Nat.reduceLT,Nat.reduceLeDiff,Nat.reduceEqDiff,Nat.reduceSub])|(with_reducible refine And.intro (fun h=>?_) (fun h=>?_) <;> try (exfalso;omega))|(with_reducible refine aR aG hN ?_)|(with_reducible refine And.intro ?_ ?_)|(refine ak ?_;omega)|(exact aQ hN (by decide))))
 (refine cj (fun (k : Nat)=>(tmL [(8,.c (.int .i64 k)),(7,.c (.int .i64 (fc g inn v k))),(3,.ad (ν 0) 0),(1,.c (.B inn)),(2,.c (.int .i64 v))],hpL hp0 ν [.box [.c (.I g.own),.c (.I g.prio),.c (.R g.nxt),.c (.R g.prev),.c (.I g.pick)]])) (fun (k : Nat)=>k ≤ (gr g.nxt v.toNat).length) (fun (k : Nat)=>(gr g.nxt v.toNat).length - k) ⟨0,?_,bA hX hN [] ?_ ?_⟩ ?_;(repeat' (first|(with_reducible first|exact clZ|refine bB ?_ ?_|refine bC ?_ ?_|rfl|refine suZ ?_)|refine bD rfl ?_ ?_|exact aX hN _ rfl rfl rfl|exact aY hN _ rfl rfl rfl|exact aC hN _ rfl rfl rfl (Or.inr rfl)|(refine aU hN _ rfl rfl (by first|exact Or.inr rfl|exact Or.inl rfl) ?_;first|exact aZ _|exact a8 _)|refine aD hN rfl ?_|refine aE hN rfl rfl ?_|exact aB hN _ rfl rfl|exact aF hN rfl rfl rfl rfl|(with_reducible first|refine stZ ?_|refine aW ?_)));(try (any_goals (first|(with_reducible rfl)|(refine ak ?_;omega)))))
 · rfl
 intro k hk
 have hx:=hx k
 have hd:=mq g inn v k
 (repeat' (first|(with_reducible first|(apply hK;clear hK K)|refine stZ ?_|refine aM rfl ?_|((first|apply ae|apply af);clear ae X af Y))|(with_reducible refine aP ?_;first|refine aN rfl ?_|refine aO rfl ?_)|(with_reducible refine be ?_;first|refine aK rfl rfl rfl rfl ?_|refine bc rfl rfl rfl ?_|refine bp rfl rfl rfl rfl ?_)|((first|(with_reducible first|((first|refine aS ?_|refine aT ?_);intro K hK)|(refine az ?_;intro X Y ae af)|refine aA ?_)|(with_reducible refine be ?_;refine aL rfl rfl fun X Y ae af=>?_));simp (disch:=first|decide|omega|(simp only [List.length_cons,List.length_nil];omega)) only [go_sem,↓am hN,ao hN,reduceIte,reduceCtorEq,Nat.reduceAdd,Nat.reduceLT,Nat.reduceLeDiff,Nat.reduceEqDiff,Nat.reduceSub])|(with_reducible refine And.intro (fun h=>?_) (fun h=>?_) <;> try (exfalso;omega))|(with_reducible refine aR aG hN ?_)|(refine bE (mp g v ?_ h0 (by omega)) ?_ rfl (fun _=>rfl) ?_)|(with_reducible first|exact aV|refine aJ ?_ ?_|exact cF _|refine bv ?_|exact bz _|exact bR _ _|refine bQ ?_|exact bt _)|exact bw hN rfl rfl|(refine bP hN rfl ?_;first|exact aZ _|exact a8 _)|exact bu rfl rfl rfl|(simp only [ba,List.map_nil])|(with_reducible refine bo ?_)|(with_reducible refine And.intro ?_ ?_)|(refine ak ?_;omega)|(exact aQ hN (by decide))))
 · (refine ⟨k + 1,⟨?_,?_⟩,bA hX hN [] ?_ ?_⟩;(try any_goals dsimp only);(repeat' (first|(with_reducible first|exact clZ|refine bB ?_ ?_|refine bC ?_ ?_|rfl|refine suZ ?_)|refine bD rfl ?_ ?_|exact aX hN _ rfl rfl rfl|exact aY hN _ rfl rfl rfl|exact aC hN _ rfl rfl rfl (Or.inr rfl)|(refine aU hN _ rfl rfl (by first|exact Or.inr rfl|exact Or.inl rfl) ?_;first|exact aZ _|exact a8 _)|refine aD hN rfl ?_|refine aE hN rfl rfl ?_|exact aB hN _ rfl rfl|exact aF hN rfl rfl rfl rfl|(with_reducible first|refine stZ ?_|refine aW ?_)));(try (any_goals (first|(with_reducible rfl)|(refine ak ?_;omega)))))
   simp [fc, *]
 · (refine ⟨k + 1,⟨?_,?_⟩,bA hX hN [] ?_ ?_⟩;(try any_goals dsimp only);(repeat' (first|(with_reducible first|exact clZ|refine bB ?_ ?_|refine bC ?_ ?_|rfl|refine suZ ?_)|refine bD rfl ?_ ?_|exact aX hN _ rfl rfl rfl|exact aY hN _ rfl rfl rfl|exact aC hN _ rfl rfl rfl (Or.inr rfl)|(refine aU hN _ rfl rfl (by first|exact Or.inr rfl|exact Or.inl rfl) ?_;first|exact aZ _|exact a8 _)|refine aD hN rfl ?_|refine aE hN rfl rfl ?_|exact aB hN _ rfl rfl|exact aF hN rfl rfl rfl rfl|(with_reducible first|refine stZ ?_|refine aW ?_)));(try (any_goals (first|(with_reducible rfl)|(refine ak ?_;omega)))))
   simp [fc, *]
 · (refine ⟨k + 1,⟨?_,?_⟩,bA hX hN [] ?_ ?_⟩;(try any_goals dsimp only);(repeat' (first|(with_reducible first|exact clZ|refine bB ?_ ?_|refine bC ?_ ?_|rfl|refine suZ ?_)|refine bD rfl ?_ ?_|exact aX hN _ rfl rfl rfl|exact aY hN _ rfl rfl rfl|exact aC hN _ rfl rfl rfl (Or.inr rfl)|(refine aU hN _ rfl rfl (by first|exact Or.inr rfl|exact Or.inl rfl) ?_;first|exact aZ _|exact a8 _)|refine aD hN rfl ?_|refine aE hN rfl rfl ?_|exact aB hN _ rfl rfl|exact aF hN rfl rfl rfl rfl|(with_reducible first|refine stZ ?_|refine aW ?_)));(try (any_goals (first|(with_reducible rfl)|(refine ak ?_;omega)))))
   simp [fc, *]
 · (refine dd (.inr rfl) (by first|rfl|(simp (disch:=first|decide|omega|(simp only [List.length_cons,List.length_nil];omega)) only [bK,bS,bV,bY,go_sem,beq_self_eq_true,↓au,↓am hN,ao hN,reduceIte,reduceCtorEq,Nat.reduceAdd,Nat.reduceLT,Nat.reduceLeDiff,Nat.reduceEqDiff,Nat.reduceSub];rfl)) ?_)
   have e : k = (gr g.nxt v.toNat).length:=by omega
   rw [e];rfl
end Go.Proofs.Ytiadchinhofieaa
namespace Go.Proofs.Ytiadchinhofieaa
set_option linter.unusedVariables false
set_option linter.unusedSimpArgs false
open Go.RowKit
end Go.Proofs.Ytiadchinhofieaa
namespace Go.Proofs.Ytiadchinhofieaa
set_option linter.unusedVariables false
set_option linter.unusedSimpArgs false
open Go.RowKit
attribute [local irreducible] aq ci Aw Le
theorem sE {φ : Nat → Loc} {hp : Hp} {w : World} {a : AV} {vs : List Value} (h : AVs φ hp w [a] vs) : ∃ v,vs = [v] ∧ AVC φ hp w a v:=by
 match vs,h with
 | [v], .cons h .nil => exact ⟨v, rfl, h⟩
theorem uv {φ : Nat → Loc} {hp : Hp} {w : World} {a b : AV} {vs : List Value} (h : AVs φ hp w [a,b] vs) : ∃ v u,vs = [v,u] ∧ AVC φ hp w a v ∧ AVC φ hp w b u:=by
 match vs,h with
 | [v, u], .cons h (.cons k .nil) => exact ⟨v, u, rfl, h, k⟩
theorem xq {φ : Nat → Loc} {hp : Hp} {w : World} {a b c : AV} {vs : List Value} (h : AVs φ hp w [a,b,c] vs) : ∃ v u x,vs = [v,u,x] ∧ AVC φ hp w a v ∧ AVC φ hp w b u ∧ AVC φ hp w c x:=by
 match vs,h with
 | [v, u, x], .cons h (.cons k (.cons l .nil)) => exact ⟨v, u, x, rfl, h, k, l⟩
theorem qO (x lo hi : Int) : aq Try.prog 99 [.c (.int .i64 x),.c (.int .i64 lo),.c (.int .i64 hi)] [] (fun _=>.c (.bool (tf (lo ≤ x ∧ x ≤ hi)))) :=
 fC Try.func99 rfl rfl (u:=.bool _) (fun O w=>.bool _) fun φ hp w vs h=>by
  obtain ⟨a,b,c,rfl,h1,h2,h3⟩:=xq h
  obtain rfl:=cH h1
  obtain rfl:=cH h2
  obtain rfl:=cH h3
  exact (lQ x lo hi w).mono fun e w' ⟨he,hw⟩=>⟨he,by rw [← hw];exact Below.refl _ _⟩
theorem jH (g : Pa) : aq Try.prog 61 [paA g] [] (fun _=>.c (.bool (tf (PaOk g)))) :=
 fC Try.func61 rfl rfl (u:=.bool _) (fun O w=>.bool _) fun φ hp w vs h=>by
  obtain ⟨a,rfl,h1⟩:=sE h
  exact tA a g w (nz h1)
theorem gc (g : Pa) : aq Try.prog 59 [paA g] [] (fun _=>.c (.bool (tf (PaOk g)))) :=
 fC Try.func59 rfl rfl (u:=.bool _) (fun O w=>.bool _) fun φ hp w vs h=>by
  obtain ⟨a,rfl,h1⟩:=sE h
  exact (tB a g w (nz h1)).mono fun e w' h=>h
theorem og (a : Ar) : aq Try.prog 77 [arA a] [] (fun _=>.c (.bool (tf (ArOk a)))) :=
 fC Try.func77 rfl rfl (u:=.bool _) (fun O w=>.bool _) fun φ hp w vs h=>by
  obtain ⟨v,rfl,h1⟩:=sE h
  exact (kV v a w (wj h1)).mono fun e w' h=>h
theorem yN (xs : List Int) (m : Int) (h0 : 0 ≤ m) (h1 : m ≤ 1048576) : aq Try.prog 120 [.c (.I xs),.c (.int .i64 m)] [] (fun _=>.c (.bool (tf (cS xs m)))) :=
 fC Try.func120 rfl rfl (u:=.bool _) (fun O w=>.bool _) fun φ hp w vs h=>by
  obtain ⟨a,b,rfl,h1,h2⟩:=uv h
  obtain rfl:=cH h2
  obtain ⟨sa,n,c,rfl,hI⟩:=ny (du h1)
  exact (ke sa n c xs m w hI h0 (by omega)).mono fun e w' h=>h.bb
theorem yO (xs : List Int) (m : Int) : aq Try.prog 98 [.c (.I xs),.c (.int .i64 m)] [] (fun _=>.c (.bool (tf ((0 ≤ m ∧ m ≤ 256) ∧ cS xs m)))):=by
 by_cases hm : 0 ≤ m ∧ m ≤ 256
 · rw [show tf ((0 ≤ m ∧ m ≤ 256) ∧ cS xs m) = tf (cS xs m) from eg ⟨fun h=>h.2,fun h=>⟨hm,h⟩⟩]
   obtain ⟨m0,m1⟩:=hm
   (refine bh aG Try.func98 rfl rfl (by kernel_rfl) fun hp0 ν hX hN=>?_;simp only [cx,Nat.reduceAdd])
   (repeat' (first|(with_reducible first|(apply hK;clear hK K)|refine stZ ?_|refine aM rfl ?_|((first|apply ae|apply af);clear ae X af Y))|(with_reducible refine aP ?_;first|refine aN rfl ?_|refine aO rfl ?_)|(with_reducible refine be ?_;first|refine aK rfl rfl rfl rfl ?_|refine bc rfl rfl rfl ?_|refine bp rfl rfl rfl rfl ?_)|((first|(with_reducible first|((first|refine aS ?_|refine aT ?_);intro K hK)|(refine az ?_;intro X Y ae af)|refine aA ?_)|(with_reducible refine be ?_;refine aL rfl rfl fun X Y ae af=>?_));simp (disch:=first|decide|omega|(simp only [List.length_cons,List.length_nil];omega)) only [go_sem,↓am hN,ao hN,reduceIte,reduceCtorEq,Nat.reduceAdd,Nat.reduceLT,Nat.reduceLeDiff,Nat.reduceEqDiff,Nat.reduceSub])|(with_reducible refine And.intro (fun h=>?_) (fun h=>?_) <;> try (exfalso;omega))|(with_reducible refine aR aG hN ?_)|(refine bE (qO ?_ ?_ ?_) ?_ rfl (fun _=>rfl) ?_)|(refine bE (yN xs m m0 (by omega)) ?_ rfl (fun _=>rfl) ?_)|(with_reducible first|exact aV|refine aJ ?_ ?_|exact cF _|refine bv ?_|exact bz _|exact bR _ _|refine bQ ?_|exact bt _)|exact bw hN rfl rfl|(refine bP hN rfl ?_;first|exact aZ _|exact a8 _)|exact bu rfl rfl rfl|(simp only [ba,List.map_nil])|(with_reducible refine bo ?_)|(with_reducible refine And.intro ?_ ?_)|(refine ak ?_;omega)|(exact aQ hN (by decide))))
   all_goals (refine dd (.inr rfl) (by first|rfl|(simp (disch:=first|decide|omega|(simp only [List.length_cons,List.length_nil];omega)) only [bK,bS,bV,bY,go_sem,beq_self_eq_true,↓au,↓am hN,ao hN,reduceIte,reduceCtorEq,Nat.reduceAdd,Nat.reduceLT,Nat.reduceLeDiff,Nat.reduceEqDiff,Nat.reduceSub];rfl)) ?_)
   all_goals rfl
 · rw [ax (fun h=>hm h.1)]
   (refine bh aG Try.func98 rfl rfl (by kernel_rfl) fun hp0 ν hX hN=>?_;simp only [cx,Nat.reduceAdd])
   (repeat' (first|(with_reducible first|(apply hK;clear hK K)|refine stZ ?_|refine aM rfl ?_|((first|apply ae|apply af);clear ae X af Y))|(with_reducible refine aP ?_;first|refine aN rfl ?_|refine aO rfl ?_)|(with_reducible refine be ?_;first|refine aK rfl rfl rfl rfl ?_|refine bc rfl rfl rfl ?_|refine bp rfl rfl rfl rfl ?_)|((first|(with_reducible first|((first|refine aS ?_|refine aT ?_);intro K hK)|(refine az ?_;intro X Y ae af)|refine aA ?_)|(with_reducible refine be ?_;refine aL rfl rfl fun X Y ae af=>?_));simp (disch:=first|decide|omega|(simp only [List.length_cons,List.length_nil];omega)) only [go_sem,↓am hN,ao hN,reduceIte,reduceCtorEq,Nat.reduceAdd,Nat.reduceLT,Nat.reduceLeDiff,Nat.reduceEqDiff,Nat.reduceSub])|(with_reducible refine And.intro (fun h=>?_) (fun h=>?_) <;> try (exfalso;omega))|(with_reducible refine aR aG hN ?_)|(refine bE (qO ?_ ?_ ?_) ?_ rfl (fun _=>rfl) ?_)|(with_reducible first|exact aV|refine aJ ?_ ?_|exact cF _|refine bv ?_|exact bz _|exact bR _ _|refine bQ ?_|exact bt _)|exact bw hN rfl rfl|(refine bP hN rfl ?_;first|exact aZ _|exact a8 _)|exact bu rfl rfl rfl|(simp only [ba,List.map_nil])|(with_reducible refine bo ?_)|(with_reducible refine And.intro ?_ ?_)|(refine ak ?_;omega)|(exact aQ hN (by decide))))
   all_goals (refine dd (.inr rfl) (by first|rfl|(simp (disch:=first|decide|omega|(simp only [List.length_cons,List.length_nil];omega)) only [bK,bS,bV,bY,go_sem,beq_self_eq_true,↓au,↓am hN,ao hN,reduceIte,reduceCtorEq,Nat.reduceAdd,Nat.reduceLT,Nat.reduceLeDiff,Nat.reduceEqDiff,Nat.reduceSub];rfl)) ?_)
   all_goals first|rfl|(exfalso;omega)
theorem qP (a : Ar) : aq Try.prog 104 [arA a] [] (fun _=>.c (.int .i64 a.own.length)):=by
 (refine bh aG Try.func104 rfl rfl (by kernel_rfl) fun hp0 ν hX hN=>?_;simp only [cx,Nat.reduceAdd])
 (repeat' (first|(with_reducible first|(apply hK;clear hK K)|refine stZ ?_|refine aM rfl ?_|((first|apply ae|apply af);clear ae X af Y))|(with_reducible refine aP ?_;first|refine aN rfl ?_|refine aO rfl ?_)|((with_reducible first|((first|refine aS ?_|refine aT ?_);intro K hK)|(refine az ?_;intro X Y ae af)|refine aA ?_);simp (disch:=first|decide|omega|(simp only [List.length_cons,List.length_nil];omega)) only [go_sem,↓am hN,ao hN,reduceIte,reduceCtorEq,Nat.reduceAdd,Nat.reduceLT,Nat.reduceLeDiff,Nat.reduceEqDiff,Nat.reduceSub])|(with_reducible refine And.intro (fun h=>?_) (fun h=>?_) <;> try (exfalso;omega))|(with_reducible refine aR aG hN ?_)|(with_reducible refine And.intro ?_ ?_)|(refine ak ?_;omega)|(exact aQ hN (by decide))))
 (refine dd (.inr rfl) (by first|rfl|(simp (disch:=first|decide|omega|(simp only [List.length_cons,List.length_nil];omega)) only [bK,bS,bV,bY,go_sem,beq_self_eq_true,↓au,↓am hN,ao hN,reduceIte,reduceCtorEq,Nat.reduceAdd,Nat.reduceLT,Nat.reduceLeDiff,Nat.reduceEqDiff,Nat.reduceSub];rfl)) ?_)
 rfl
theorem oh (a : Ar) (x : Int) : aq Try.prog 62 [arA a,.c (.int .i64 x)] [] (fun _=>.c (.bool (tf (iM a.own.length x)))):=by
 (refine bh aG Try.func62 rfl rfl (by kernel_rfl) fun hp0 ν hX hN=>?_;simp only [cx,Nat.reduceAdd])
 (repeat' (first|(with_reducible first|(apply hK;clear hK K)|refine stZ ?_|refine aM rfl ?_|((first|apply ae|apply af);clear ae X af Y))|(with_reducible refine aP ?_;first|refine aN rfl ?_|refine aO rfl ?_)|(with_reducible refine be ?_;first|refine aK rfl rfl rfl rfl ?_|refine bc rfl rfl rfl ?_|refine bp rfl rfl rfl rfl ?_)|((first|(with_reducible first|((first|refine aS ?_|refine aT ?_);intro K hK)|(refine az ?_;intro X Y ae af)|refine aA ?_)|(with_reducible refine be ?_;refine aL rfl rfl fun X Y ae af=>?_));simp (disch:=first|decide|omega|(simp only [List.length_cons,List.length_nil];omega)) only [go_sem,↓am hN,ao hN,reduceIte,reduceCtorEq,Nat.reduceAdd,Nat.reduceLT,Nat.reduceLeDiff,Nat.reduceEqDiff,Nat.reduceSub])|(with_reducible refine And.intro (fun h=>?_) (fun h=>?_) <;> try (exfalso;omega))|(with_reducible refine aR aG hN ?_)|(refine bE (qP ?_) ?_ rfl (fun _=>rfl) ?_)|(with_reducible first|exact aV|refine aJ ?_ ?_|exact cF _|refine bv ?_|exact bz _|exact bR _ _|refine bQ ?_|exact bt _)|exact bw hN rfl rfl|(refine bP hN rfl ?_;first|exact aZ _|exact a8 _)|exact bu rfl rfl rfl|(simp only [ba,List.map_nil])|(with_reducible refine bo ?_)|(with_reducible refine And.intro ?_ ?_)|(refine ak ?_;omega)|(exact aQ hN (by decide))))
 all_goals (refine dd (.inr rfl) (by first|rfl|(simp (disch:=first|decide|omega|(simp only [List.length_cons,List.length_nil];omega)) only [bK,bS,bV,bY,go_sem,beq_self_eq_true,↓au,↓am hN,ao hN,reduceIte,reduceCtorEq,Nat.reduceAdd,Nat.reduceLT,Nat.reduceLeDiff,Nat.reduceEqDiff,Nat.reduceSub];rfl)) ?_)
 · exact congrArg C.bool (ur ⟨fun h'=>⟨by omega,by omega⟩,fun h'=>h'.2⟩)
 · exact congrArg C.bool (ax fun h'=>by have:=h'.1;omega).symm
end Go.Proofs.Ytiadchinhofieaa
namespace Go.Proofs.Ytiadchinhofieaa
set_option linter.unusedVariables false
set_option linter.unusedSimpArgs false
open Go.RowKit
attribute [local irreducible] aq ci Aw Le
theorem sF (g : Pa) (xs : List Int) (hB : Bnd xs g.prio.length) : aq Try.prog 168 [paA g,.c (.I xs)] [] (fun _=>.c (.int .i64 (fG g.prio xs xs.length))) :=
 fC Try.func168 rfl rfl (u:=.int .i64 _) (fun O w=>.int _ _) fun φ hp w vs h=>by
  obtain ⟨a,b,rfl,h1,h2⟩:=uv h
  exact rG a b g xs w (nz h1) (ny (du h2)) hB
noncomputable def mkT (n : Nat) (xs : List Int) (k : Nat) : List Bool:=mks n fun v=>∃ j,j < k ∧ gi xs j = v
theorem sG (n : Nat) (xs : List Int) (k : Nat) : (mkT n xs k).length = n:=cC _ _
theorem qQ (n : Nat) (xs : List Int) : mkT n xs 0 = List.replicate n false:=by
 rw [← cT n fun _=>false]
 exact cL fun v hv=>by rw [ax (by rintro ⟨j,h,_⟩;omega)];simp
theorem qR {n : Nat} {xs : List Int} {k : Nat} (h0 : 0 ≤ gi xs k) (h1 : gi xs k < n) : mkT n xs (k + 1) = (mkT n xs k).set (gi xs k).toNat true:=by
 unfold mkT mks
 rw [lL (by omega)]
 refine cL fun v hv=>?_
 by_cases e : v = (gi xs k).toNat
 · rw [if_pos e,aH ⟨k,by omega,by omega⟩]
 · rw [if_neg e]
   refine eg ⟨fun ⟨j,h2,h3⟩=>⟨j,?_,h3⟩,fun ⟨j,h2,h3⟩=>⟨j,by omega,h3⟩⟩
   rcases Nat.lt_or_ge j k with h|h
   · exact h
   · have : j = k:=by omega
     subst this;omega
theorem sH (n : Nat) (xs : List Int) : mkT n xs xs.length = mks n fun v=>(v : Int) ∈ xs:=by
 refine oI fun v hv=>⟨fun ⟨j,h1,h2⟩=>?_,fun h=>?_⟩
 · rw [← h2];exact cE h1
 · obtain ⟨j,h1,h2⟩:=da h;exact ⟨j,h1,h2⟩
theorem qS (a : Ar) (xs : List Int) (hB : Bnd xs a.own.length) (hn : a.own.length ≤ 256) (hx : xs.length ≤ 1048576) : aq Try.prog 149 [arA a,.c (.I xs)] [.arr 4 .yes (.B (mks a.own.length fun v=>(v : Int) ∈ xs))] (fun ns=>.sl (ns.getD 0 0)):=by
 (refine bh aG Try.func149 rfl rfl (by kernel_rfl) fun hp0 ν hX hN=>?_;simp only [cx,Nat.reduceAdd])
 (repeat' (first|(with_reducible first|(apply hK;clear hK K)|refine stZ ?_|refine aM rfl ?_|((first|apply ae|apply af);clear ae X af Y))|(with_reducible refine aP ?_;first|refine aN rfl ?_|refine aO rfl ?_)|((with_reducible first|((first|refine aS ?_|refine aT ?_);intro K hK)|(refine az ?_;intro X Y ae af)|refine aA ?_);simp (disch:=first|decide|omega|(simp only [List.length_cons,List.length_nil];omega)) only [go_sem,↓am hN,ao hN,reduceIte,reduceCtorEq,Nat.reduceAdd,Nat.reduceLT,Nat.reduceLeDiff,Nat.reduceEqDiff,Nat.reduceSub])|(with_reducible refine And.intro (fun h=>?_) (fun h=>?_) <;> try (exfalso;omega))|(with_reducible refine aR aG hN ?_)|(with_reducible refine And.intro ?_ ?_)|(refine ak ?_;omega)|(exact aQ hN (by decide))))
 (refine cj (fun (k : Nat)=>(tmL [(14,.c (.int .i64 k)),(13,.c (.int .i64 xs.length)),(12,.c (.I xs)),(5,.sl (ν 1))],hpL hp0 ν [.dead,.arr 4 .yes (.B (mkT a.own.length xs k))])) (fun (k : Nat)=>k ≤ xs.length) (fun (k : Nat)=>xs.length - k) ⟨0,?_,bA hX hN [] ?_ ?_⟩ ?_;(repeat' (first|(with_reducible first|exact clZ|refine bB ?_ ?_|refine bC ?_ ?_|rfl|refine suZ ?_)|refine bD rfl ?_ ?_|exact aX hN _ rfl rfl rfl|exact aY hN _ rfl rfl rfl|exact aC hN _ rfl rfl rfl (Or.inr rfl)|(refine aU hN _ rfl rfl (by first|exact Or.inr rfl|exact Or.inl rfl) ?_;first|exact aZ _|exact a8 _)|refine aD hN rfl ?_|refine aE hN rfl rfl ?_|exact aB hN _ rfl rfl|exact aF hN rfl rfl rfl rfl|(with_reducible first|refine stZ ?_|refine aW ?_)));(try (any_goals (first|(with_reducible rfl)|(refine ak ?_;omega)))))
 · exact qQ _ _
 intro k hk
 have hb:=hB k
 have hl:=sG a.own.length xs k
 (repeat' (first|(with_reducible first|(apply hK;clear hK K)|refine stZ ?_|refine aM rfl ?_|((first|apply ae|apply af);clear ae X af Y))|(with_reducible refine aP ?_;first|refine aN rfl ?_|refine aO rfl ?_)|((with_reducible first|((first|refine aS ?_|refine aT ?_);intro K hK)|(refine az ?_;intro X Y ae af)|refine aA ?_);simp (disch:=first|decide|omega|(simp only [List.length_cons,List.length_nil];omega)) only [go_sem,↓am hN,ao hN,reduceIte,reduceCtorEq,Nat.reduceAdd,Nat.reduceLT,Nat.reduceLeDiff,Nat.reduceEqDiff,Nat.reduceSub])|(with_reducible refine And.intro (fun h=>?_) (fun h=>?_) <;> try (exfalso;omega))|(with_reducible refine aR aG hN ?_)|(with_reducible refine And.intro ?_ ?_)|(refine ak ?_;omega)|(exact aQ hN (by decide))))
 · (refine ⟨k + 1,⟨?_,?_⟩,bA hX hN [] ?_ ?_⟩;(try any_goals dsimp only);(repeat' (first|(with_reducible first|exact clZ|refine bB ?_ ?_|refine bC ?_ ?_|rfl|refine suZ ?_)|refine bD rfl ?_ ?_|exact aX hN _ rfl rfl rfl|exact aY hN _ rfl rfl rfl|exact aC hN _ rfl rfl rfl (Or.inr rfl)|(refine aU hN _ rfl rfl (by first|exact Or.inr rfl|exact Or.inl rfl) ?_;first|exact aZ _|exact a8 _)|refine aD hN rfl ?_|refine aE hN rfl rfl ?_|exact aB hN _ rfl rfl|exact aF hN rfl rfl rfl rfl|(with_reducible first|refine stZ ?_|refine aW ?_)));(try (any_goals (first|(with_reducible rfl)|(refine ak ?_;omega)))))
   exact qR (hB k (by omega)).1 (hB k (by omega)).2
 · (refine dw hN (i:=1) (.inr rfl) (by first|rfl|(simp (disch:=first|decide|omega|(simp only [List.length_cons,List.length_nil];omega)) only [bK,bS,bV,bY,go_sem,beq_self_eq_true,↓au,↓am hN,ao hN,reduceIte,reduceCtorEq,Nat.reduceAdd,Nat.reduceLT,Nat.reduceLeDiff,Nat.reduceEqDiff,Nat.reduceSub];rfl)) rfl ?_ rfl)
   rw [show k = xs.length by omega,sH]
end Go.Proofs.Ytiadchinhofieaa
namespace Go.Proofs.Ytiadchinhofieaa
set_option linter.unusedVariables false
set_option linter.unusedSimpArgs false
open Go.RowKit
def nC (a : Ar) (xs : List Int) : Prop:=cS xs a.own.length ∧ ∀ k,k < xs.length → ∃ i,i < (gr a.nxt (gi xs k).toNat).length ∧ gi (gr a.nxt (gi xs k).toNat) i ∈ xs
end Go.Proofs.Ytiadchinhofieaa
namespace Go.Proofs.Ytiadchinhofieaa
set_option linter.unusedVariables false
set_option linter.unusedSimpArgs false
open Go.RowKit
theorem mr {row : List Int} {v u : Nat} {x : Int} : ∀ {k : Nat},x ∈ bW row v u k ↔ x = v ∧ ∃ i,i < k ∧ (gi row i).toNat = u:=by
 intro k
 induction k with
 | zero => simp [bW]
 | succ k ih =>
   unfold bW
   rw [List.mem_append,ih]
   constructor
   · rintro (⟨h1,i,h2,h3⟩|h)
     · exact ⟨h1,i,by omega,h3⟩
     · split at h
       · rename_i hu;simp at h;exact ⟨h,k,by omega,hu⟩
       · simp at h
   · rintro ⟨h1,i,h2,h3⟩
     rcases Nat.lt_or_ge i k with h|h
     · exact .inl ⟨h1,i,h,h3⟩
     · have : i = k:=by omega
       subst this
       rw [if_pos h3];exact .inr (by simp [h1])
theorem fD {nxt : List (List Int)} {u : Nat} {x : Int} : ∀ {k : Nat},x ∈ bG nxt u k ↔ ∃ v,v < k ∧ x = (v : Int) ∧ ∃ i,i < (gr nxt v).length ∧ (gi (gr nxt v) i).toNat = u:=by
 intro k
 induction k with
 | zero => simp [bG]
 | succ k ih =>
   unfold bG
   rw [List.mem_append,ih,mr]
   constructor
   · rintro (⟨v,h1,h2⟩|⟨h1,h2⟩)
     · exact ⟨v,by omega,h2⟩
     · exact ⟨k,by omega,h1,h2⟩
   · rintro ⟨v,h1,h2⟩
     rcases Nat.lt_or_ge v k with h|h
     · exact .inl ⟨v,h,h2⟩
     · have : v = k:=by omega
       subst this;exact .inr h2
theorem qT {xs : List Int} {m : Int} (h : cS xs m) : ∀ {t s : Nat},s < t → t < xs.length → gi xs s < gi xs t:=by
 intro t
 induction t with
 | zero => intro s h1; omega
 | succ t ih =>
   intro s h1 h2
   have:=(h (t + 1) h2).2.2 (by omega)
   simp only [Nat.add_sub_cancel] at this
   rcases Nat.lt_or_ge s t with h3|h3
   · have:=ih h3 (by omega);omega
   · have : s = t:=by omega
     subst this;omega
theorem ms {xs : List Int} {m : Int} (h : cS xs m) {s t : Nat} (hs : s < xs.length) (ht : t < xs.length) (e : gi xs s = gi xs t) : s = t:=by
 rcases Nat.lt_trichotomy s t with h'|h'|h'
 · have:=qT h h' ht;omega
 · exact h'
 · have:=qT h h' hs;omega
theorem g6 {xs : List Int} (h : xs.Nodup) {s t : Nat} (hs : s < xs.length) (ht : t < xs.length) (e : gi xs s = gi xs t) : s = t:=by
 rw [c9 hs,c9 ht] at e
 exact (List.getElem_inj (h₀:=hs) (h₁:=ht) h).1 e
theorem j4 {row : List Int} {m : Int} (h : cS row m) (v u : Nat) : ∀ i,i ≤ row.length → (bW row v u i = [] ∨ (bW row v u i = [(v : Int)] ∧ ∃ j,j < i ∧ (gi row j).toNat = u)):=by
 intro i
 induction i with
 | zero => intro _; exact .inl rfl
 | succ i ih =>
   intro hi
   unfold bW
   by_cases e : (gi row i).toNat = u
   · rw [if_pos e]
     rcases ih (by omega) with h1|⟨_,j,h1,h2⟩
     · rw [h1];exact .inr ⟨rfl,i,by omega,e⟩
     · have a:=(h j (by omega)).1
       have b:=(h i (by omega)).1
       have:=ms h (s:=j) (t:=i) (by omega) (by omega) (by omega)
       omega
   · rw [if_neg e,List.append_nil]
     rcases ih (by omega) with h1|⟨h0,j,h1,h2⟩
     · exact .inl h1
     · exact .inr ⟨h0,j,by omega,h2⟩
theorem lx {nxt : List (List Int)} {n : Nat} {m : Int} (h : ∀ v,v < n → cS (gr nxt v) m) (u : Nat) : (bG nxt u n).Nodup:=by
 induction n with
 | zero => exact List.nodup_nil
 | succ n ih =>
   unfold bG
   rcases j4 (h n (by omega)) n u _ (Nat.le_refl _) with e|⟨e,_⟩
   · rw [e,List.append_nil];exact ih fun v hv=>h v (by omega)
   · rw [e,List.nodup_append]
     refine ⟨ih fun v hv=>h v (by omega),by simp,fun x hx y hy=>?_⟩
     obtain ⟨v,h1,h2,_⟩:=fD.1 hx
     simp at hy
     omega
theorem nD {nxt : List (List Int)} {n : Nat} (hv : ∀ v,v < n → ∀ i,i < (gr nxt v).length → 0 ≤ gi (gr nxt v) i ∧ gi (gr nxt v) i < n) (u v : Nat) : (∃ t,t < (bG nxt u n).length ∧ gi (bG nxt u n) t = (v : Int)) ↔ v < n ∧ ∃ t,t < (gr nxt v).length ∧ gi (gr nxt v) t = (u : Int):=by
 constructor
 · rintro ⟨t,h1,h2⟩
   have hm : (v : Int) ∈ bG nxt u n:=by rw [← h2];exact cE h1
   obtain ⟨v',h3,h4,i,h5,h6⟩:=fD.1 hm
   have e : v' = v:=by omega
   subst e
   exact ⟨h3,i,h5,by have:=hv v' h3 i h5;omega⟩
 · rintro ⟨h1,t,h2,h3⟩
   have hm : (v : Int) ∈ bG nxt u n:=fD.2 ⟨v,h1,rfl,t,h2,by omega⟩
   exact da hm
theorem ly {g : Pa} (hg : PaOk g) : GmOk (eS g) g.prio.length:=by
 have h1:=hg.ar.le
 have h2:=hg.len
 have h3:=hg.ar.len
 have hv : ∀ v,v < g.prio.length → (gr g.ar.nxt v).length ≤ 16 ∧ ∀ i,i < (gr g.ar.nxt v).length → 0 ≤ gi (gr g.ar.nxt v) i ∧ gi (gr g.ar.nxt v) i < g.prio.length:=fun v hv=>by
  obtain ⟨_,_,_,a,b⟩:=hg.ar.vert v (by omega)
  exact ⟨a,fun i hi=>by have:=b.bnd i hi;omega⟩
 refine ⟨by omega,h2.symm,rfl,by show g.ar.nxt.length = _;omega,fb _ _,db _ _,fun v hv'=>⟨by have:=(hv v hv').1;show (gr g.ar.nxt v).length ≤ _;omega,(hv v hv').2⟩,fun v s t hv' hs ht e=>ms (hg.ar.vert v (by omega)).2.2.2.2 hs ht e,fun u v hu=>?_,fun u s t hu hs ht e=>?_,fun v hv'=>by have:=hg.ar.vert v (by omega);exact ⟨this.1,this.2.1⟩,fun v hv'=>hg.prio v hv',fun u hu=>?_⟩
 · rw [show gr (eS g).prev u = bG g.ar.nxt u g.prio.length from dL _ hu]
   exact nD (fun v hv' i hi=>(hv v hv').2 i hi) u v
 · rw [show gr (eS g).prev u = bG g.ar.nxt u g.prio.length from dL _ hu] at hs ht e
   exact g6 (lx (fun v hv'=>hg.ar.vert v (by omega) |>.2.2.2.2) u) hs ht e
 have e : gr (eS g).prev u = bG g.ar.nxt u g.prio.length:=dL _ hu
 rw [e]
 refine ⟨?_,fun i hi=>?_⟩
 · have:=gZ (nxt:=g.ar.nxt) (m:=16) u g.prio.length fun j hj=>(hv j hj).1
   have : 16 * g.prio.length ≤ 16 * 256:=Nat.mul_le_mul_left _ (by omega)
   omega
 · obtain ⟨v,k1,k2,_⟩:=fD.1 (cE hi)
   omega
end Go.Proofs.Ytiadchinhofieaa
