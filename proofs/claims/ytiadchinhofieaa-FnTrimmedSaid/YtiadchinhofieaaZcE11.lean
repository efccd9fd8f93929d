/-
  The program's recursive solver.
-/
import Derived.Test.YtiadchinhofieaaZcE10
import Derived.Test.YtiadchinhofieaaZcE9
import Derived.Test.YtiadchinhofieaaZcCe
import Derived.Test.YtiadchinhofieaaZcFc
namespace Go.Proofs.Ytiadchinhofieaa
set_option linter.unusedVariables false
set_option linter.unusedSimpArgs false
open Go.RowKit
attribute [local irreducible] aq ci Aw Le
theorem pm {pr xs ys : List Int} : ∀ {k : Nat},k ≤ xs.length → fG pr (xs ++ ys) k = fG pr xs k:=by
 intro k
 induction k with
 | zero => intro _; rfl
 | succ k ih =>
   intro h
   show max (fG pr (xs ++ ys) k) _ = max (fG pr xs k) _
   rw [ih (by omega)]
   have : gi (xs ++ ys) k = gi xs k:=by simp [gi,List.getD_eq_getElem?_getD,List.getElem?_append_left (show k < xs.length by omega)]
   rw [this]
theorem pn {pr : List Int} {bs : List Bool} : ∀ {k : Nat},fG pr (cO bs k) (cO bs k).length = dh pr bs k:=by
 intro k
 induction k with
 | zero => rfl
 | succ k ih =>
   rw [cO,dh]
   split
   · rw [List.length_append]
     show max (fG pr (cO bs k ++ [(k : Int)]) (cO bs k).length) (gi pr (gi (cO bs k ++ [(k : Int)]) (cO bs k).length).toNat) = _
     rw [pm (Nat.le_refl _),ih,d4]
     rfl
   · rw [List.append_nil];exact ih
def j6 (pr : List Int) (bs : List Bool) (n : Nat) : Int:=if dh pr bs n < 0 then 0 else (dh pr bs n).tmod 2
def ixB (p : Bool) : List Bool → Nat → Int
 | [], _ => -1
 | x :: xs, k => if x = p then k else ixB p xs (k + 1)
theorem sP (p : Bool) (xs : List Bool) (k : Nat) : 0 ≤ ixB p xs k ↔ p ∈ xs:=by
 induction xs generalizing k with
 | nil => simp [ixB]
 | cons x xs ih =>
   simp only [ixB]
   split
   · rename_i h;simp [h]
   · rename_i h
     rw [ih,List.mem_cons]
     exact ⟨.inr,fun h'=>h'.resolve_left fun e=>h e.symm⟩
theorem ot {xs : List Bool} {k : Nat} (h : k < xs.length) : xs.drop k = gb xs k :: xs.drop (k + 1):=by
 rw [List.drop_eq_getElem_cons h]
 refine congrArg (· :: _) ?_
 rw [gb,List.getD_eq_getElem?_getD,List.getElem?_eq_getElem h];rfl
theorem q8 (xs : List Bool) (hl : xs.length ≤ 1048576) (p : Bool) :
  aq Try.prog 177 [.c (.B xs),.c (.bool p)] [] (fun _=>.c (.int .i64 (ixB p xs 0))):=by
 (refine bh aG Try.func177 rfl rfl (by kernel_rfl) fun hp0 ν hX hN=>?_;simp only [cx,Nat.reduceAdd])
 (repeat' (first|(with_reducible first|(apply hK;clear hK K)|refine stZ ?_|refine aM rfl ?_|((first|apply ae|apply af);clear ae X af Y))|(with_reducible refine aP ?_;first|refine aN rfl ?_|refine aO rfl ?_)|((with_reducible first|((first|refine aS ?_|refine aT ?_);intro K hK)|(refine az ?_;intro X Y ae af)|refine aA ?_);simp (disch:=first|decide|omega|(simp only [List.length_cons,List.length_nil];omega)) only [go_sem,↓am hN,ao hN,reduceIte,reduceCtorEq,Nat.reduceAdd,Nat.reduceLT,Nat.reduceLeDiff,Nat.reduceEqDiff,Nat.reduceSub])|(with_reducible refine And.intro (fun h=>?_) (fun h=>?_) <;> try (exfalso;omega))|(with_reducible refine aR aG hN ?_)|(with_reducible refine And.intro ?_ ?_)|(refine ak ?_;omega)|(exact aQ hN (by decide))))
 (refine cj (fun (k : Nat)=>(tmL [(8,.c (.int .i64 k)),(7,.c (.int .i64 xs.length)),(0,.c (.B xs)),(1,.c (.bool p))],hpL hp0 ν [])) (fun (k : Nat)=>k ≤ xs.length ∧ ixB p xs 0 = ixB p (xs.drop k) k) (fun (k : Nat)=>xs.length - k) ⟨0,?_,bA hX hN [] ?_ ?_⟩ ?_;(repeat' (first|(with_reducible first|exact clZ|refine bB ?_ ?_|refine bC ?_ ?_|rfl|refine suZ ?_)|refine bD rfl ?_ ?_|exact aX hN _ rfl rfl rfl|exact aY hN _ rfl rfl rfl|exact aC hN _ rfl rfl rfl (Or.inr rfl)|(refine aU hN _ rfl rfl (by first|exact Or.inr rfl|exact Or.inl rfl) ?_;first|exact aZ _|exact a8 _)|refine aD hN rfl ?_|refine aE hN rfl rfl ?_|exact aB hN _ rfl rfl|exact aF hN rfl rfl rfl rfl|(with_reducible first|refine stZ ?_|refine aW ?_)));(try (any_goals (first|(with_reducible rfl)|(refine ak ?_;omega)))))
 · exact ⟨Nat.zero_le _,rfl⟩
 intro k hk
 obtain ⟨hk,he⟩:=hk
 (repeat' (first|(with_reducible first|(apply hK;clear hK K)|refine stZ ?_|refine aM rfl ?_|((first|apply ae|apply af);clear ae X af Y))|(with_reducible refine aP ?_;first|refine aN rfl ?_|refine aO rfl ?_)|((with_reducible first|((first|refine aS ?_|refine aT ?_);intro K hK)|(refine az ?_;intro X Y ae af)|refine aA ?_);simp (disch:=first|decide|omega|(simp only [List.length_cons,List.length_nil];omega)) only [go_sem,↓am hN,ao hN,reduceIte,reduceCtorEq,Nat.reduceAdd,Nat.reduceLT,Nat.reduceLeDiff,Nat.reduceEqDiff,Nat.reduceSub])|(with_reducible refine And.intro (fun h=>?_) (fun h=>?_) <;> try (exfalso;omega))|(with_reducible refine aR aG hN ?_)|(with_reducible refine And.intro ?_ ?_)|(refine ak ?_;omega)|(exact aQ hN (by decide))))
 · (refine dd (.inr rfl) (by first|rfl|(simp (disch:=first|decide|omega|(simp only [List.length_cons,List.length_nil];omega)) only [bK,bS,bV,bY,go_sem,beq_self_eq_true,↓au,↓am hN,ao hN,reduceIte,reduceCtorEq,Nat.reduceAdd,Nat.reduceLT,Nat.reduceLeDiff,Nat.reduceEqDiff,Nat.reduceSub];rfl)) ?_)
   rw [he,ot (by omega),ixB,if_pos (Eq.symm (by assumption))]
 · (refine ⟨k + 1,⟨?_,?_⟩,bA hX hN [] ?_ ?_⟩;(try any_goals dsimp only);(repeat' (first|(with_reducible first|exact clZ|refine bB ?_ ?_|refine bC ?_ ?_|rfl|refine suZ ?_)|refine bD rfl ?_ ?_|exact aX hN _ rfl rfl rfl|exact aY hN _ rfl rfl rfl|exact aC hN _ rfl rfl rfl (Or.inr rfl)|(refine aU hN _ rfl rfl (by first|exact Or.inr rfl|exact Or.inl rfl) ?_;first|exact aZ _|exact a8 _)|refine aD hN rfl ?_|refine aE hN rfl rfl ?_|exact aB hN _ rfl rfl|exact aF hN rfl rfl rfl rfl|(with_reducible first|refine stZ ?_|refine aW ?_)));(try (any_goals (first|(with_reducible rfl)|(refine ak ?_;omega)))))
   exact ⟨by omega,by rw [he,ot (by omega),ixB,if_neg fun e=>beq_eq_false_iff_ne.1 (show (p == gb xs k) = false by assumption) e.symm]⟩
 · (refine dd (.inr rfl) (by first|rfl|(simp (disch:=first|decide|omega|(simp only [List.length_cons,List.length_nil];omega)) only [bK,bS,bV,bY,go_sem,beq_self_eq_true,↓au,↓am hN,ao hN,reduceIte,reduceCtorEq,Nat.reduceAdd,Nat.reduceLT,Nat.reduceLeDiff,Nat.reduceEqDiff,Nat.reduceSub];rfl)) ?_)
   rw [he,List.drop_eq_nil_of_le (by omega)];rfl
theorem eO (xs : List Bool) (hl : xs.length ≤ 1048576) (p : Bool) :
  aq Try.prog 170 [.c (.B xs),.c (.bool p)] [] (fun _=>.c (.bool (tf (p ∈ xs)))):=by
 (refine bh aG Try.func170 rfl rfl (by kernel_rfl) fun hp0 ν hX hN=>?_;simp only [cx,Nat.reduceAdd])
 (repeat' (first|(with_reducible first|(apply hK;clear hK K)|refine stZ ?_|refine aM rfl ?_|((first|apply ae|apply af);clear ae X af Y))|(with_reducible refine aP ?_;first|refine aN rfl ?_|refine aO rfl ?_)|((with_reducible first|((first|refine aS ?_|refine aT ?_);intro K hK)|(refine az ?_;intro X Y ae af)|refine aA ?_);simp (disch:=first|decide|omega|(simp only [List.length_cons,List.length_nil];omega)) only [go_sem,↓am hN,ao hN,reduceIte,reduceCtorEq,Nat.reduceAdd,Nat.reduceLT,Nat.reduceLeDiff,Nat.reduceEqDiff,Nat.reduceSub])|(with_reducible refine And.intro (fun h=>?_) (fun h=>?_) <;> try (exfalso;omega))|(with_reducible refine aR aG hN ?_)|(refine bE (q8 xs hl p) ?_ rfl (fun _=>rfl) ?_)|(with_reducible first|exact aV|refine aJ ?_ ?_|exact cF _|refine bv ?_|exact bz _|exact bR _ _|refine bQ ?_|exact bt _)|exact bw hN rfl rfl|(refine bP hN rfl ?_;first|exact aZ _|exact a8 _)|exact bu rfl rfl rfl|(simp only [ba,List.map_nil])|(with_reducible refine bo ?_)|(with_reducible refine And.intro ?_ ?_)|(refine ak ?_;omega)|(exact aQ hN (by decide))))
 (refine dd (.inr rfl) (by first|rfl|(simp (disch:=first|decide|omega|(simp only [List.length_cons,List.length_nil];omega)) only [bK,bS,bV,bY,go_sem,beq_self_eq_true,↓au,↓am hN,ao hN,reduceIte,reduceCtorEq,Nat.reduceAdd,Nat.reduceLT,Nat.reduceLeDiff,Nat.reduceEqDiff,Nat.reduceSub];rfl)) ?_)
 have:=sP p xs 0
 rw [← this]
 by_cases h : 0 ≤ ixB p xs 0
 · rw [aH h];simp [h]
 · rw [ax h];simp [h]
theorem g7 {xs : List Bool} : true ∈ xs ↔ ∃ v,gb xs v = true:=by
 constructor
 · intro h
   obtain ⟨i,hi,e⟩:=List.mem_iff_getElem.1 h
   exact ⟨i,by rw [gb,List.getD_eq_getElem?_getD,List.getElem?_eq_getElem hi,← e];rfl⟩
 · rintro ⟨v,h⟩
   have hv:=fg h
   rw [gb,List.getD_eq_getElem?_getD,List.getElem?_eq_getElem hv] at h
   exact List.mem_iff_getElem.2 ⟨v,hv,h⟩
theorem q9 {p q : Nat → Prop} : ∀ {k : Nat},(∀ t,t < k → q t → p t) → num q k ≤ num p k:=by
 intro k
 induction k with
 | zero => intro _; exact Nat.le_refl _
 | succ k ih =>
   intro h
   have:=ih fun t ht=>h t (by omega)
   by_cases hq : q k
   · rw [cD hq,cD (h k (by omega) hq)];omega
   · rw [dr hq]
     by_cases hp : p k
     · rw [cD hp];omega
     · rw [dr hp];exact this
theorem ou (pr : List Int) (bs : List Bool) (n : Nat) : j6 pr bs n = 0 ∨ j6 pr bs n = 1:=by
 rw [j6]
 split
 · exact .inl rfl
 · rename_i h
   have : (dh pr bs n).tmod 2 = dh pr bs n % 2:=Int.tmod_eq_emod_of_nonneg (by omega)
   omega
theorem uB {xs : List Bool} (h : ¬ true ∈ xs) (v : Nat) : gb xs v = false:=by
 cases e : gb xs v
 · rfl
 · exact absurd (g7.2 ⟨v,e⟩) h
theorem my {P : PG.Gm} {n : Nat} (hf : PG.Fin P n) {S : Nat → Prop} (hS : ∀ v,S v → v < n) (ht : PG.Total P S) {i : Int} (hi : i = 0 ∨ i = 1) (v : Nat) : PG.Won P (1 - i) S v ↔ PG.Diff S (PG.Won P i S) v:=by
 refine ⟨fun h=>?_,fun ⟨h,h'⟩=>?_⟩
 · have hv:=PG.won_in h
   refine ⟨hv,?_⟩
   rcases hi with rfl|rfl
   · exact (PG.won_not hf hS ht hv).1 h
   · exact fun h1=>(PG.won_not hf hS ht hv).1 h1 h
 · rcases hi with rfl|rfl
   · exact (PG.won_not hf hS ht h).2 h'
   · exact Classical.byContradiction fun h0=>h' ((PG.won_not hf hS ht h).2 h0)
section
variable {P : PG.Gm} {n : Nat} {now : List Bool} {top who : Int} {T R : Nat → Prop} {L aw now2 : List Bool}
theorem ra (hf : PG.Fin P n) (hnl : now.length = n) (hS : ∀ v,gb now v = true → v < n) (ht : PG.Total P fun v=>gb now v = true) (hd : top % 2 = who)
  (hT : ∀ v,gb now v = true → T v → P.prio v = top) (hm : ∀ v,gb now v = true → P.prio v ≤ top)
  (hL : ∀ v,gb L v = true ↔ PG.Won P (1 - who) (PG.Diff (fun v=>gb now v = true) (PG.Attr P who (fun v=>gb now v = true) T)) v)
  (hR : ∀ v,R v ↔ PG.Won P who (fun v=>gb now v = true) v) (hno : ¬ true ∈ L) : now = mks n R:=by
 have hall:=PG.win_all hf hS ht hd hT hm fun v h=>hno (g7.2 ⟨v,(hL v).2 h⟩)
 refine dS hnl fun v hv=>fB ?_
 rw [hR v,hall v]
theorem rb (hf : PG.Fin P n) (hnl : now.length = n) (hS : ∀ v,gb now v = true → v < n) (ht : PG.Total P fun v=>gb now v = true) (hi : who = 0 ∨ who = 1)
  (hL : ∀ v,gb L v = true ↔ PG.Won P (1 - who) (PG.Diff (fun v=>gb now v = true) (PG.Attr P who (fun v=>gb now v = true) T)) v)
  (haw : aw = mks n (PG.Attr P (1 - who) (fun v=>gb now v = true) (fun v=>gb L v = true))) (h2 : now2 = bZ now.length fun i=>gb now i && !gb aw i)
  (hR : ∀ v,R v ↔ PG.Won P who (fun v=>gb now v = true) v) : (∀ v,R v ↔ PG.Won P who (fun v=>gb now2 v = true) v):=by
 intro v
 rw [hR v,(PG.win_some hf hS ht hi hL v).1,iv hnl haw h2]
theorem re (hl : now2.length = n) (hR : ∀ v,R v ↔ PG.Won P who (fun v=>gb now2 v = true) v) (hno : ¬ true ∈ now2) : now2 = mks n R:=by
 refine dS hl fun v hv=>fB ⟨fun h=>?_,fun h=>?_⟩
 · rw [uB hno] at h;cases h
 · exact PG.won_in ((hR v).1 h)
theorem rf (hnl : now.length = n) (hf : PG.Fin P n) (ht : PG.Total P fun v=>gb now v = true) (hS : ∀ v,gb now v = true → v < n)
  (haw : aw = mks n (PG.Attr P (1 - who) (fun v=>gb now v = true) (fun v=>gb L v = true))) (h2 : now2 = bZ now.length fun i=>gb now i && !gb aw i)
  (hL : ∀ v,gb L v = true → gb now v = true) (hmem : true ∈ L) :
  now2.length = n ∧ (∀ v,gb now2 v = true → gb now v = true) ∧ PG.Total P (fun v=>gb now2 v = true) ∧ num (fun v=>gb now2 v = true) n < num (fun v=>gb now v = true) n:=by
 have e:=iv hnl haw h2
 refine ⟨by rw [h2,ce,hnl],fun v h=>((jO hnl haw h2 v).1 h).1,by rw [e];exact PG.total_diff hf ht,?_⟩
 rw [e]
 obtain ⟨v,hv⟩:=g7.1 hmem
 exact jL (fun t _ h=>h.1) ⟨v,hS v (hL v hv),hL v hv,fun h=>h.2 (PG.attr_goal (hL v hv) hv)⟩
end
set_option maxHeartbeats 8000000 in
theorem wn (g : Gm) (n : Nat) (hg : GmOk g n) (hpk : ∀ v,v < n → gi g.pick v < 0) : ∀ (N : Nat) (inn : List Bool),inn.length = n → num (fun v=>gb inn v = true) n < N → PG.Total (bH g n) (fun v=>gb inn v = true) →
  aq Try.prog 150 [soA g,.c (.B inn)] [] (fun _=>.tup [.c (.B (mks n (PG.Won (bH g n) (j6 g.prio inn n) (fun v=>gb inn v = true)))),.c (.int .i64 (j6 g.prio inn n))]):=by
 intro N
 induction N with
 | zero => intro inn _ h; omega
 | succ N ih =>
   intro inn hi hNN ht
   have hle:=hg.le
   have hgp:=hg.prio
   have hS : ∀ v,gb inn v = true → v < n:=fun v h=>by have:=fg h;omega
   have hf : PG.Fin (bH g n) n:=fun v u h=>h.2.1
   have hlb:=iq inn n
   have hBnd : Bnd (cO inn n) (Pa.mk ⟨g.own,g.nxt⟩ g.prio).prio.length:=fun k hk=>by
    obtain ⟨v,h1,h2,h3⟩:=dl.1 (cE hk)
    show 0 ≤ gi (cO inn n) k ∧ gi (cO inn n) k < (g.prio.length : Int)
    rw [h2];omega
   have hlst:=ir inn (by omega)
   rw [hi] at hlst
   have htop:=sF ⟨⟨g.own,g.nxt⟩,g.prio⟩ (cO inn n) hBnd
   rw [pn] at htop
   have hpr0 : ∀ v,gb inn v = true → 0 ≤ gi g.prio v:=fun v h=>(hg.p1 v (hS v h)).1
   (refine bh aG Try.func150 rfl rfl (by kernel_rfl) fun hp0 ν hX hN=>?_;simp only [cx,Nat.reduceAdd])
   (repeat' (first|(with_reducible first|(apply hK;clear hK K)|refine stZ ?_|refine aM rfl ?_|((first|apply ae|apply af);clear ae X af Y))|(with_reducible refine aP ?_;first|refine aN rfl ?_|refine aO rfl ?_)|(with_reducible refine be ?_;first|refine aK rfl rfl rfl rfl ?_|refine bc rfl rfl rfl ?_|refine bp rfl rfl rfl rfl ?_)|((first|(with_reducible first|((first|refine aS ?_|refine aT ?_);intro K hK)|(refine az ?_;intro X Y ae af)|refine aA ?_)|(with_reducible refine be ?_;refine aL rfl rfl fun X Y ae af=>?_));simp (disch:=first|decide|omega|(simp only [List.length_cons,List.length_nil];omega)) only [go_sem,↓am hN,ao hN,reduceIte,reduceCtorEq,Nat.reduceAdd,Nat.reduceLT,Nat.reduceLeDiff,Nat.reduceEqDiff,Nat.reduceSub])|(with_reducible refine And.intro (fun h=>?_) (fun h=>?_) <;> try (exfalso;omega))|(with_reducible refine aR aG hN ?_)|(refine bE (hlst) ?_ rfl (fun _=>rfl) ?_)|(refine bE (htop) ?_ rfl (fun _=>rfl) ?_)|(with_reducible first|exact aV|refine aJ ?_ ?_|exact cF _|refine bv ?_|exact bz _|exact bR _ _|refine bQ ?_|exact bt _)|exact bw hN rfl rfl|(refine bP hN rfl ?_;first|exact aZ _|exact a8 _)|exact bu rfl rfl rfl|(simp only [ba,List.map_nil])|(with_reducible refine bo ?_)|(with_reducible refine And.intro ?_ ?_)|(refine ak ?_;omega)|(exact aQ hN (by decide))))
   · have h0 : (cO inn n).length = 0:=by omega
     rw [gd,ff] at h0
     have htn : dh g.prio inn n < 0:=(jN hpr0).2 fun v hv=>by simpa using h0 v hv
     (refine dC hN [] (by decide) (.inr rfl) (by first|exact b7 rfl rfl|exact bL hN rfl rfl rfl rfl|exact bF hN rfl rfl rfl rfl rfl|(simp (disch:=first|decide|omega|(simp only [List.length_cons,List.length_nil];omega)) only [bK,bS,bV,bY,go_sem,beq_self_eq_true,↓au,↓am hN,ao hN,reduceIte,reduceCtorEq,Nat.reduceAdd,Nat.reduceLT,Nat.reduceLeDiff,Nat.reduceEqDiff,Nat.reduceSub];rfl)|rfl) ?_ fun νs hνs=>?_;(repeat' (first|exact Gone.nil|(refine Gone.cons rfl rfl ?_ ?_)|(with_reducible refine cX ?_)|(with_reducible refine cW ?_)|(with_reducible refine SVs.cons ?_ ?_)|(with_reducible exact SVs.nil)|(simp only [List.drop,List.take])|(simp (disch:=first|decide|omega) only [↓au,reduceIte,reduceCtorEq,Nat.reduceEqDiff])|(with_reducible exact eY _)|(with_reducible exact cU _)|(exact cV rfl rfl rfl)|(exact dp 0 (by simp) rfl rfl)|(refine dB hN rfl (cY hN (by decide)) ?_)|(with_reducible refine dA ?_)|(with_reducible rfl)|(with_reducible refine eZ ?_)|(with_reducible refine e8 ?_)|(with_reducible refine e9 ?_)|(with_reducible refine eR ?_)|(with_reducible refine fa ?_)|(refine ak ?_;omega))))
     · refine dS hi fun v hv=>?_
       rw [ax fun h=>h0 v hv (PG.won_in h)]
       simpa using h0 v hv
     · rw [j6,if_pos htn]
   have hne : ∃ v,v < n ∧ gb inn v = true:=by
    refine Classical.byContradiction fun h=>?_
    have : num (fun v=>gb inn v = true) n = 0:=ff.2 fun v hv h'=>h ⟨v,hv,h'⟩
    rw [← gd] at this
    have hx:=beq_eq_false_iff_ne.1 (show ((↑(cO inn n).length : Int) == 0) = false by assumption)
    omega
   have htop0 : 0 ≤ dh g.prio inn n:=by
    rcases Int.lt_or_le (dh g.prio inn n) 0 with h|h
    · obtain ⟨v,hv,h'⟩:=hne
      rw [(jN hpr0).1 h v hv] at h';cases h'
    · exact h
   have hwm : j6 g.prio inn n = (dh g.prio inn n).tmod 2:=by rw [j6,if_neg (by omega)]
   have hvtop : ∃ v,v < n ∧ gb inn v = true ∧ gi g.prio v = dh g.prio inn n:=by
    rcases (jk (pr:=g.prio) (bs:=inn) (k:=n)).2 with h|h
    · omega
    · exact h
   have hletop : ∀ v,gb inn v = true → gi g.prio v ≤ dh g.prio inn n:=fun v h=>(jk (pr:=g.prio) (bs:=inn) (k:=n)).1 v (hS v h) h
   rw [hwm]
   clear hlst htop hBnd hlb
   generalize htop : dh g.prio inn n = top at *
   have htm : top.tmod 2 = top % 2:=Int.tmod_eq_emod_of_nonneg htop0
   have hi01 : top.tmod 2 = 0 ∨ top.tmod 2 = 1:=by omega
   generalize hwho : top.tmod 2 = who at *
   (refine cj (fun (now : List Bool)=>(tmL [(9,.c (.B now)),(8,.c (.int .i64 who)),(7,.c (.int .i64 top)),(0,soA g),(1,.c (.B inn))],hpL hp0 ν [.dead,.dead,.dead])) (fun (now : List Bool)=>now.length = n ∧ (∀ v,gb now v = true → gb inn v = true) ∧ PG.Total (bH g n) (fun v=>gb now v = true) ∧ (∀ v,PG.Won (bH g n) who (fun v=>gb inn v = true) v ↔ PG.Won (bH g n) who (fun v=>gb now v = true) v) ∧ (now = inn ∨ num (fun v=>gb now v = true) n < num (fun v=>gb inn v = true) n)) (fun (now : List Bool)=>num (fun v=>gb now v = true) n) ⟨inn,?_,bA hX hN [] ?_ ?_⟩ ?_;(repeat' (first|(with_reducible first|exact clZ|refine bB ?_ ?_|refine bC ?_ ?_|rfl|refine suZ ?_)|refine bD rfl ?_ ?_|exact aX hN _ rfl rfl rfl|exact aY hN _ rfl rfl rfl|exact aC hN _ rfl rfl rfl (Or.inr rfl)|(refine aU hN _ rfl rfl (by first|exact Or.inr rfl|exact Or.inl rfl) ?_;first|exact aZ _|exact a8 _)|refine aD hN rfl ?_|refine aE hN rfl rfl ?_|exact aB hN _ rfl rfl|exact aF hN rfl rfl rfl rfl|(with_reducible first|refine stZ ?_|refine aW ?_)));(try (any_goals (first|(with_reducible rfl)|(refine ak ?_;omega)))))
   · exact ⟨hi,fun v h=>h,ht,fun v=>Iff.rfl,.inl rfl⟩
   intro now hnow
   obtain ⟨hnl,hsub,htn,hwon,hsm⟩:=hnow
   (repeat' (first|(with_reducible first|(apply hK;clear hK K)|refine stZ ?_|refine aM rfl ?_|((first|apply ae|apply af);clear ae X af Y))|(with_reducible refine aP ?_;first|refine aN rfl ?_|refine aO rfl ?_)|(with_reducible refine be ?_;first|refine aK rfl rfl rfl rfl ?_|refine bc rfl rfl rfl ?_|refine bp rfl rfl rfl rfl ?_)|((first|(with_reducible first|((first|refine aS ?_|refine aT ?_);intro K hK)|(refine az ?_;intro X Y ae af)|refine aA ?_)|(with_reducible refine be ?_;refine aL rfl rfl fun X Y ae af=>?_));simp (disch:=first|decide|omega|(simp only [List.length_cons,List.length_nil];omega)) only [go_sem,↓am hN,ao hN,reduceIte,reduceCtorEq,Nat.reduceAdd,Nat.reduceLT,Nat.reduceLeDiff,Nat.reduceEqDiff,Nat.reduceSub])|(with_reducible refine And.intro (fun h=>?_) (fun h=>?_) <;> try (exfalso;omega))|(with_reducible refine aR aG hN ?_)|(with_reducible refine And.intro ?_ ?_)|(refine ak ?_;omega)|(exact aQ hN (by decide))))
   (refine cj (fun (k : Nat)=>(tmL [(38,.c (.int .i64 k)),(37,.c (.int .i64 n)),(10,.sl (ν 3)),(9,.c (.B now)),(8,.c (.int .i64 who)),(7,.c (.int .i64 top)),(0,soA g),(1,.c (.B inn))],hpL hp0 ν [.dead,.dead,.dead,.arr 4 .yes (.B (bZ n fun v=>if v < k then gb now v && gi g.prio v == top else false))])) (fun (k : Nat)=>k ≤ n) (fun (k : Nat)=>n - k) ⟨0,?_,bA hX hN [] ?_ ?_⟩ ?_;(repeat' (first|(with_reducible first|exact clZ|refine bB ?_ ?_|refine bC ?_ ?_|rfl|refine suZ ?_)|refine bD rfl ?_ ?_|exact aX hN _ rfl rfl rfl|exact aY hN _ rfl rfl rfl|exact aC hN _ rfl rfl rfl (Or.inr rfl)|(refine aU hN _ rfl rfl (by first|exact Or.inr rfl|exact Or.inl rfl) ?_;first|exact aZ _|exact a8 _)|refine aD hN rfl ?_|refine aE hN rfl rfl ?_|exact aB hN _ rfl rfl|exact aF hN rfl rfl rfl rfl|(with_reducible first|refine stZ ?_|refine aW ?_)));(try (any_goals (first|(with_reducible rfl)|(refine ak ?_;omega)))))
   · rw [hi];exact cT n fun v=>gb now v && gi g.prio v == top
   intro k hk
   (repeat' (first|(with_reducible first|(apply hK;clear hK K)|refine stZ ?_|refine aM rfl ?_|((first|apply ae|apply af);clear ae X af Y))|(with_reducible refine aP ?_;first|refine aN rfl ?_|refine aO rfl ?_)|(with_reducible refine be ?_;first|refine aK rfl rfl rfl rfl ?_|refine bc rfl rfl rfl ?_|refine bp rfl rfl rfl rfl ?_)|((first|(with_reducible first|((first|refine aS ?_|refine aT ?_);intro K hK)|(refine az ?_;intro X Y ae af)|refine aA ?_)|(with_reducible refine be ?_;refine aL rfl rfl fun X Y ae af=>?_));simp (disch:=first|decide|omega|(simp only [List.length_cons,List.length_nil];omega)) only [go_sem,↓am hN,ao hN,reduceIte,reduceCtorEq,Nat.reduceAdd,Nat.reduceLT,Nat.reduceLeDiff,Nat.reduceEqDiff,Nat.reduceSub])|(with_reducible refine And.intro (fun h=>?_) (fun h=>?_) <;> try (exfalso;omega))|(with_reducible refine aR aG hN ?_)|(with_reducible refine And.intro ?_ ?_)|(refine ak ?_;omega)|(exact aQ hN (by decide))))
   · (refine ⟨k + 1,⟨?_,?_⟩,bA hX hN [] ?_ ?_⟩;(try any_goals dsimp only);(repeat' (first|(with_reducible first|exact clZ|refine bB ?_ ?_|refine bC ?_ ?_|rfl|refine suZ ?_)|refine bD rfl ?_ ?_|exact aX hN _ rfl rfl rfl|exact aY hN _ rfl rfl rfl|exact aC hN _ rfl rfl rfl (Or.inr rfl)|(refine aU hN _ rfl rfl (by first|exact Or.inr rfl|exact Or.inl rfl) ?_;first|exact aZ _|exact a8 _)|refine aD hN rfl ?_|refine aE hN rfl rfl ?_|exact aB hN _ rfl rfl|exact aF hN rfl rfl rfl rfl|(with_reducible first|refine stZ ?_|refine aW ?_)));(try (any_goals (first|(with_reducible rfl)|(refine ak ?_;omega)))))
     exact dK (f:=fun v=>gb now v && gi g.prio v == top) (d:=fun _=>false) (by omega) (by simp [*])
   · (refine ⟨k + 1,⟨?_,?_⟩,bA hX hN [] ?_ ?_⟩;(try any_goals dsimp only);(repeat' (first|(with_reducible first|exact clZ|refine bB ?_ ?_|refine bC ?_ ?_|rfl|refine suZ ?_)|refine bD rfl ?_ ?_|exact aX hN _ rfl rfl rfl|exact aY hN _ rfl rfl rfl|exact aC hN _ rfl rfl rfl (Or.inr rfl)|(refine aU hN _ rfl rfl (by first|exact Or.inr rfl|exact Or.inl rfl) ?_;first|exact aZ _|exact a8 _)|refine aD hN rfl ?_|refine aE hN rfl rfl ?_|exact aB hN _ rfl rfl|exact aF hN rfl rfl rfl rfl|(with_reducible first|refine stZ ?_|refine aW ?_)));(try (any_goals (first|(with_reducible rfl)|(refine ak ?_;omega)))))
     exact dK (f:=fun v=>gb now v && gi g.prio v == top) (d:=fun _=>false) (by omega) (by simp [*])
   have hgoal : (bZ n fun v=>if v < k then gb now v && gi g.prio v == top else false) = bZ n fun v=>gb now v && gi g.prio v == top:=dn (by omega)
   rw [hgoal]
   clear hgoal
   obtain ⟨goal,hgo⟩ : ∃ goal,goal = bZ n fun v=>gb now v && gi g.prio v == top:=⟨_,rfl⟩
   rw [← hgo]
   have hglen : goal.length = n:=by rw [hgo,ce]
   have hgoalv : ∀ v,gb goal v = true ↔ gb now v = true ∧ gi g.prio v = top:=fun v=>by
    rcases Nat.lt_or_ge v n with h|h
    · rw [hgo,dm _ h];simp
    · refine ⟨fun h'=>?_,fun h'=>?_⟩
      · have:=fg h';omega
      · have:=fg h'.1;omega
   have hSn : ∀ v,gb now v = true → v < n:=fun v h=>hS v (hsub v h)
   obtain ⟨At,hAt⟩ : ∃ At,At = mks n (PG.Attr (bH g n) who (fun v=>gb now v = true) (fun v=>gb goal v = true)):=⟨_,rfl⟩
   have hAl : At.length = n:=by rw [hAt,cC]
   obtain ⟨rest,hrest⟩ : ∃ rest,rest = bZ now.length fun i=>gb now i && !gb At i:=⟨_,rfl⟩
   have hrl : rest.length = n:=by rw [hrest,ce,hnl]
   have hatt:=q6 g n hg hpk now goal hnl hglen (fun v h=>((hgoalv v).1 h).1) who htn
   rw [← hAt] at hatt
   have hless:=gI now At (by omega) (by omega)
   rw [← hrest] at hless
   (repeat' (first|(with_reducible refine jG 14 ?_)|(with_reducible first|(apply hK;clear hK K)|refine stZ ?_|refine aM rfl ?_|((first|apply ae|apply af);clear ae X af Y))|(with_reducible refine aP ?_;first|refine aN rfl ?_|refine aO rfl ?_)|(with_reducible refine be ?_;first|refine aK rfl rfl rfl rfl ?_|refine bc rfl rfl rfl ?_|refine bp rfl rfl rfl rfl ?_)|((first|(with_reducible first|((first|refine aS ?_|refine aT ?_);intro K hK)|(refine az ?_;intro X Y ae af)|refine aA ?_)|(with_reducible refine be ?_;refine aL rfl rfl fun X Y ae af=>?_));simp (disch:=first|decide|omega|(simp only [List.length_cons,List.length_nil];omega)) only [go_sem,↓am hN,ao hN,reduceIte,reduceCtorEq,Nat.reduceAdd,Nat.reduceLT,Nat.reduceLeDiff,Nat.reduceEqDiff,Nat.reduceSub])|(with_reducible refine And.intro (fun h=>?_) (fun h=>?_) <;> try (exfalso;omega))|(with_reducible refine aR aG hN ?_)|(refine bE hatt ?_ rfl (fun _=>rfl) ?_)|(refine bE hless ?_ rfl (fun _=>rfl) ?_)|(with_reducible first|exact aV|refine aJ ?_ ?_|exact cF _|refine bv ?_|exact bz _|exact bR _ _|refine bQ ?_|exact bt _)|exact bw hN rfl rfl|(refine bP hN rfl ?_;first|exact aZ _|exact a8 _)|exact bu rfl rfl rfl|(simp only [ba,List.map_nil])|(with_reducible refine bo ?_)|(with_reducible refine And.intro ?_ ?_)|(refine ak ?_;omega)|(exact aQ hN (by decide))))
   (refine uu (bA (L':=[.dead,.dead,.dead,.dead,.dead,.dead]) (l:=[(12,.c (.B rest)),(9,.c (.B now)),(8,.c (.int .i64 who)),(7,.c (.int .i64 top)),(0,soA g),(1,.c (.B inn))]) hX hN [] ?_ ?_) ?_;(repeat' (first|(with_reducible first|exact clZ|refine bB ?_ ?_|refine bC ?_ ?_|rfl|refine suZ ?_)|refine bD rfl ?_ ?_|exact aX hN _ rfl rfl rfl|exact aY hN _ rfl rfl rfl|exact aC hN _ rfl rfl rfl (Or.inr rfl)|(refine aU hN _ rfl rfl (by first|exact Or.inr rfl|exact Or.inl rfl) ?_;first|exact aZ _|exact a8 _)|refine aD hN rfl ?_|refine aE hN rfl rfl ?_|exact aB hN _ rfl rfl|exact aF hN rfl rfl rfl rfl|(with_reducible first|refine stZ ?_|refine aW ?_)));(try (any_goals (first|(with_reducible rfl)|(refine ak ?_;omega)))))
   have hrestP:=iv hnl hAt hrest
   have hihr : num (fun v=>gb rest v = true) n < N ∧ PG.Total (bH g n) (fun v=>gb rest v = true):=by
    rw [hrestP]
    refine ⟨?_,PG.total_diff hf htn⟩
    rcases hsm with rfl|hsm
    · obtain ⟨v,a,b,c⟩:=hvtop
      have:=jL (p:=fun v=>gb now v = true) (q:=PG.Diff (fun v=>gb now v = true) (PG.Attr (bH g n) who (fun v=>gb now v = true) (fun v=>gb goal v = true))) (k:=n) (fun t _ h=>h.1) ⟨v,a,b,fun h=>h.2 (PG.attr_goal b ((hgoalv v).2 ⟨b,c⟩))⟩
      omega
    · have:=q9 (p:=fun v=>gb now v = true) (q:=PG.Diff (fun v=>gb now v = true) (PG.Attr (bH g n) who (fun v=>gb now v = true) (fun v=>gb goal v = true))) (k:=n) (fun t _ h=>h.1)
      omega
   have hrn : ∀ v,gb rest v = true → v < n:=fun v h=>by have:=fg h;omega
   have hlow:=ih rest hrl hihr.1 hihr.2
   have hwr:=ou g.prio rest n
   generalize j6 g.prio rest n = wr at hlow hwr
   obtain ⟨wins,hwi⟩ : ∃ wins,wins = mks n (PG.Won (bH g n) wr (fun v=>gb rest v = true)):=⟨_,rfl⟩
   have hwl : wins.length = n:=by rw [hwi,cC]
   have hwv : ∀ v,gb wins v = true ↔ PG.Won (bH g n) wr (fun v=>gb rest v = true) v:=fun v=>by
    rcases Nat.lt_or_ge v n with h|h
    · rw [hwi,eo _ h];exact iQ
    · refine ⟨fun h'=>?_,fun h'=>?_⟩
      · have:=fg h';omega
      · have:=hrn v (PG.won_in h');omega
   rw [← hwi] at hlow
   obtain ⟨lost1,hl1⟩ : ∃ lost1,lost1 = bZ rest.length fun i=>gb rest i && !gb wins i:=⟨_,rfl⟩
   have hl1l : lost1.length = n:=by rw [hl1,ce,hrl]
   have hless1:=gI rest wins (by omega) (by omega)
   rw [← hl1] at hless1
   have hTp : ∀ v,gb now v = true → gb goal v = true → (bH g n).prio v = top:=fun v a b=>by rw [jj hg (hSn v a)];exact ((hgoalv v).1 b).2
   have hm : ∀ v,gb now v = true → (bH g n).prio v ≤ top:=fun v a=>by rw [jj hg (hSn v a)];exact hletop v (hsub v a)
   have hd : top % 2 = who:=by omega
   have hLin : ∀ L : List Bool,(∀ v,gb L v = true ↔ PG.Won (bH g n) (1 - who) (PG.Diff (fun v=>gb now v = true) (PG.Attr (bH g n) who (fun v=>gb now v = true) (fun v=>gb goal v = true))) v) → ∀ v,gb L v = true → gb now v = true:=fun L hL v h=>(PG.won_in ((hL v).1 h)).1
   have hLy : wr = who → ∀ v,gb lost1 v = true ↔ PG.Won (bH g n) (1 - who) (PG.Diff (fun v=>gb now v = true) (PG.Attr (bH g n) who (fun v=>gb now v = true) (fun v=>gb goal v = true))) v:=fun e v=>by
    rw [← hrestP,my hf hrn hihr.2 hi01,jO hrl (X:=PG.Won (bH g n) wr (fun v=>gb rest v = true)) hwi hl1,e]
   have hLn : ¬ wr = who → ∀ v,gb wins v = true ↔ PG.Won (bH g n) (1 - who) (PG.Diff (fun v=>gb now v = true) (PG.Attr (bH g n) who (fun v=>gb now v = true) (fun v=>gb goal v = true))) v:=fun e v=>by
    rw [← hrestP,hwv,show wr = 1 - who by omega]
   clear hgoalv hAt hAl hrest hwi hwv
   have key : ∀ L : List Bool,L.length = n → (∀ v,gb L v = true ↔ PG.Won (bH g n) (1 - who) (PG.Diff (fun v=>gb now v = true) (PG.Attr (bH g n) who (fun v=>gb now v = true) (fun v=>gb goal v = true))) v) → ∃ aw now2 : List Bool,
     aw.length = n ∧ now2.length = n ∧
     aq Try.prog 169 [soA g,.c (.int .i64 (1 - who)),.c (.B now),.c (.B L)] [.arr 4 .yes (.B aw)] (fun ns=>.sl (ns.getD 0 0)) ∧
     aq Try.prog 152 [.c (.B now),.c (.B aw)] [.arr 4 .yes (.B now2)] (fun ns=>.sl (ns.getD 0 0)) ∧
     (¬ true ∈ L → now = mks n (PG.Won (bH g n) who (fun v=>gb inn v = true))) ∧
     (¬ true ∈ now2 → now2 = mks n (PG.Won (bH g n) who (fun v=>gb inn v = true))) ∧
     (true ∈ L → (now2.length = n ∧ (∀ v,gb now2 v = true → gb inn v = true) ∧ PG.Total (bH g n) (fun v=>gb now2 v = true) ∧ (∀ v,PG.Won (bH g n) who (fun v=>gb inn v = true) v ↔ PG.Won (bH g n) who (fun v=>gb now2 v = true) v) ∧ (now2 = inn ∨ num (fun v=>gb now2 v = true) n < num (fun v=>gb inn v = true) n)) ∧ num (fun v=>gb now2 v = true) n < num (fun v=>gb now v = true) n):=fun L hLl hL=>by
    obtain ⟨aw,haw⟩ : ∃ aw,aw = mks n (PG.Attr (bH g n) (1 - who) (fun v=>gb now v = true) (fun v=>gb L v = true)):=⟨_,rfl⟩
    obtain ⟨now2,hn2⟩ : ∃ now2,now2 = bZ now.length fun i=>gb now i && !gb aw i:=⟨_,rfl⟩
    have hal : aw.length = n:=by rw [haw,cC]
    have hnl2 : now2.length = n:=by rw [hn2,ce,hnl]
    have h2:=rb hf hnl hSn htn hi01 hL haw hn2 hwon
    have hLi:=hLin L hL
    refine ⟨aw,now2,hal,hnl2,?_,?_,ra hf hnl hSn htn hd hTp hm hL hwon,re hnl2 h2,fun hmem=>?_⟩
    · rw [haw];exact q6 g n hg hpk now L hnl hLl hLi (1 - who) htn
    · rw [hn2];exact gI now aw (by omega) (by omega)
    · obtain ⟨a,b,c,d⟩:=rf hnl hf htn hSn haw hn2 hLi hmem
      refine ⟨⟨a,fun v h=>hsub v (b v h),c,h2,.inr ?_⟩,d⟩
      rcases hsm with rfl|hsm
      · exact d
      · omega
   by_cases hww : wr = who
   · obtain ⟨aw,now2,hal,hnl2,c1,c2,f1,f2,f3⟩:=key lost1 hl1l (hLy hww)
     subst hww
     (repeat' (first|(with_reducible refine jG 20 ?_)|(with_reducible first|(apply hK;clear hK K)|refine stZ ?_|refine aM rfl ?_|((first|apply ae|apply af);clear ae X af Y))|(with_reducible refine aP ?_;first|refine aN rfl ?_|refine aO rfl ?_)|(with_reducible refine be ?_;first|refine aK rfl rfl rfl rfl ?_|refine bc rfl rfl rfl ?_|refine bp rfl rfl rfl rfl ?_)|((first|(with_reducible first|((first|refine aS ?_|refine aT ?_);intro K hK)|(refine az ?_;intro X Y ae af)|refine aA ?_)|(with_reducible refine be ?_;refine aL rfl rfl fun X Y ae af=>?_));simp (disch:=first|decide|omega|(simp only [List.length_cons,List.length_nil];omega)) only [go_sem,↓am hN,ao hN,reduceIte,reduceCtorEq,Nat.reduceAdd,Nat.reduceLT,Nat.reduceLeDiff,Nat.reduceEqDiff,Nat.reduceSub])|(with_reducible refine And.intro (fun h=>?_) (fun h=>?_) <;> try (exfalso;omega))|(with_reducible refine aR aG hN ?_)|(refine cK (hlow) ?_ rfl rfl ?_)|(refine bE hless1 ?_ rfl (fun _=>rfl) ?_)|(refine bE (eO lost1 (by omega) true) ?_ rfl (fun _=>rfl) ?_)|(with_reducible first|exact aV|refine aJ ?_ ?_|exact cF _|refine bv ?_|exact bz _|exact bR _ _|refine bQ ?_|exact bt _)|exact bw hN rfl rfl|(refine bP hN rfl ?_;first|exact aZ _|exact a8 _)|exact bu rfl rfl rfl|(simp only [ba,List.map_nil])|(with_reducible refine bo ?_)|(with_reducible refine And.intro ?_ ?_)|(refine ak ?_;omega)|(exact aQ hN (by decide))))
     · have e1:=f1 (by assumption)
       (refine dC hN [] (by decide) (.inr rfl) (by first|exact b7 rfl rfl|exact bL hN rfl rfl rfl rfl|exact bF hN rfl rfl rfl rfl rfl|(simp (disch:=first|decide|omega|(simp only [List.length_cons,List.length_nil];omega)) only [bK,bS,bV,bY,go_sem,beq_self_eq_true,↓au,↓am hN,ao hN,reduceIte,reduceCtorEq,Nat.reduceAdd,Nat.reduceLT,Nat.reduceLeDiff,Nat.reduceEqDiff,Nat.reduceSub];rfl)|rfl) ?_ fun νs hνs=>?_;(repeat' (first|exact Gone.nil|(refine Gone.cons rfl rfl ?_ ?_)|(with_reducible refine cX ?_)|(with_reducible refine cW ?_)|(with_reducible refine SVs.cons ?_ ?_)|(with_reducible exact SVs.nil)|(simp only [List.drop,List.take])|(simp (disch:=first|decide|omega) only [↓au,reduceIte,reduceCtorEq,Nat.reduceEqDiff])|(with_reducible exact eY _)|(with_reducible exact cU _)|(exact cV rfl rfl rfl)|(exact dp 0 (by simp) rfl rfl)|(refine dB hN rfl (cY hN (by decide)) ?_)|(with_reducible refine dA ?_)|(with_reducible rfl)|(with_reducible refine eZ ?_)|(with_reducible refine e8 ?_)|(with_reducible refine e9 ?_)|(with_reducible refine eR ?_)|(with_reducible refine fa ?_)|(refine ak ?_;omega))))
     unfold sD
     (repeat' (first|(with_reducible first|(apply hK;clear hK K)|refine stZ ?_|refine aM rfl ?_|((first|apply ae|apply af);clear ae X af Y))|(with_reducible refine aP ?_;first|refine aN rfl ?_|refine aO rfl ?_)|(with_reducible refine be ?_;first|refine aK rfl rfl rfl rfl ?_|refine bc rfl rfl rfl ?_|refine bp rfl rfl rfl rfl ?_)|((first|(with_reducible first|((first|refine aS ?_|refine aT ?_);intro K hK)|(refine az ?_;intro X Y ae af)|refine aA ?_)|(with_reducible refine be ?_;refine aL rfl rfl fun X Y ae af=>?_));simp (disch:=first|decide|omega|(simp only [List.length_cons,List.length_nil];omega)) only [go_sem,↓am hN,ao hN,reduceIte,reduceCtorEq,Nat.reduceAdd,Nat.reduceLT,Nat.reduceLeDiff,Nat.reduceEqDiff,Nat.reduceSub])|(with_reducible refine And.intro (fun h=>?_) (fun h=>?_) <;> try (exfalso;omega))|(with_reducible refine aR aG hN ?_)|(refine bE c1 ?_ rfl (fun _=>rfl) ?_)|(refine bE c2 ?_ rfl (fun _=>rfl) ?_)|(refine bE (eO now2 (by omega) true) ?_ rfl (fun _=>rfl) ?_)|(with_reducible first|exact aV|refine aJ ?_ ?_|exact cF _|refine bv ?_|exact bz _|exact bR _ _|refine bQ ?_|exact bt _)|exact bw hN rfl rfl|(refine bP hN rfl ?_;first|exact aZ _|exact a8 _)|exact bu rfl rfl rfl|(simp only [ba,List.map_nil])|(with_reducible refine bo ?_)|(with_reducible refine And.intro ?_ ?_)|(refine ak ?_;omega)|(exact aQ hN (by decide))))
     · have e2:=f2 (by assumption)
       (refine dC hN [] (by decide) (.inr rfl) (by first|exact b7 rfl rfl|exact bL hN rfl rfl rfl rfl|exact bF hN rfl rfl rfl rfl rfl|(simp (disch:=first|decide|omega|(simp only [List.length_cons,List.length_nil];omega)) only [bK,bS,bV,bY,go_sem,beq_self_eq_true,↓au,↓am hN,ao hN,reduceIte,reduceCtorEq,Nat.reduceAdd,Nat.reduceLT,Nat.reduceLeDiff,Nat.reduceEqDiff,Nat.reduceSub];rfl)|rfl) ?_ fun νs hνs=>?_;(repeat' (first|exact Gone.nil|(refine Gone.cons rfl rfl ?_ ?_)|(with_reducible refine cX ?_)|(with_reducible refine cW ?_)|(with_reducible refine SVs.cons ?_ ?_)|(with_reducible exact SVs.nil)|(simp only [List.drop,List.take])|(simp (disch:=first|decide|omega) only [↓au,reduceIte,reduceCtorEq,Nat.reduceEqDiff])|(with_reducible exact eY _)|(with_reducible exact cU _)|(exact cV rfl rfl rfl)|(exact dp 0 (by simp) rfl rfl)|(refine dB hN rfl (cY hN (by decide)) ?_)|(with_reducible refine dA ?_)|(with_reducible rfl)|(with_reducible refine eZ ?_)|(with_reducible refine e8 ?_)|(with_reducible refine e9 ?_)|(with_reducible refine eR ?_)|(with_reducible refine fa ?_)|(refine ak ?_;omega))))
     · have e3:=f3 (by assumption)
       (refine ⟨now2,⟨?_,?_⟩,bA hX hN [(0,8)] ?_ ?_⟩;(try any_goals dsimp only);(repeat' (first|(with_reducible first|exact clZ|refine bB ?_ ?_|refine bC ?_ ?_|rfl|refine suZ ?_)|refine bD rfl ?_ ?_|exact aX hN _ rfl rfl rfl|exact aY hN _ rfl rfl rfl|exact aC hN _ rfl rfl rfl (Or.inr rfl)|(refine aU hN _ rfl rfl (by first|exact Or.inr rfl|exact Or.inl rfl) ?_;first|exact aZ _|exact a8 _)|refine aD hN rfl ?_|refine aE hN rfl rfl ?_|exact aB hN _ rfl rfl|exact aF hN rfl rfl rfl rfl|(with_reducible first|refine stZ ?_|refine aW ?_)));(try (any_goals (first|(with_reducible rfl)|(refine ak ?_;omega)))))
       · exact e3.1
       · exact aU hN 0 rfl rfl (Or.inr rfl) (eE.unn _)
   · obtain ⟨aw,now2,hal,hnl2,c1,c2,f1,f2,f3⟩:=key wins hwl (hLn hww)
     (repeat' (first|(with_reducible refine jG 20 ?_)|(with_reducible first|(apply hK;clear hK K)|refine stZ ?_|refine aM rfl ?_|((first|apply ae|apply af);clear ae X af Y))|(with_reducible refine aP ?_;first|refine aN rfl ?_|refine aO rfl ?_)|(with_reducible refine be ?_;first|refine aK rfl rfl rfl rfl ?_|refine bc rfl rfl rfl ?_|refine bp rfl rfl rfl rfl ?_)|((first|(with_reducible first|((first|refine aS ?_|refine aT ?_);intro K hK)|(refine az ?_;intro X Y ae af)|refine aA ?_)|(with_reducible refine be ?_;refine aL rfl rfl fun X Y ae af=>?_));simp (disch:=first|decide|omega|(simp only [List.length_cons,List.length_nil];omega)) only [go_sem,↓am hN,ao hN,reduceIte,reduceCtorEq,Nat.reduceAdd,Nat.reduceLT,Nat.reduceLeDiff,Nat.reduceEqDiff,Nat.reduceSub])|(with_reducible refine And.intro (fun h=>?_) (fun h=>?_) <;> try (exfalso;omega))|(with_reducible refine aR aG hN ?_)|(refine cK (hlow) ?_ rfl rfl ?_)|(refine bE (eO wins (by omega) true) ?_ rfl (fun _=>rfl) ?_)|(with_reducible first|exact aV|refine aJ ?_ ?_|exact cF _|refine bv ?_|exact bz _|exact bR _ _|refine bQ ?_|exact bt _)|exact bw hN rfl rfl|(refine bP hN rfl ?_;first|exact aZ _|exact a8 _)|exact bu rfl rfl rfl|(simp only [ba,List.map_nil])|(with_reducible refine bo ?_)|(with_reducible refine And.intro ?_ ?_)|(refine ak ?_;omega)|(exact aQ hN (by decide))))
     · have e1:=f1 (by assumption)
       (refine dC hN [] (by decide) (.inr rfl) (by first|exact b7 rfl rfl|exact bL hN rfl rfl rfl rfl|exact bF hN rfl rfl rfl rfl rfl|(simp (disch:=first|decide|omega|(simp only [List.length_cons,List.length_nil];omega)) only [bK,bS,bV,bY,go_sem,beq_self_eq_true,↓au,↓am hN,ao hN,reduceIte,reduceCtorEq,Nat.reduceAdd,Nat.reduceLT,Nat.reduceLeDiff,Nat.reduceEqDiff,Nat.reduceSub];rfl)|rfl) ?_ fun νs hνs=>?_;(repeat' (first|exact Gone.nil|(refine Gone.cons rfl rfl ?_ ?_)|(with_reducible refine cX ?_)|(with_reducible refine cW ?_)|(with_reducible refine SVs.cons ?_ ?_)|(with_reducible exact SVs.nil)|(simp only [List.drop,List.take])|(simp (disch:=first|decide|omega) only [↓au,reduceIte,reduceCtorEq,Nat.reduceEqDiff])|(with_reducible exact eY _)|(with_reducible exact cU _)|(exact cV rfl rfl rfl)|(exact dp 0 (by simp) rfl rfl)|(refine dB hN rfl (cY hN (by decide)) ?_)|(with_reducible refine dA ?_)|(with_reducible rfl)|(with_reducible refine eZ ?_)|(with_reducible refine e8 ?_)|(with_reducible refine e9 ?_)|(with_reducible refine eR ?_)|(with_reducible refine fa ?_)|(refine ak ?_;omega))))
     unfold sD
     (repeat' (first|(with_reducible first|(apply hK;clear hK K)|refine stZ ?_|refine aM rfl ?_|((first|apply ae|apply af);clear ae X af Y))|(with_reducible refine aP ?_;first|refine aN rfl ?_|refine aO rfl ?_)|(with_reducible refine be ?_;first|refine aK rfl rfl rfl rfl ?_|refine bc rfl rfl rfl ?_|refine bp rfl rfl rfl rfl ?_)|((first|(with_reducible first|((first|refine aS ?_|refine aT ?_);intro K hK)|(refine az ?_;intro X Y ae af)|refine aA ?_)|(with_reducible refine be ?_;refine aL rfl rfl fun X Y ae af=>?_));simp (disch:=first|decide|omega|(simp only [List.length_cons,List.length_nil];omega)) only [go_sem,↓am hN,ao hN,reduceIte,reduceCtorEq,Nat.reduceAdd,Nat.reduceLT,Nat.reduceLeDiff,Nat.reduceEqDiff,Nat.reduceSub])|(with_reducible refine And.intro (fun h=>?_) (fun h=>?_) <;> try (exfalso;omega))|(with_reducible refine aR aG hN ?_)|(refine bE c1 ?_ rfl (fun _=>rfl) ?_)|(refine bE c2 ?_ rfl (fun _=>rfl) ?_)|(refine bE (eO now2 (by omega) true) ?_ rfl (fun _=>rfl) ?_)|(with_reducible first|exact aV|refine aJ ?_ ?_|exact cF _|refine bv ?_|exact bz _|exact bR _ _|refine bQ ?_|exact bt _)|exact bw hN rfl rfl|(refine bP hN rfl ?_;first|exact aZ _|exact a8 _)|exact bu rfl rfl rfl|(simp only [ba,List.map_nil])|(with_reducible refine bo ?_)|(with_reducible refine And.intro ?_ ?_)|(refine ak ?_;omega)|(exact aQ hN (by decide))))
     · have e2:=f2 (by assumption)
       (refine dC hN [] (by decide) (.inr rfl) (by first|exact b7 rfl rfl|exact bL hN rfl rfl rfl rfl|exact bF hN rfl rfl rfl rfl rfl|(simp (disch:=first|decide|omega|(simp only [List.length_cons,List.length_nil];omega)) only [bK,bS,bV,bY,go_sem,beq_self_eq_true,↓au,↓am hN,ao hN,reduceIte,reduceCtorEq,Nat.reduceAdd,Nat.reduceLT,Nat.reduceLeDiff,Nat.reduceEqDiff,Nat.reduceSub];rfl)|rfl) ?_ fun νs hνs=>?_;(repeat' (first|exact Gone.nil|(refine Gone.cons rfl rfl ?_ ?_)|(with_reducible refine cX ?_)|(with_reducible refine cW ?_)|(with_reducible refine SVs.cons ?_ ?_)|(with_reducible exact SVs.nil)|(simp only [List.drop,List.take])|(simp (disch:=first|decide|omega) only [↓au,reduceIte,reduceCtorEq,Nat.reduceEqDiff])|(with_reducible exact eY _)|(with_reducible exact cU _)|(exact cV rfl rfl rfl)|(exact dp 0 (by simp) rfl rfl)|(refine dB hN rfl (cY hN (by decide)) ?_)|(with_reducible refine dA ?_)|(with_reducible rfl)|(with_reducible refine eZ ?_)|(with_reducible refine e8 ?_)|(with_reducible refine e9 ?_)|(with_reducible refine eR ?_)|(with_reducible refine fa ?_)|(refine ak ?_;omega))))
     · have e3:=f3 (by assumption)
       (refine ⟨now2,⟨?_,?_⟩,bA hX hN [(0,7)] ?_ ?_⟩;(try any_goals dsimp only);(repeat' (first|(with_reducible first|exact clZ|refine bB ?_ ?_|refine bC ?_ ?_|rfl|refine suZ ?_)|refine bD rfl ?_ ?_|exact aX hN _ rfl rfl rfl|exact aY hN _ rfl rfl rfl|exact aC hN _ rfl rfl rfl (Or.inr rfl)|(refine aU hN _ rfl rfl (by first|exact Or.inr rfl|exact Or.inl rfl) ?_;first|exact aZ _|exact a8 _)|refine aD hN rfl ?_|refine aE hN rfl rfl ?_|exact aB hN _ rfl rfl|exact aF hN rfl rfl rfl rfl|(with_reducible first|refine stZ ?_|refine aW ?_)));(try (any_goals (first|(with_reducible rfl)|(refine ak ?_;omega)))))
       · exact e3.1
       · exact aU hN 0 rfl rfl (Or.inr rfl) (eE.unn _)
end Go.Proofs.Ytiadchinhofieaa
