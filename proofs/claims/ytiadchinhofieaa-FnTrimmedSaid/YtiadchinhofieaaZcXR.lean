/-
  FnTrimmed, walked: the law itself.
-/
import Derived.Test.YtiadchinhofieaaZcXK
import Derived.Test.YtiadchinhofieaaZcXD
import Derived.Test.YtiadchinhofieaaZcD5
import Derived.Test.YtiadchinhofieaaZcE23
namespace Go.Proofs.Ytiadchinhofieaa
set_option linter.unusedVariables false
set_option linter.unusedSimpArgs false
open Go.RowKit
theorem yS {xss yss : List (List Int)} : ∀ n,(∀ k,k < n → (gr xss k).length ≤ (gr yss k).length) → dj xss n ≤ dj yss n
 | 0, _ => Nat.le_refl _
 | n + 1, h => by
   have h1:=yS n fun k hk=>h k (by omega)
   have h2:=h n (by omega)
   show dj xss n + (gr xss n).length ≤ dj yss n + (gr yss n).length
   omega
theorem yu {xss : List (List Int)} {b : Nat} : ∀ n,(∀ k,k < n → (gr xss k).length ≤ b) → dj xss n ≤ n * b
 | 0, _ => Nat.zero_le _
 | n + 1, h => by
   have h1:=yu n fun k hk=>h k (by omega)
   have h2:=h n (by omega)
   rw [Nat.add_mul,Nat.one_mul]
   show dj xss n + (gr xss n).length ≤ _
   omega
theorem xV (g : Pa) (hg : PaOk g) : aq Try.prog 24 [paA g] [] (fun _=>paA (jR g)):=by
 refine pz Try.func24 rfl rfl fun φ hp w vs h=>?_
 match vs,h with
 | [x], .cons h1 .nil =>
   refine (pG x g w (nz h1) hg).mono ?_
   rintro e w' ⟨s1,n1,c1,s2,n2,c2,s3,n3,c3,rfl,ho,hb⟩
   exact ⟨_,rfl,fun φ' hp' hO=>ru ho hO,hb⟩
end Go.Proofs.Ytiadchinhofieaa
namespace Go.Proofs.Ytiadchinhofieaa
set_option linter.unusedVariables false
set_option linter.unusedSimpArgs false
open Go.RowKit
attribute [local irreducible] aq ci Aw Le
theorem xW (xs ys : List Int) (hl : xs.length ≤ 1048576) : aq Try.prog 76 [.c (.I xs),.c (.I ys)] [] (fun _=>.c (.bool (tf (xs = ys)))):=by
 (refine bh aG Try.func76 rfl rfl (by kernel_rfl) fun hp0 ν hX hN=>?_;simp only [cx,Nat.reduceAdd])
 (repeat' (first|(with_reducible first|(apply hK;clear hK K)|refine stZ ?_|refine aM rfl ?_|((first|apply ae|apply af);clear ae X af Y))|(with_reducible refine aP ?_;first|refine aN rfl ?_|refine aO rfl ?_)|(with_reducible refine bU ?_;refine b8 hN ?_)|((with_reducible first|((first|refine aS ?_|refine b9 ?_|refine aT ?_|refine ca ?_);intro K hK)|(refine az ?_;intro X Y ae af)|refine aA ?_);simp (disch:=first|decide|omega|(simp only [List.length_cons,List.length_nil];omega)) only [go_sem,↓am hN,ao hN,reduceIte,reduceCtorEq,Nat.reduceAdd,Nat.reduceLT,Nat.reduceLeDiff,Nat.reduceEqDiff,Nat.reduceSub])|(with_reducible refine And.intro (fun h=>?_) (fun h=>?_) <;> try (exfalso;omega))|(with_reducible refine aR aG hN ?_)|(with_reducible refine bn aG hN ?_)|(with_reducible refine And.intro ?_ ?_)|(refine ak ?_;omega)|(exact aQ hN (by decide))))
 · (refine dd (.inr rfl) (by first|rfl|(simp (disch:=first|decide|omega|(simp only [List.length_cons,List.length_nil];omega)) only [bK,bS,bV,bY,go_sem,beq_self_eq_true,↓au,↓am hN,ao hN,reduceIte,reduceCtorEq,Nat.reduceAdd,Nat.reduceLT,Nat.reduceLeDiff,Nat.reduceEqDiff,Nat.reduceSub];rfl)) ?_)
   exact congrArg C.bool (ax fun e : xs = ys=>by have:=congrArg List.length e;omega).symm
 have hll : xs.length = ys.length:=by have:=bne_eq_false_iff_eq.1 (show ((xs.length : Int) != ys.length) = false by assumption);omega
 (refine cj (fun (k : Nat)=>(tmL [(5,.c (.int .i64 k)),(0,.c (.I xs)),(1,.c (.I ys))],hpL hp0 ν [])) (fun (k : Nat)=>k ≤ xs.length ∧ ∀ j,j < k → gi xs j = gi ys j) (fun (k : Nat)=>xs.length - k) ⟨0,?_,bA hX hN [] ?_ ?_⟩ ?_;(repeat' (first|(with_reducible first|exact clZ|refine bB ?_ ?_|refine bC ?_ ?_|rfl|refine suZ ?_)|refine bD rfl ?_ ?_|exact aX hN _ rfl rfl rfl|exact aY hN _ rfl rfl rfl|exact aC hN _ rfl rfl rfl (Or.inr rfl)|(refine aU hN _ rfl rfl (by first|exact Or.inr rfl|exact Or.inl rfl) ?_;first|exact aZ _|exact a8 _)|refine aD hN rfl ?_|refine aE hN rfl rfl ?_|exact aB hN _ rfl rfl|exact aF hN rfl rfl rfl rfl|(with_reducible first|refine stZ ?_|refine aW ?_)));(try (any_goals (first|(with_reducible rfl)|(refine ak ?_;omega)))))
 · exact ⟨Nat.zero_le _,fun j h=>by omega⟩
 rintro k ⟨hk,hq⟩
 (repeat' (first|(with_reducible first|(apply hK;clear hK K)|refine stZ ?_|refine aM rfl ?_|((first|apply ae|apply af);clear ae X af Y))|(with_reducible refine aP ?_;first|refine aN rfl ?_|refine aO rfl ?_)|(with_reducible refine bU ?_;refine b8 hN ?_)|((with_reducible first|((first|refine aS ?_|refine b9 ?_|refine aT ?_|refine ca ?_);intro K hK)|(refine az ?_;intro X Y ae af)|refine aA ?_);simp (disch:=first|decide|omega|(simp only [List.length_cons,List.length_nil];omega)) only [go_sem,↓am hN,ao hN,reduceIte,reduceCtorEq,Nat.reduceAdd,Nat.reduceLT,Nat.reduceLeDiff,Nat.reduceEqDiff,Nat.reduceSub])|(with_reducible refine And.intro (fun h=>?_) (fun h=>?_) <;> try (exfalso;omega))|(with_reducible refine aR aG hN ?_)|(with_reducible refine bn aG hN ?_)|(with_reducible refine And.intro ?_ ?_)|(refine ak ?_;omega)|(exact aQ hN (by decide))))
 · (refine dd (.inr rfl) (by first|rfl|(simp (disch:=first|decide|omega|(simp only [List.length_cons,List.length_nil];omega)) only [bK,bS,bV,bY,go_sem,beq_self_eq_true,↓au,↓am hN,ao hN,reduceIte,reduceCtorEq,Nat.reduceAdd,Nat.reduceLT,Nat.reduceLeDiff,Nat.reduceEqDiff,Nat.reduceSub];rfl)) ?_)
   have hne : ¬ gi xs k = gi ys k:=by assumption
   exact congrArg C.bool (ax fun e : xs = ys=>hne (by rw [e])).symm
 · (refine ⟨k + 1,⟨?_,?_⟩,bA hX hN [] ?_ ?_⟩;(try any_goals dsimp only);(repeat' (first|(with_reducible first|exact clZ|refine bB ?_ ?_|refine bC ?_ ?_|rfl|refine suZ ?_)|refine bD rfl ?_ ?_|exact aX hN _ rfl rfl rfl|exact aY hN _ rfl rfl rfl|exact aC hN _ rfl rfl rfl (Or.inr rfl)|(refine aU hN _ rfl rfl (by first|exact Or.inr rfl|exact Or.inl rfl) ?_;first|exact aZ _|exact a8 _)|refine aD hN rfl ?_|refine aE hN rfl rfl ?_|exact aB hN _ rfl rfl|exact aF hN rfl rfl rfl rfl|(with_reducible first|refine stZ ?_|refine aW ?_)));(try (any_goals (first|(with_reducible rfl)|(refine ak ?_;omega)))))
   have he : gi xs k = gi ys k:=bne_eq_false_iff_eq.1 (by assumption)
   refine ⟨by omega,fun j hj=>?_⟩
   rcases Nat.lt_or_ge j k with h|h
   · exact hq j h
   · have : j = k:=by omega
     subst this;exact he
 · (refine dd (.inr rfl) (by first|rfl|(simp (disch:=first|decide|omega|(simp only [List.length_cons,List.length_nil];omega)) only [bK,bS,bV,bY,go_sem,beq_self_eq_true,↓au,↓am hN,ao hN,reduceIte,reduceCtorEq,Nat.reduceAdd,Nat.reduceLT,Nat.reduceLeDiff,Nat.reduceEqDiff,Nat.reduceSub];rfl)) ?_)
   exact congrArg C.bool (aH ((mA hll).2 fun j hj=>hq j (by omega))).symm
theorem yj (a : Ar) (ha : ArOk a) : aq Try.prog 75 [arA a,arA a] [] (fun _=>.c (.bool true)):=by
 have hln:=ha.len
 have hle:=ha.le
 have h1:=og a
 rw [aH ha] at h1
 have h2:=xW a.own a.own (by omega)
 rw [aH rfl] at h2
 (refine bh aG Try.func75 rfl rfl (by kernel_rfl) fun hp0 ν hX hN=>?_;simp only [cx,Nat.reduceAdd])
 (repeat' (first|(with_reducible first|(apply hK;clear hK K)|refine stZ ?_|refine aM rfl ?_|((first|apply ae|apply af);clear ae X af Y))|(with_reducible refine aP ?_;first|refine aN rfl ?_|refine aO rfl ?_)|(with_reducible refine be ?_;first|refine aK rfl rfl rfl rfl ?_|refine bc rfl rfl rfl ?_|refine bp rfl rfl rfl rfl ?_)|(with_reducible refine bU ?_;first|refine bN rfl rfl rfl rfl ?_|refine cn rfl rfl rfl ?_|refine cQ rfl rfl rfl rfl ?_|refine b8 hN ?_)|((first|(with_reducible first|((first|refine aS ?_|refine b9 ?_|refine aT ?_|refine ca ?_);intro K hK)|(refine az ?_;intro X Y ae af)|refine aA ?_)|(with_reducible refine be ?_;refine aL rfl rfl fun X Y ae af=>?_)|(with_reducible refine bU ?_;refine bO rfl rfl fun X Y ae af=>?_));simp (disch:=first|decide|omega|(simp only [List.length_cons,List.length_nil];omega)) only [go_sem,↓am hN,ao hN,reduceIte,reduceCtorEq,Nat.reduceAdd,Nat.reduceLT,Nat.reduceLeDiff,Nat.reduceEqDiff,Nat.reduceSub])|(with_reducible refine And.intro (fun h=>?_) (fun h=>?_) <;> try (exfalso;omega))|(with_reducible refine aR aG hN ?_)|(with_reducible refine bn aG hN ?_)|(first|refine bJ hN (h1) ?_|refine bJ hN (h2) ?_)|(simp only [ba,List.map_nil])|(with_reducible refine bo ?_)|(with_reducible refine And.intro ?_ ?_)|(refine ak ?_;omega)|(exact aQ hN (by decide))))
 (refine cj (fun (k : Nat)=>(tmL [(5,.c (.int .i64 k)),(2,.ad (ν 0) 0),(3,.ad (ν 1) 0)],hpL hp0 ν [.box [.c (.I a.own),.c (.R a.nxt)],.box [.c (.I a.own),.c (.R a.nxt)]])) (fun (k : Nat)=>k ≤ a.nxt.length) (fun (k : Nat)=>a.nxt.length - k) ⟨0,?_,bA hX hN [] ?_ ?_⟩ ?_;(repeat' (first|(with_reducible first|exact clZ|refine bB ?_ ?_|refine bC ?_ ?_|rfl|refine suZ ?_)|refine bD rfl ?_ ?_|exact aX hN _ rfl rfl rfl|exact aY hN _ rfl rfl rfl|exact aC hN _ rfl rfl rfl (Or.inr rfl)|(refine aU hN _ rfl rfl (by first|exact Or.inr rfl|exact Or.inl rfl) ?_;first|exact aZ _|exact a8 _)|refine aD hN rfl ?_|refine aE hN rfl rfl ?_|exact aB hN _ rfl rfl|exact aF hN rfl rfl rfl rfl|(with_reducible first|refine stZ ?_|refine aW ?_)));(try (any_goals (first|(with_reducible rfl)|(refine ak ?_;omega)))))
 intro k hk
 by_cases hkn : k < a.nxt.length
 · have hr:=(ha.vert k (by omega)).2.2.2.1
   have h3:=xW (gr a.nxt k) (gr a.nxt k) (by omega)
   rw [aH rfl] at h3
   (repeat' (first|(with_reducible first|(apply hK;clear hK K)|refine stZ ?_|refine aM rfl ?_|((first|apply ae|apply af);clear ae X af Y))|(with_reducible refine aP ?_;first|refine aN rfl ?_|refine aO rfl ?_)|(with_reducible refine be ?_;first|refine aK rfl rfl rfl rfl ?_|refine bc rfl rfl rfl ?_|refine bp rfl rfl rfl rfl ?_)|(with_reducible refine bU ?_;first|refine bN rfl rfl rfl rfl ?_|refine cn rfl rfl rfl ?_|refine cQ rfl rfl rfl rfl ?_|refine b8 hN ?_)|((first|(with_reducible first|((first|refine aS ?_|refine b9 ?_|refine aT ?_|refine ca ?_);intro K hK)|(refine az ?_;intro X Y ae af)|refine aA ?_)|(with_reducible refine be ?_;refine aL rfl rfl fun X Y ae af=>?_)|(with_reducible refine bU ?_;refine bO rfl rfl fun X Y ae af=>?_));simp (disch:=first|decide|omega|(simp only [List.length_cons,List.length_nil];omega)) only [go_sem,↓am hN,ao hN,reduceIte,reduceCtorEq,Nat.reduceAdd,Nat.reduceLT,Nat.reduceLeDiff,Nat.reduceEqDiff,Nat.reduceSub])|(with_reducible refine And.intro (fun h=>?_) (fun h=>?_) <;> try (exfalso;omega))|(with_reducible refine aR aG hN ?_)|(with_reducible refine bn aG hN ?_)|(refine bJ hN (h3) ?_)|(simp only [ba,List.map_nil])|(with_reducible refine bo ?_)|(with_reducible refine And.intro ?_ ?_)|(refine ak ?_;omega)|(exact aQ hN (by decide))))
   (refine ⟨k + 1,⟨?_,?_⟩,bA hX hN [] ?_ ?_⟩;(try any_goals dsimp only);(repeat' (first|(with_reducible first|exact clZ|refine bB ?_ ?_|refine bC ?_ ?_|rfl|refine suZ ?_)|refine bD rfl ?_ ?_|exact aX hN _ rfl rfl rfl|exact aY hN _ rfl rfl rfl|exact aC hN _ rfl rfl rfl (Or.inr rfl)|(refine aU hN _ rfl rfl (by first|exact Or.inr rfl|exact Or.inl rfl) ?_;first|exact aZ _|exact a8 _)|refine aD hN rfl ?_|refine aE hN rfl rfl ?_|exact aB hN _ rfl rfl|exact aF hN rfl rfl rfl rfl|(with_reducible first|refine stZ ?_|refine aW ?_)));(try (any_goals (first|(with_reducible rfl)|(refine ak ?_;omega)))))
 obtain rfl : k = a.nxt.length:=by omega
 (repeat' (first|(with_reducible first|(apply hK;clear hK K)|refine stZ ?_|refine aM rfl ?_|((first|apply ae|apply af);clear ae X af Y))|(with_reducible refine aP ?_;first|refine aN rfl ?_|refine aO rfl ?_)|(with_reducible refine be ?_;first|refine aK rfl rfl rfl rfl ?_|refine bc rfl rfl rfl ?_|refine bp rfl rfl rfl rfl ?_)|(with_reducible refine bU ?_;first|refine bN rfl rfl rfl rfl ?_|refine cn rfl rfl rfl ?_|refine cQ rfl rfl rfl rfl ?_|refine b8 hN ?_)|((first|(with_reducible first|((first|refine aS ?_|refine b9 ?_|refine aT ?_|refine ca ?_);intro K hK)|(refine az ?_;intro X Y ae af)|refine aA ?_)|(with_reducible refine be ?_;refine aL rfl rfl fun X Y ae af=>?_)|(with_reducible refine bU ?_;refine bO rfl rfl fun X Y ae af=>?_));simp (disch:=first|decide|omega|(simp only [List.length_cons,List.length_nil];omega)) only [go_sem,↓am hN,ao hN,reduceIte,reduceCtorEq,Nat.reduceAdd,Nat.reduceLT,Nat.reduceLeDiff,Nat.reduceEqDiff,Nat.reduceSub])|(with_reducible refine And.intro (fun h=>?_) (fun h=>?_) <;> try (exfalso;omega))|(with_reducible refine aR aG hN ?_)|(with_reducible refine bn aG hN ?_)|(with_reducible refine And.intro ?_ ?_)|(refine ak ?_;omega)|(exact aQ hN (by decide))))
 (refine dd (.inr rfl) (by first|rfl|(simp (disch:=first|decide|omega|(simp only [List.length_cons,List.length_nil];omega)) only [bK,bS,bV,bY,go_sem,beq_self_eq_true,↓au,↓am hN,ao hN,reduceIte,reduceCtorEq,Nat.reduceAdd,Nat.reduceLT,Nat.reduceLeDiff,Nat.reduceEqDiff,Nat.reduceSub];rfl)) ?_)
 all_goals rfl
theorem ye (g : Pa) (hg : PaOk g) : aq Try.prog 30 [paA g,paA g] [] (fun _=>.c (.bool true)):=by
 have hl:=hg.len
 have hle:=hg.ar.le
 have h1:=gc g
 rw [aH hg] at h1
 have h2:=yj g.ar hg.ar
 have h3:=xW g.prio g.prio (by omega)
 rw [aH rfl] at h3
 (refine bh aG Try.func30 rfl rfl (by kernel_rfl) fun hp0 ν hX hN=>?_;simp only [cx,Nat.reduceAdd])
 (repeat' (first|(with_reducible first|(apply hK;clear hK K)|refine stZ ?_|refine aM rfl ?_|((first|apply ae|apply af);clear ae X af Y))|(with_reducible refine aP ?_;first|refine aN rfl ?_|refine aO rfl ?_)|(with_reducible refine be ?_;first|refine aK rfl rfl rfl rfl ?_|refine bc rfl rfl rfl ?_|refine bp rfl rfl rfl rfl ?_)|((first|(with_reducible first|((first|refine aS ?_|refine aT ?_);intro K hK)|(refine az ?_;intro X Y ae af)|refine aA ?_)|(with_reducible refine be ?_;refine aL rfl rfl fun X Y ae af=>?_));simp (disch:=first|decide|omega|(simp only [List.length_cons,List.length_nil];omega)) only [go_sem,↓am hN,ao hN,reduceIte,reduceCtorEq,Nat.reduceAdd,Nat.reduceLT,Nat.reduceLeDiff,Nat.reduceEqDiff,Nat.reduceSub])|(with_reducible refine And.intro (fun h=>?_) (fun h=>?_) <;> try (exfalso;omega))|(with_reducible refine aR aG hN ?_)|(first|refine bJ hN (h1) ?_|refine bJ hN (h2) ?_|refine bJ hN (h3) ?_)|(simp only [ba,List.map_nil])|(with_reducible refine bo ?_)|(with_reducible refine And.intro ?_ ?_)|(refine ak ?_;omega)|(exact aQ hN (by decide))))
 (refine dd (.inr rfl) (by first|rfl|(simp (disch:=first|decide|omega|(simp only [List.length_cons,List.length_nil];omega)) only [bK,bS,bV,bY,go_sem,beq_self_eq_true,↓au,↓am hN,ao hN,reduceIte,reduceCtorEq,Nat.reduceAdd,Nat.reduceLT,Nat.reduceLeDiff,Nat.reduceEqDiff,Nat.reduceSub];rfl)) ?_)
 all_goals rfl
theorem x9 (g : Pa) (hg : PaOk g) : aq Try.prog 29 [paA g] [] (fun _=>.c (.int .i64 (dj g.ar.nxt g.ar.nxt.length : Nat))):=by
 have hln:=hg.ar.len
 have hle:=hg.ar.le
 have h1:=jH g
 rw [aH hg] at h1
 (refine bh aG Try.func29 rfl rfl (by kernel_rfl) fun hp0 ν hX hN=>?_;simp only [cx,Nat.reduceAdd])
 (repeat' (first|(with_reducible first|(apply hK;clear hK K)|refine stZ ?_|refine aM rfl ?_|((first|apply ae|apply af);clear ae X af Y))|(with_reducible refine aP ?_;first|refine aN rfl ?_|refine aO rfl ?_)|((with_reducible first|((first|refine aS ?_|refine aT ?_);intro K hK)|(refine az ?_;intro X Y ae af)|refine aA ?_);simp (disch:=first|decide|omega|(simp only [List.length_cons,List.length_nil];omega)) only [go_sem,↓am hN,ao hN,reduceIte,reduceCtorEq,Nat.reduceAdd,Nat.reduceLT,Nat.reduceLeDiff,Nat.reduceEqDiff,Nat.reduceSub])|(with_reducible refine And.intro (fun h=>?_) (fun h=>?_) <;> try (exfalso;omega))|(with_reducible refine aR aG hN ?_)|(refine bJ hN (h1) ?_)|(simp only [ba,List.map_nil])|(with_reducible refine bo ?_)|(with_reducible refine And.intro ?_ ?_)|(refine ak ?_;omega)|(exact aQ hN (by decide))))
 (refine cj (fun (k : Nat)=>(tmL [(13,.c (.int .i64 k)),(12,.c (.int .i64 g.ar.nxt.length)),(11,.c (.R g.ar.nxt)),(3,.c (.int .i64 (dj g.ar.nxt k : Nat)))],hpL hp0 ν [])) (fun (k : Nat)=>k ≤ g.ar.nxt.length) (fun (k : Nat)=>g.ar.nxt.length - k) ⟨0,?_,bA hX hN [] ?_ ?_⟩ ?_;(repeat' (first|(with_reducible first|exact clZ|refine bB ?_ ?_|refine bC ?_ ?_|rfl|refine suZ ?_)|refine bD rfl ?_ ?_|exact aX hN _ rfl rfl rfl|exact aY hN _ rfl rfl rfl|exact aC hN _ rfl rfl rfl (Or.inr rfl)|(refine aU hN _ rfl rfl (by first|exact Or.inr rfl|exact Or.inl rfl) ?_;first|exact aZ _|exact a8 _)|refine aD hN rfl ?_|refine aE hN rfl rfl ?_|exact aB hN _ rfl rfl|exact aF hN rfl rfl rfl rfl|(with_reducible first|refine stZ ?_|refine aW ?_)));(try (any_goals (first|(with_reducible rfl)|(refine ak ?_;omega)))))
 all_goals try rfl
 intro k hk
 by_cases hkn : k < g.ar.nxt.length
 · have hr:=(hg.ar.vert k (by omega)).2.2.2.1
   have hb:=yu (xss:=g.ar.nxt) (b:=16) k fun q hq=>(hg.ar.vert q (by omega)).2.2.2.1
   have hs : dj g.ar.nxt (k + 1) = dj g.ar.nxt k + (gr g.ar.nxt k).length:=rfl
   (repeat' (first|(with_reducible first|(apply hK;clear hK K)|refine stZ ?_|refine aM rfl ?_|((first|apply ae|apply af);clear ae X af Y))|(with_reducible refine aP ?_;first|refine aN rfl ?_|refine aO rfl ?_)|((with_reducible first|((first|refine aS ?_|refine aT ?_);intro K hK)|(refine az ?_;intro X Y ae af)|refine aA ?_);simp (disch:=first|decide|omega|(simp only [List.length_cons,List.length_nil];omega)) only [go_sem,↓am hN,ao hN,reduceIte,reduceCtorEq,Nat.reduceAdd,Nat.reduceLT,Nat.reduceLeDiff,Nat.reduceEqDiff,Nat.reduceSub])|(with_reducible refine And.intro (fun h=>?_) (fun h=>?_) <;> try (exfalso;omega))|(with_reducible refine aR aG hN ?_)|(with_reducible refine And.intro ?_ ?_)|(refine ak ?_;omega)|(exact aQ hN (by decide))))
   (refine ⟨k + 1,⟨?_,?_⟩,bA hX hN [] ?_ ?_⟩;(try any_goals dsimp only);(repeat' (first|(with_reducible first|exact clZ|refine bB ?_ ?_|refine bC ?_ ?_|rfl|refine suZ ?_)|refine bD rfl ?_ ?_|exact aX hN _ rfl rfl rfl|exact aY hN _ rfl rfl rfl|exact aC hN _ rfl rfl rfl (Or.inr rfl)|(refine aU hN _ rfl rfl (by first|exact Or.inr rfl|exact Or.inl rfl) ?_;first|exact aZ _|exact a8 _)|refine aD hN rfl ?_|refine aE hN rfl rfl ?_|exact aB hN _ rfl rfl|exact aF hN rfl rfl rfl rfl|(with_reducible first|refine stZ ?_|refine aW ?_)));(try (any_goals (first|(with_reducible rfl)|(refine ak ?_;omega)))))
   all_goals (rw [hs];omega)
 obtain rfl : k = g.ar.nxt.length:=by omega
 (repeat' (first|(with_reducible first|(apply hK;clear hK K)|refine stZ ?_|refine aM rfl ?_|((first|apply ae|apply af);clear ae X af Y))|(with_reducible refine aP ?_;first|refine aN rfl ?_|refine aO rfl ?_)|((with_reducible first|((first|refine aS ?_|refine aT ?_);intro K hK)|(refine az ?_;intro X Y ae af)|refine aA ?_);simp (disch:=first|decide|omega|(simp only [List.length_cons,List.length_nil];omega)) only [go_sem,↓am hN,ao hN,reduceIte,reduceCtorEq,Nat.reduceAdd,Nat.reduceLT,Nat.reduceLeDiff,Nat.reduceEqDiff,Nat.reduceSub])|(with_reducible refine And.intro (fun h=>?_) (fun h=>?_) <;> try (exfalso;omega))|(with_reducible refine aR aG hN ?_)|(with_reducible refine And.intro ?_ ?_)|(refine ak ?_;omega)|(exact aQ hN (by decide))))
 (refine dd (.inr rfl) (by first|rfl|(simp (disch:=first|decide|omega|(simp only [List.length_cons,List.length_nil];omega)) only [bK,bS,bV,bY,go_sem,beq_self_eq_true,↓au,↓am hN,ao hN,reduceIte,reduceCtorEq,Nat.reduceAdd,Nat.reduceLT,Nat.reduceLeDiff,Nat.reduceEqDiff,Nat.reduceSub];rfl)) ?_)
 all_goals rfl
end Go.Proofs.Ytiadchinhofieaa
namespace Go.Proofs.Ytiadchinhofieaa
set_option linter.unusedVariables false
set_option linter.unusedSimpArgs false
open Go.RowKit
attribute [local irreducible] aq ci Aw Le
set_option maxHeartbeats 4000000 in
theorem yk (bs : List Int) (hb : ∀ j,j < bs.length → 0 ≤ gi bs j ∧ gi bs j ≤ 255) (hlb : bs.length ≤ 9223372036854775807) : aq Try.prog 6 [.c (.Y bs)] [] (fun _=>.c (.bool true)):=by
 have hbig:=yV bs hlb
 by_cases hl : bs.length ≤ 4096
 · rw [show decide ((bs.length : Int) > 4096) = false by rw [decide_eq_false_iff_not];omega] at hbig
   have hroll:=yT bs hl hb 917
   generalize yQ bs hl hb 917 = d at hroll
   have hgame:=yM d 6 (by omega)
   obtain ⟨hg,hlen,_⟩:=yK (d:=d) (most:=6) (pm:=6) (by omega) (by omega)
   generalize hG : xF d 6 6 = G at *
   obtain ⟨g,d1⟩:=G
   simp only at hgame hg hlen
   have hln:=hg.len
   have hnl:=hg.ar.len
   have hle:=hg.ar.le
   have hT:=rs hg
   have htl:=hT.ok.len
   have htn:=hT.ok.ar.len
   have hto:=congrArg List.length hT.own
   have htp:=congrArg List.length hT.prio
   have c1:=xV g hg
   have c2:=yt g (jR g)
   rw [aH (show yR g (jR g) from ⟨hg,hT.ok,hT.won.symm⟩)] at c2
   have c3:=x9 (jR g) hT.ok
   have c4:=x9 g hg
   have c5:=xV (jR g) hT.ok
   rw [yr hg] at c5
   have c6:=ye (jR g) hT.ok
   have hps : dj (jR g).ar.nxt (jR g).ar.nxt.length ≤ dj g.ar.nxt g.ar.nxt.length:=by
    rw [hT.len]
    exact yS _ fun k hk=>by rw [hT.one k (by omega)];exact (hg.ar.vert k (by omega)).2.2.1
   have hp16:=yu (xss:=g.ar.nxt) (b:=16) g.ar.nxt.length fun q hq=>(hg.ar.vert q (by omega)).2.2.2.1
   have hneed : ∀ (v : Nat),v < g.prio.length → ∀ u,u ∈ gr (jR g).ar.nxt v → xU (jR g) v u:=fun v hv u hu=>yz hg hv hu
   have hrow:=hT.row
   have hone:=hT.one
   clear hT
   generalize jR g = t at *
   generalize dj t.ar.nxt t.ar.nxt.length = pt at *
   generalize dj g.ar.nxt g.ar.nxt.length = pg at *
   (refine bh aG Try.func6 rfl rfl (by kernel_rfl) fun hp0 ν hX hN=>?_;simp only [cx,Nat.reduceAdd])
   (repeat' (first|(with_reducible first|(apply hK;clear hK K)|refine stZ ?_|refine aM rfl ?_|((first|apply ae|apply af);clear ae X af Y))|(with_reducible refine aP ?_;first|refine aN rfl ?_|refine aO rfl ?_)|(with_reducible refine be ?_;first|refine aK rfl rfl rfl rfl ?_|refine bc rfl rfl rfl ?_|refine bp rfl rfl rfl rfl ?_)|(with_reducible refine bU ?_;first|refine bN rfl rfl rfl rfl ?_|refine cn rfl rfl rfl ?_|refine cQ rfl rfl rfl rfl ?_|refine b8 hN ?_)|((first|(with_reducible first|((first|refine aS ?_|refine b9 ?_|refine aT ?_|refine ca ?_);intro K hK)|(refine az ?_;intro X Y ae af)|refine aA ?_)|(with_reducible refine be ?_;refine aL rfl rfl fun X Y ae af=>?_)|(with_reducible refine bU ?_;refine bO rfl rfl fun X Y ae af=>?_));simp (disch:=first|decide|omega|(simp only [List.length_cons,List.length_nil];omega)) only [go_sem,↓am hN,ao hN,reduceIte,reduceCtorEq,Nat.reduceAdd,Nat.reduceLT,Nat.reduceLeDiff,Nat.reduceEqDiff,Nat.reduceSub])|(with_reducible refine And.intro (fun h=>?_) (fun h=>?_) <;> try (exfalso;omega))|(with_reducible refine aR aG hN ?_)|(with_reducible refine bn aG hN ?_)|(refine bE hbig ?_ rfl (fun _=>rfl) ?_)|(refine yD (hroll) rfl (fun ν'=>?_) ?_ ?_;(focus ((repeat' (first|exact ArgMs.nil|refine ArgMs.cons ?_ ?_|exact ym _|exact yh (by first|exact bz _|exact bt _|exact bu rfl rfl rfl) rfl|refine xI ?_));done));(focus (first|exact Or.inl (by simp [bI,AV.names]))))|(refine xD (hgame) hN 0 rfl rfl rfl rfl rfl ?_ ?_ ?_ ?_;(focus (simp [bI,AV.names];done));(focus (intro ν' hν;(repeat' (first|exact ArgMs.nil|refine ArgMs.cons ?_ ?_|exact x4 hν|exact x5 hν|exact ym _|exact yh (by first|exact bz _|exact bt _|exact bu rfl rfl rfl) rfl|(refine x6 hN rfl ?_ (by decide);first|exact aZ _|exact a8 _)|refine xI ?_));done));(focus (first|exact Or.inr ⟨rfl,rfl,fun _=>rfl⟩|exact Or.inl (by simp [bI,AV.names]))))|(refine cK (c1) ?_ rfl rfl ?_;focus ((repeat' (first|(with_reducible first|exact aV|refine aJ ?_ ?_|exact cF _|refine bv ?_|exact bz _|exact bR _ _|refine bQ ?_|exact bt _)|exact bw hN rfl rfl|(refine bP hN rfl ?_;first|exact aZ _|exact a8 _)|exact bu rfl rfl rfl));done))|(first|refine bJ hN (c2) ?_|refine bJ hN (c3) ?_)|(refine bJ hN (c4) ?_)|(refine cK (c5) ?_ rfl rfl ?_;focus ((repeat' (first|(with_reducible first|exact aV|refine aJ ?_ ?_|exact cF _|refine bv ?_|exact bz _|exact bR _ _|refine bQ ?_|exact bt _)|exact bw hN rfl rfl|(refine bP hN rfl ?_;first|exact aZ _|exact a8 _)|exact bu rfl rfl rfl));done))|(refine bJ hN (c6) ?_)|(with_reducible first|exact aV|refine aJ ?_ ?_|exact cF _|refine bv ?_|exact bz _|exact bR _ _|refine bQ ?_|exact bt _)|exact bw hN rfl rfl|(refine bP hN rfl ?_;first|exact aZ _|exact a8 _)|exact bu rfl rfl rfl|(simp only [ba,List.map_nil])|(with_reducible refine bo ?_)|(simp (disch:=first|decide|omega|(simp only [List.length_cons,List.length_nil];omega)) only [ba,List.map_cons,List.map_nil,ao hN,List.set_cons_zero,List.set_cons_succ])|(with_reducible refine And.intro ?_ ?_)|(refine ak ?_;omega)|(exact aQ hN (by decide))))
   (refine cj (fun (k : Nat)=>(tmL [(6,.c (.int .i64 k)),(5,.ad (ν 2) 0),(4,.ad (ν 1) 0),(3,.ad (ν 0) 0)],hpL hp0 ν [diE d1,.box [.c (.I g.ar.own),.c (.R g.ar.nxt),.c (.I g.prio)],.box [.c (.I t.ar.own),.c (.R t.ar.nxt),.c (.I t.prio)]])) (fun (k : Nat)=>k ≤ t.prio.length) (fun (k : Nat)=>t.prio.length - k) ⟨0,?_,bA hX hN [] ?_ ?_⟩ ?_;(repeat' (first|(with_reducible first|exact clZ|refine bB ?_ ?_|refine bC ?_ ?_|rfl|refine suZ ?_)|refine bD rfl ?_ ?_|exact aX hN _ rfl rfl rfl|exact aY hN _ rfl rfl rfl|exact aC hN _ rfl rfl rfl (Or.inr rfl)|(refine aU hN _ rfl rfl (by first|exact Or.inr rfl|exact Or.inl rfl) ?_;first|exact aZ _|exact a8 _)|refine aD hN rfl ?_|refine aE hN rfl rfl ?_|exact aB hN _ rfl rfl|exact aF hN rfl rfl rfl rfl|(with_reducible first|refine stZ ?_|refine aW ?_)));(try (any_goals (first|(with_reducible rfl)|(refine ak ?_;omega)))))
   intro k hk
   by_cases hkn : k < t.prio.length
   · have hl1:=hone k (by omega)
     (repeat' (first|(with_reducible first|(apply hK;clear hK K)|refine stZ ?_|refine aM rfl ?_|((first|apply ae|apply af);clear ae X af Y))|(with_reducible refine aP ?_;first|refine aN rfl ?_|refine aO rfl ?_)|(with_reducible refine be ?_;first|refine aK rfl rfl rfl rfl ?_|refine bc rfl rfl rfl ?_|refine bp rfl rfl rfl rfl ?_)|(with_reducible refine bU ?_;first|refine bN rfl rfl rfl rfl ?_|refine cn rfl rfl rfl ?_|refine cQ rfl rfl rfl rfl ?_|refine b8 hN ?_)|((first|(with_reducible first|((first|refine aS ?_|refine b9 ?_|refine aT ?_|refine ca ?_);intro K hK)|(refine az ?_;intro X Y ae af)|refine aA ?_)|(with_reducible refine be ?_;refine aL rfl rfl fun X Y ae af=>?_)|(with_reducible refine bU ?_;refine bO rfl rfl fun X Y ae af=>?_));simp (disch:=first|decide|omega|(simp only [List.length_cons,List.length_nil];omega)) only [go_sem,↓am hN,ao hN,reduceIte,reduceCtorEq,Nat.reduceAdd,Nat.reduceLT,Nat.reduceLeDiff,Nat.reduceEqDiff,Nat.reduceSub])|(with_reducible refine And.intro (fun h=>?_) (fun h=>?_) <;> try (exfalso;omega))|(with_reducible refine aR aG hN ?_)|(with_reducible refine bn aG hN ?_)|(with_reducible refine And.intro ?_ ?_)|(refine ak ?_;omega)|(exact aQ hN (by decide))))
     (refine cj (fun (j : Nat)=>(tmL [(7,.c (.int .i64 j)),(6,.c (.int .i64 k)),(5,.ad (ν 2) 0),(4,.ad (ν 1) 0),(3,.ad (ν 0) 0)],hpL hp0 ν [diE d1,.box [.c (.I g.ar.own),.c (.R g.ar.nxt),.c (.I g.prio)],.box [.c (.I t.ar.own),.c (.R t.ar.nxt),.c (.I t.prio)]])) (fun (j : Nat)=>j ≤ (gr t.ar.nxt k).length) (fun (j : Nat)=>(gr t.ar.nxt k).length - j) ⟨0,?_,bA hX hN [] ?_ ?_⟩ ?_;(repeat' (first|(with_reducible first|exact clZ|refine bB ?_ ?_|refine bC ?_ ?_|rfl|refine suZ ?_)|refine bD rfl ?_ ?_|exact aX hN _ rfl rfl rfl|exact aY hN _ rfl rfl rfl|exact aC hN _ rfl rfl rfl (Or.inr rfl)|(refine aU hN _ rfl rfl (by first|exact Or.inr rfl|exact Or.inl rfl) ?_;first|exact aZ _|exact a8 _)|refine aD hN rfl ?_|refine aE hN rfl rfl ?_|exact aB hN _ rfl rfl|exact aF hN rfl rfl rfl rfl|(with_reducible first|refine stZ ?_|refine aW ?_)));(try (any_goals (first|(with_reducible rfl)|(refine ak ?_;omega)))))
     intro j hj
     by_cases hjn : j < (gr t.ar.nxt k).length
     · have hu : gi (gr t.ar.nxt k) j ∈ gr t.ar.nxt k:=cE hjn
       have e1:=xX t k (gi (gr t.ar.nxt k) j)
       rw [aH (hneed k (by omega) _ hu)] at e1
       have e2:=kH g.ar hg.ar k (by omega) (gi (gr t.ar.nxt k) j)
       rw [aH (hrow k _ hu)] at e2
       (repeat' (first|(with_reducible first|(apply hK;clear hK K)|refine stZ ?_|refine aM rfl ?_|((first|apply ae|apply af);clear ae X af Y))|(with_reducible refine aP ?_;first|refine aN rfl ?_|refine aO rfl ?_)|(with_reducible refine be ?_;first|refine aK rfl rfl rfl rfl ?_|refine bc rfl rfl rfl ?_|refine bp rfl rfl rfl rfl ?_)|(with_reducible refine bU ?_;first|refine bN rfl rfl rfl rfl ?_|refine cn rfl rfl rfl ?_|refine cQ rfl rfl rfl rfl ?_|refine b8 hN ?_)|((first|(with_reducible first|((first|refine aS ?_|refine b9 ?_|refine aT ?_|refine ca ?_);intro K hK)|(refine az ?_;intro X Y ae af)|refine aA ?_)|(with_reducible refine be ?_;refine aL rfl rfl fun X Y ae af=>?_)|(with_reducible refine bU ?_;refine bO rfl rfl fun X Y ae af=>?_));simp (disch:=first|decide|omega|(simp only [List.length_cons,List.length_nil];omega)) only [go_sem,↓am hN,ao hN,reduceIte,reduceCtorEq,Nat.reduceAdd,Nat.reduceLT,Nat.reduceLeDiff,Nat.reduceEqDiff,Nat.reduceSub])|(with_reducible refine And.intro (fun h=>?_) (fun h=>?_) <;> try (exfalso;omega))|(with_reducible refine aR aG hN ?_)|(with_reducible refine bn aG hN ?_)|(first|refine bJ hN (e1) ?_|refine bJ hN (e2) ?_)|(simp only [ba,List.map_nil])|(with_reducible refine bo ?_)|(with_reducible refine And.intro ?_ ?_)|(refine ak ?_;omega)|(exact aQ hN (by decide))))
       (refine ⟨j + 1,⟨?_,?_⟩,bA hX hN [] ?_ ?_⟩;(try any_goals dsimp only);(repeat' (first|(with_reducible first|exact clZ|refine bB ?_ ?_|refine bC ?_ ?_|rfl|refine suZ ?_)|refine bD rfl ?_ ?_|exact aX hN _ rfl rfl rfl|exact aY hN _ rfl rfl rfl|exact aC hN _ rfl rfl rfl (Or.inr rfl)|(refine aU hN _ rfl rfl (by first|exact Or.inr rfl|exact Or.inl rfl) ?_;first|exact aZ _|exact a8 _)|refine aD hN rfl ?_|refine aE hN rfl rfl ?_|exact aB hN _ rfl rfl|exact aF hN rfl rfl rfl rfl|(with_reducible first|refine stZ ?_|refine aW ?_)));(try (any_goals (first|(with_reducible rfl)|(refine ak ?_;omega)))))
     obtain rfl : j = (gr t.ar.nxt k).length:=by omega
     (repeat' (first|(with_reducible first|(apply hK;clear hK K)|refine stZ ?_|refine aM rfl ?_|((first|apply ae|apply af);clear ae X af Y))|(with_reducible refine aP ?_;first|refine aN rfl ?_|refine aO rfl ?_)|(with_reducible refine be ?_;first|refine aK rfl rfl rfl rfl ?_|refine bc rfl rfl rfl ?_|refine bp rfl rfl rfl rfl ?_)|(with_reducible refine bU ?_;first|refine bN rfl rfl rfl rfl ?_|refine cn rfl rfl rfl ?_|refine cQ rfl rfl rfl rfl ?_|refine b8 hN ?_)|((first|(with_reducible first|((first|refine aS ?_|refine b9 ?_|refine aT ?_|refine ca ?_);intro K hK)|(refine az ?_;intro X Y ae af)|refine aA ?_)|(with_reducible refine be ?_;refine aL rfl rfl fun X Y ae af=>?_)|(with_reducible refine bU ?_;refine bO rfl rfl fun X Y ae af=>?_));simp (disch:=first|decide|omega|(simp only [List.length_cons,List.length_nil];omega)) only [go_sem,↓am hN,ao hN,reduceIte,reduceCtorEq,Nat.reduceAdd,Nat.reduceLT,Nat.reduceLeDiff,Nat.reduceEqDiff,Nat.reduceSub])|(with_reducible refine And.intro (fun h=>?_) (fun h=>?_) <;> try (exfalso;omega))|(with_reducible refine aR aG hN ?_)|(with_reducible refine bn aG hN ?_)|(with_reducible refine And.intro ?_ ?_)|(refine ak ?_;omega)|(exact aQ hN (by decide))))
     (refine ⟨k + 1,⟨?_,?_⟩,bA hX hN [] ?_ ?_⟩;(try any_goals dsimp only);(repeat' (first|(with_reducible first|exact clZ|refine bB ?_ ?_|refine bC ?_ ?_|rfl|refine suZ ?_)|refine bD rfl ?_ ?_|exact aX hN _ rfl rfl rfl|exact aY hN _ rfl rfl rfl|exact aC hN _ rfl rfl rfl (Or.inr rfl)|(refine aU hN _ rfl rfl (by first|exact Or.inr rfl|exact Or.inl rfl) ?_;first|exact aZ _|exact a8 _)|refine aD hN rfl ?_|refine aE hN rfl rfl ?_|exact aB hN _ rfl rfl|exact aF hN rfl rfl rfl rfl|(with_reducible first|refine stZ ?_|refine aW ?_)));(try (any_goals (first|(with_reducible rfl)|(refine ak ?_;omega)))))
   obtain rfl : k = t.prio.length:=by omega
   (repeat' (first|(with_reducible first|(apply hK;clear hK K)|refine stZ ?_|refine aM rfl ?_|((first|apply ae|apply af);clear ae X af Y))|(with_reducible refine aP ?_;first|refine aN rfl ?_|refine aO rfl ?_)|(with_reducible refine be ?_;first|refine aK rfl rfl rfl rfl ?_|refine bc rfl rfl rfl ?_|refine bp rfl rfl rfl rfl ?_)|(with_reducible refine bU ?_;first|refine bN rfl rfl rfl rfl ?_|refine cn rfl rfl rfl ?_|refine cQ rfl rfl rfl rfl ?_|refine b8 hN ?_)|((first|(with_reducible first|((first|refine aS ?_|refine b9 ?_|refine aT ?_|refine ca ?_);intro K hK)|(refine az ?_;intro X Y ae af)|refine aA ?_)|(with_reducible refine be ?_;refine aL rfl rfl fun X Y ae af=>?_)|(with_reducible refine bU ?_;refine bO rfl rfl fun X Y ae af=>?_));simp (disch:=first|decide|omega|(simp only [List.length_cons,List.length_nil];omega)) only [go_sem,↓am hN,ao hN,reduceIte,reduceCtorEq,Nat.reduceAdd,Nat.reduceLT,Nat.reduceLeDiff,Nat.reduceEqDiff,Nat.reduceSub])|(with_reducible refine And.intro (fun h=>?_) (fun h=>?_) <;> try (exfalso;omega))|(with_reducible refine aR aG hN ?_)|(with_reducible refine bn aG hN ?_)|(with_reducible refine And.intro ?_ ?_)|(refine ak ?_;omega)|(exact aQ hN (by decide))))
   (refine dd (.inr rfl) (by first|rfl|(simp (disch:=first|decide|omega|(simp only [List.length_cons,List.length_nil];omega)) only [bK,bS,bV,bY,go_sem,beq_self_eq_true,↓au,↓am hN,ao hN,reduceIte,reduceCtorEq,Nat.reduceAdd,Nat.reduceLT,Nat.reduceLeDiff,Nat.reduceEqDiff,Nat.reduceSub];rfl)) ?_)
   rfl
 · rw [show decide ((bs.length : Int) > 4096) = true by rw [decide_eq_true_iff];omega] at hbig
   (refine bh aG Try.func6 rfl rfl (by kernel_rfl) fun hp0 ν hX hN=>?_;simp only [cx,Nat.reduceAdd])
   (repeat' (first|(with_reducible first|(apply hK;clear hK K)|refine stZ ?_|refine aM rfl ?_|((first|apply ae|apply af);clear ae X af Y))|(with_reducible refine aP ?_;first|refine aN rfl ?_|refine aO rfl ?_)|(with_reducible refine be ?_;first|refine aK rfl rfl rfl rfl ?_|refine bc rfl rfl rfl ?_|refine bp rfl rfl rfl rfl ?_)|(with_reducible refine bU ?_;first|refine bN rfl rfl rfl rfl ?_|refine cn rfl rfl rfl ?_|refine cQ rfl rfl rfl rfl ?_|refine b8 hN ?_)|((first|(with_reducible first|((first|refine aS ?_|refine b9 ?_|refine aT ?_|refine ca ?_);intro K hK)|(refine az ?_;intro X Y ae af)|refine aA ?_)|(with_reducible refine be ?_;refine aL rfl rfl fun X Y ae af=>?_)|(with_reducible refine bU ?_;refine bO rfl rfl fun X Y ae af=>?_));simp (disch:=first|decide|omega|(simp only [List.length_cons,List.length_nil];omega)) only [go_sem,↓am hN,ao hN,reduceIte,reduceCtorEq,Nat.reduceAdd,Nat.reduceLT,Nat.reduceLeDiff,Nat.reduceEqDiff,Nat.reduceSub])|(with_reducible refine And.intro (fun h=>?_) (fun h=>?_) <;> try (exfalso;omega))|(with_reducible refine aR aG hN ?_)|(with_reducible refine bn aG hN ?_)|(refine bE hbig ?_ rfl (fun _=>rfl) ?_)|(with_reducible first|exact aV|refine aJ ?_ ?_|exact cF _|refine bv ?_|exact bz _|exact bR _ _|refine bQ ?_|exact bt _)|exact bw hN rfl rfl|(refine bP hN rfl ?_;first|exact aZ _|exact a8 _)|exact bu rfl rfl rfl|(simp only [ba,List.map_nil])|(with_reducible refine bo ?_)|(with_reducible refine And.intro ?_ ?_)|(refine ak ?_;omega)|(exact aQ hN (by decide))))
   (refine dd (.inr rfl) (by first|rfl|(simp (disch:=first|decide|omega|(simp only [List.length_cons,List.length_nil];omega)) only [bK,bS,bV,bY,go_sem,beq_self_eq_true,↓au,↓am hN,ao hN,reduceIte,reduceCtorEq,Nat.reduceAdd,Nat.reduceLT,Nat.reduceLeDiff,Nat.reduceEqDiff,Nat.reduceSub];rfl)) ?_)
   rfl
end Go.Proofs.Ytiadchinhofieaa
