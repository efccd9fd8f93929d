/-
  Dominions: the won region is one, and every one is a part of it.
-/
import Derived.Test.YtfaefmabjjndeaaZgG3
import Derived.Test.YtfaefmabjjndeaaZgE13
import Derived.Test.YtfaefmabjjndeaaZgE15
import Derived.Test.YtfaefmabjjndeaaZgD3
namespace Go.Proofs.Ytfaefmabjjndeaa
set_option linter.unusedVariables false
set_option linter.unusedSimpArgs false
open Go.RowKit
attribute [local irreducible] aG cO Aw Le
theorem ws (bs : List Int) (hl : bs.length ≤ 9223372036854775807) : aG Try.prog 15 [.c (.Y bs)] [] (fun _=>.c (.bool (decide ((bs.length : Int) > 4096)))):=by
 (refine bT aM Try.func15 rfl rfl (by kernel_rfl) fun hp0 ν hX hN=>?_;simp only [cL,Nat.reduceAdd])
 (repeat' (first|(with_reducible first|(refine hK _ _ ?_;clear hK K)|(refine aa _ ?_;clear aa K)|refine bh ?_|refine b7 ?_|refine a9 ?_|refine aq ?_|refine ap ?_|refine b8 ?_|refine aI ?_|refine ba ?_|refine b9 ?_|refine bc ?_|refine bd rfl ?_|refine bi ?_|refine be ?_|refine ca ?_|refine bf ?_|refine aH ?_|refine n_k ?_|refine bg ?_|(refine ae ?_;clear ae X af Y)|(refine af ?_;clear ae X af Y))|(with_reducible refine bo ?_;first|refine bm rfl ?_|refine bn rfl ?_)|(with_reducible refine aW ?_;first|refine au rfl rfl rfl rfl ?_|refine aK rfl rfl rfl ?_|refine bt rfl rfl rfl rfl ?_)|((first|(with_reducible first|refine bp rfl rfl fun K hK=>?_|refine br rfl rfl fun K aa=>?_|refine aJ fun X Y ae af=>?_|refine aL ?_));simp (disch:=first|decide|omega|(simp only [List.length_cons,List.length_nil];omega)) only [go_sem,beq_self_eq_true,↓aj,↓ak hN,am hN,reduceIte,reduceCtorEq,Nat.reduceAdd,Nat.reduceLT,Nat.reduceLeDiff,Nat.reduceEqDiff,Nat.reduceSub])|(with_reducible refine And.intro (fun h=>?_) (fun h=>?_) <;> try (exfalso;omega))|(with_reducible refine bj aM hN rfl ?_ ?_;kernel_rfl)|(with_reducible refine And.intro ?_ ?_)|(refine ah ?_;omega)|(exact bu hN (by decide))))
 (refine cN (.inr rfl) (by first|rfl|(simp (disch:=first|decide|omega|(simp only [List.length_cons,List.length_nil];omega)) only [ci,cj,cm,co,go_sem,beq_self_eq_true,↓aj,↓ak hN,am hN,reduceIte,reduceCtorEq,Nat.reduceAdd,Nat.reduceLT,Nat.reduceLeDiff,Nat.reduceEqDiff,Nat.reduceSub];rfl)) ?_)
 rfl
theorem kx (xs ys : List Int) (hl : xs.length ≤ 1048576) : aG Try.prog 30 [.c (.I xs),.c (.I ys)] [] (fun _=>.c (.bool (tf (xs = ys)))):=by
 (refine bT aM Try.func30 rfl rfl (by kernel_rfl) fun hp0 ν hX hN=>?_;simp only [cL,Nat.reduceAdd])
 (repeat' (first|(with_reducible first|(refine hK _ _ ?_;clear hK K)|(refine aa _ ?_;clear aa K)|(refine ab _ _ _ ?_;clear ab K)|(refine ac _ _ ?_;clear ac K)|refine bh ?_|refine b7 ?_|refine a9 ?_|refine aq ?_|refine ap ?_|refine b8 ?_|refine aI ?_|refine ba ?_|refine b9 ?_|refine bc ?_|refine bd rfl ?_|refine bi ?_|refine be ?_|refine ca ?_|refine bf ?_|refine aH ?_|refine n_k ?_|refine bg ?_|(refine ae ?_;clear ae X af Y)|(refine af ?_;clear ae X af Y))|(with_reducible refine bo ?_;first|refine bm rfl ?_|refine bn rfl ?_)|(with_reducible refine aW ?_;first|refine au rfl rfl rfl rfl ?_|refine aK rfl rfl rfl ?_|refine bt rfl rfl rfl rfl ?_)|(with_reducible refine cr ?_;first|refine bR rfl rfl rfl rfl ?_|refine cf rfl rfl rfl ?_|refine cA rfl rfl rfl rfl ?_|refine cB hN (by apply Exists.intro;apply And.intro;(repeat' (first|apply FtI.nil|apply FI.nil|apply FI.cons|apply FtI.cons));kernel_rfl) ?_)|((first|(with_reducible first|refine bp rfl rfl fun K hK=>?_|refine cy rfl rfl fun K ab=>?_|refine br rfl rfl fun K aa=>?_|refine cz rfl rfl fun K ac=>?_|refine aJ fun X Y ae af=>?_|refine aL ?_));simp (disch:=first|decide|omega|(simp only [List.length_cons,List.length_nil];omega)) only [go_sem,beq_self_eq_true,↓aj,↓ak hN,am hN,reduceIte,reduceCtorEq,Nat.reduceAdd,Nat.reduceLT,Nat.reduceLeDiff,Nat.reduceEqDiff,Nat.reduceSub])|(with_reducible refine And.intro (fun h=>?_) (fun h=>?_) <;> try (exfalso;omega))|(with_reducible refine bj aM hN rfl ?_ ?_;kernel_rfl)|(with_reducible refine bS aM hN rfl ?_ ?_ ?_ ?_;(kernel_rfl);(kernel_rfl);(kernel_rfl))|(with_reducible refine And.intro ?_ ?_)|(refine ah ?_;omega)|(exact bu hN (by decide))))
 · have hne : ¬ ((xs.length : Int) = ys.length):=by assumption
   (refine cN (.inr rfl) (by first|rfl|(simp (disch:=first|decide|omega|(simp only [List.length_cons,List.length_nil];omega)) only [ci,cj,cm,co,go_sem,beq_self_eq_true,↓aj,↓ak hN,am hN,reduceIte,reduceCtorEq,Nat.reduceAdd,Nat.reduceLT,Nat.reduceLeDiff,Nat.reduceEqDiff,Nat.reduceSub];rfl)) ?_)
   exact congrArg C.bool (aX fun e=>hne (by rw [e])).symm
 have hlen : xs.length = ys.length := by have h0 : ((xs.length : Int) != ys.length) = false := by assumption
                                         have : (xs.length : Int) = ys.length:=by simpa using h0
                                         omega
 (refine ck (fun (k : Nat)=>(tmL [(5,.c (.int .i64 k)),(0,.c (.I xs)),(1,.c (.I ys))],hpL hp0 ν [])) (fun (k : Nat)=>k ≤ xs.length ∧ ∀ j,j < k → gi xs j = gi ys j) (fun (k : Nat)=>xs.length - k) ⟨0,?_,bU hX hN [] ?_ ?_⟩ ?_;(repeat' (first|(with_reducible first|exact bL _|exact bM|exact bN|refine bO ?_ ?_|refine bP ?_ ?_|exact ay _|exact bJ _|exact ao _|rfl|exact aR _ _|refine aA ?_|exact bK _|refine aU ?_)|refine bQ rfl ?_ ?_|exact aS hN _ rfl rfl rfl|exact aT hN _ rfl rfl rfl|exact aB hN _ rfl rfl rfl (Or.inr rfl)|(refine aP hN _ rfl rfl (by first|exact Or.inr rfl|exact Or.inl rfl) ?_;first|exact aN _|exact aO _)|refine aC hN rfl ?_|refine aD hN rfl rfl ?_|exact az hN _ rfl rfl|exact aE hN rfl rfl rfl rfl|(with_reducible first|refine aQ ?_|refine bC ?_|refine bE ?_|refine bF ?_|refine bD ?_|refine bB ?_)));(try (any_goals (first|(with_reducible rfl)|(refine ah ?_;omega)))))
 · exact ⟨Nat.zero_le _,fun j hj=>absurd hj (Nat.not_lt_zero _)⟩
 rintro k ⟨hk,ho⟩
 (repeat' (first|(with_reducible first|(refine hK _ _ ?_;clear hK K)|(refine aa _ ?_;clear aa K)|(refine ab _ _ _ ?_;clear ab K)|(refine ac _ _ ?_;clear ac K)|refine bh ?_|refine b7 ?_|refine a9 ?_|refine aq ?_|refine ap ?_|refine b8 ?_|refine aI ?_|refine ba ?_|refine b9 ?_|refine bc ?_|refine bd rfl ?_|refine bi ?_|refine be ?_|refine ca ?_|refine bf ?_|refine aH ?_|refine n_k ?_|refine bg ?_|(refine ae ?_;clear ae X af Y)|(refine af ?_;clear ae X af Y))|(with_reducible refine bo ?_;first|refine bm rfl ?_|refine bn rfl ?_)|(with_reducible refine aW ?_;first|refine au rfl rfl rfl rfl ?_|refine aK rfl rfl rfl ?_|refine bt rfl rfl rfl rfl ?_)|(with_reducible refine cr ?_;first|refine bR rfl rfl rfl rfl ?_|refine cf rfl rfl rfl ?_|refine cA rfl rfl rfl rfl ?_|refine cB hN (by apply Exists.intro;apply And.intro;(repeat' (first|apply FtI.nil|apply FI.nil|apply FI.cons|apply FtI.cons));kernel_rfl) ?_)|((first|(with_reducible first|refine bp rfl rfl fun K hK=>?_|refine cy rfl rfl fun K ab=>?_|refine br rfl rfl fun K aa=>?_|refine cz rfl rfl fun K ac=>?_|refine aJ fun X Y ae af=>?_|refine aL ?_));simp (disch:=first|decide|omega|(simp only [List.length_cons,List.length_nil];omega)) only [go_sem,beq_self_eq_true,↓aj,↓ak hN,am hN,reduceIte,reduceCtorEq,Nat.reduceAdd,Nat.reduceLT,Nat.reduceLeDiff,Nat.reduceEqDiff,Nat.reduceSub])|(with_reducible refine And.intro (fun h=>?_) (fun h=>?_) <;> try (exfalso;omega))|(with_reducible refine bj aM hN rfl ?_ ?_;kernel_rfl)|(with_reducible refine bS aM hN rfl ?_ ?_ ?_ ?_;(kernel_rfl);(kernel_rfl);(kernel_rfl))|(with_reducible refine And.intro ?_ ?_)|(refine ah ?_;omega)|(exact bu hN (by decide))))
 · (refine cN (.inr rfl) (by first|rfl|(simp (disch:=first|decide|omega|(simp only [List.length_cons,List.length_nil];omega)) only [ci,cj,cm,co,go_sem,beq_self_eq_true,↓aj,↓ak hN,am hN,reduceIte,reduceCtorEq,Nat.reduceAdd,Nat.reduceLT,Nat.reduceLeDiff,Nat.reduceEqDiff,Nat.reduceSub];rfl)) ?_)
   exact congrArg C.bool (aX fun e=>(by assumption : ¬ gi xs k = gi ys k) (by rw [e])).symm
 · have h0 : (gi xs k != gi ys k) = false:=by assumption
   (refine ⟨k + 1,⟨?_,?_⟩,bU hX hN [] ?_ ?_⟩;(try any_goals dsimp only);(repeat' (first|(with_reducible first|exact bL _|exact bM|exact bN|refine bO ?_ ?_|refine bP ?_ ?_|exact ay _|exact bJ _|exact ao _|rfl|exact aR _ _|refine aA ?_|exact bK _|refine aU ?_)|refine bQ rfl ?_ ?_|exact aS hN _ rfl rfl rfl|exact aT hN _ rfl rfl rfl|exact aB hN _ rfl rfl rfl (Or.inr rfl)|(refine aP hN _ rfl rfl (by first|exact Or.inr rfl|exact Or.inl rfl) ?_;first|exact aN _|exact aO _)|refine aC hN rfl ?_|refine aD hN rfl rfl ?_|exact az hN _ rfl rfl|exact aE hN rfl rfl rfl rfl|(with_reducible first|refine aQ ?_|refine bC ?_|refine bE ?_|refine bF ?_|refine bD ?_|refine bB ?_)));(try (any_goals (first|(with_reducible rfl)|(refine ah ?_;omega)))))
   exact ⟨by omega,dG ho (by simpa using h0)⟩
 · (refine cN (.inr rfl) (by first|rfl|(simp (disch:=first|decide|omega|(simp only [List.length_cons,List.length_nil];omega)) only [ci,cj,cm,co,go_sem,beq_self_eq_true,↓aj,↓ak hN,am hN,reduceIte,reduceCtorEq,Nat.reduceAdd,Nat.reduceLT,Nat.reduceLeDiff,Nat.reduceEqDiff,Nat.reduceSub];rfl)) ?_)
   exact congrArg C.bool (bZ ((iV hlen).2 fun j hj=>ho j (by omega))).symm
end Go.Proofs.Ytfaefmabjjndeaa
namespace Go.Proofs.Ytfaefmabjjndeaa
set_option linter.unusedVariables false
set_option linter.unusedSimpArgs false
open Go.RowKit
attribute [local irreducible] aG cO Aw Le
def atL (xs : List Int) (x : Int) : List Int:=c7 (cP xs.length fun v=>gi xs v == x) xs.length
theorem mq {xs : List Int} {x z : Int} : z ∈ atL xs x ↔ ∃ v,v < xs.length ∧ z = (v : Int) ∧ gi xs v = x:=by
 unfold atL
 rw [dR]
 constructor
 · rintro ⟨v,h1,h2,h3⟩
   rw [dE _ h1] at h3
   exact ⟨v,h1,h2,by simpa using h3⟩
 · rintro ⟨v,h1,h2,h3⟩
   exact ⟨v,h1,h2,by rw [dE _ h1];simpa using h3⟩
theorem ox {bs : List Bool} : ∀ k : Nat,cI (c7 bs k) k:=by
 intro k
 induction k with
 | zero => exact fun j hj => absurd hj (Nat.not_lt_zero _)
 | succ k ih =>
   rw [c7]
   have hw : cI (c7 bs k) ((k + 1 : Nat) : Int):=fun j hj=>by have:=ih j hj;exact ⟨this.1,by omega,this.2.2⟩
   split
   · intro j hj
     have hj' : j < (c7 bs k).length + 1:=by simpa using hj
     rw [e8]
     by_cases e : j < (c7 bs k).length
     · rw [if_pos e]
       obtain ⟨a,b,c⟩:=hw j e
       refine ⟨a,b,fun h=>?_⟩
       rw [e8,if_pos (by omega)]
       exact c h
     · have e2 : j = (c7 bs k).length:=by omega
       rw [if_neg e,if_pos e2]
       refine ⟨by omega,by omega,fun h=>?_⟩
       rw [e8,if_pos (by omega)]
       have:=ih (j - 1) (by omega)
       omega
   · rw [List.append_nil];exact hw
theorem ly (xs : List Int) (x : Int) : cI (atL xs x) xs.length:=ox _
end Go.Proofs.Ytfaefmabjjndeaa
namespace Go.Proofs.Ytfaefmabjjndeaa
set_option linter.unusedVariables false
set_option linter.unusedSimpArgs false
open Go.RowKit
theorem np {g : Pa} (hg : PaOk g) {v : Nat} (hv : v < g.prio.length) : (pgP g).own v = gi g.ar.own v:=om (jT hg) hv
theorem t7 {g : Pa} (v : Nat) (h : fU g v) : v < g.prio.length:=h
theorem ic {g : Pa} (hg : PaOk g) {v : Nat} (hv : v < g.prio.length) {i : Int} (hi : i = 0 ∨ i = 1) : gi (bH g) v = i ↔ PG.Won (pgP g) i (fU g) v:=by
 have hn:=PG.won_not (G:=pgP g) kw (fun v h=>h) (fV hg) (S:=fU g) (v:=v) hv
 unfold bH
 rw [df _ hv]
 by_cases h : PG.Won (pgP g) 0 (fU g) v
 · rw [bZ h]
   rcases hi with e|e
   · subst e;exact ⟨fun _=>h,fun _=>rfl⟩
   · subst e;exact ⟨fun e=>absurd e (by decide),fun h'=>absurd h (hn.1 h')⟩
 · rw [aX h]
   rcases hi with e|e
   · subst e;exact ⟨fun e=>absurd e (by decide),fun h'=>absurd h' h⟩
   · subst e;exact ⟨fun _=>hn.2 h,fun _=>rfl⟩
theorem iW {g : Pa} {v : Nat} (hv : v < g.prio.length) : gi (bH g) v = 0 ∨ gi (bH g) v = 1:=by
 unfold bH
 rw [df _ hv]
 split
 · exact .inl rfl
 · exact .inr rfl
theorem tO {g : Pa} (hg : PaOk g) {i : Int} (hi : i = 0 ∨ i = 1) (v : Nat) : (v : Int) ∈ atL (bH g) i ↔ PG.Won (pgP g) i (fU g) v:=by
 rw [mq,dN]
 constructor
 · rintro ⟨u,h1,h2,h3⟩
   have : u = v:=by omega
   subst this
   exact (ic hg h1 hi).1 h3
 · intro h
   have hv : v < g.prio.length:=PG.won_in (S:=fU g) h
   exact ⟨v,hv,rfl,(ic hg hv hi).2 h⟩
end Go.Proofs.Ytfaefmabjjndeaa
