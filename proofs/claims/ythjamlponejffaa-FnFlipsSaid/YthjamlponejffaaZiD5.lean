/-
  Dominions: the won region is one, and every one is a part of it.
-/
import Derived.Test.YthjamlponejffaaZiG3
import Derived.Test.YthjamlponejffaaZiE13
import Derived.Test.YthjamlponejffaaZiE15
import Derived.Test.YthjamlponejffaaZiD3
namespace Go.Proofs.Ythjamlponejffaa
set_option linter.unusedVariables false
set_option linter.unusedSimpArgs false
open Go.RowKit
attribute [local irreducible] ap b9 Aw Le
theorem tR (bs : List Int) (hl : bs.length ≤ 9223372036854775807) : ap Try.prog 22 [.c (.Y bs)] [] (fun _=>.c (.bool (decide ((bs.length : Int) > 4096)))):=by
 (refine bA aQ Try.func22 rfl rfl (by kernel_rfl) fun hp0 ν hX hN=>?_;simp only [cG,Nat.reduceAdd])
 (repeat' (first|(with_reducible first|(apply hK;clear hK K)|refine stZ ?_|refine aZ rfl ?_|((first|apply ae|apply af);clear ae X af Y))|(with_reducible refine bc ?_;first|refine a8 rfl ?_|refine ba rfl ?_)|((with_reducible first|((first|refine bf ?_|refine bg ?_);intro K hK)|(refine aN ?_;intro X Y ae af)|refine aO ?_);simp (disch:=first|decide|omega|(simp only [List.length_cons,List.length_nil];omega)) only [go_sem,↓ah hN,ak hN,reduceIte,reduceCtorEq,Nat.reduceAdd,Nat.reduceLT,Nat.reduceLeDiff,Nat.reduceEqDiff,Nat.reduceSub])|(with_reducible refine And.intro (fun h=>?_) (fun h=>?_) <;> try (exfalso;omega))|(with_reducible refine be aQ hN ?_)|(with_reducible refine And.intro ?_ ?_)|(refine aj ?_;omega)|(exact bd hN (by decide))))
 (refine dj (.inr rfl) (by first|rfl|(simp (disch:=first|decide|omega|(simp only [List.length_cons,List.length_nil];omega)) only [bS,cc,ch,cj,go_sem,beq_self_eq_true,↓ax,↓ah hN,ak hN,reduceIte,reduceCtorEq,Nat.reduceAdd,Nat.reduceLT,Nat.reduceLeDiff,Nat.reduceEqDiff,Nat.reduceSub];rfl)) ?_)
 rfl
theorem iT (xs ys : List Int) (hl : xs.length ≤ 1048576) : ap Try.prog 32 [.c (.I xs),.c (.I ys)] [] (fun _=>.c (.bool (tf (xs = ys)))):=by
 (refine bA aQ Try.func32 rfl rfl (by kernel_rfl) fun hp0 ν hX hN=>?_;simp only [cG,Nat.reduceAdd])
 (repeat' (first|(with_reducible first|(apply hK;clear hK K)|refine stZ ?_|refine aZ rfl ?_|((first|apply ae|apply af);clear ae X af Y))|(with_reducible refine bc ?_;first|refine a8 rfl ?_|refine ba rfl ?_)|(with_reducible refine cm ?_;refine cr hN ?_)|((with_reducible first|((first|refine bf ?_|refine ct ?_|refine bg ?_|refine cw ?_);intro K hK)|(refine aN ?_;intro X Y ae af)|refine aO ?_);simp (disch:=first|decide|omega|(simp only [List.length_cons,List.length_nil];omega)) only [go_sem,↓ah hN,ak hN,reduceIte,reduceCtorEq,Nat.reduceAdd,Nat.reduceLT,Nat.reduceLeDiff,Nat.reduceEqDiff,Nat.reduceSub])|(with_reducible refine And.intro (fun h=>?_) (fun h=>?_) <;> try (exfalso;omega))|(with_reducible refine be aQ hN ?_)|(with_reducible refine bB aQ hN ?_)|(with_reducible refine And.intro ?_ ?_)|(refine aj ?_;omega)|(exact bd hN (by decide))))
 · have hne : ¬ ((xs.length : Int) = ys.length):=by assumption
   (refine dj (.inr rfl) (by first|rfl|(simp (disch:=first|decide|omega|(simp only [List.length_cons,List.length_nil];omega)) only [bS,cc,ch,cj,go_sem,beq_self_eq_true,↓ax,↓ah hN,ak hN,reduceIte,reduceCtorEq,Nat.reduceAdd,Nat.reduceLT,Nat.reduceLeDiff,Nat.reduceEqDiff,Nat.reduceSub];rfl)) ?_)
   exact congrArg C.bool (aH fun e=>hne (by rw [e])).symm
 have hlen : xs.length = ys.length := by have h0 : ((xs.length : Int) != ys.length) = false := by assumption
                                         have : (xs.length : Int) = ys.length:=by simpa using h0
                                         omega
 (refine cf (fun (k : Nat)=>(tmL [(5,.c (.int .i64 k)),(0,.c (.I xs)),(1,.c (.I ys))],hpL hp0 ν [])) (fun (k : Nat)=>k ≤ xs.length ∧ ∀ j,j < k → gi xs j = gi ys j) (fun (k : Nat)=>xs.length - k) ⟨0,?_,bE hX hN [] ?_ ?_⟩ ?_;(repeat' (first|(with_reducible first|exact clZ|refine bv ?_ ?_|refine bw ?_ ?_|rfl|refine suZ ?_)|refine bz rfl ?_ ?_|exact aU hN _ rfl rfl rfl|exact aV hN _ rfl rfl rfl|exact az hN _ rfl rfl rfl (Or.inr rfl)|(refine aW hN _ rfl rfl (by first|exact Or.inr rfl|exact Or.inl rfl) ?_;first|exact aF _|exact aG _)|refine aA hN rfl ?_|refine aB hN rfl rfl ?_|exact ay hN _ rfl rfl|exact aC hN rfl rfl rfl rfl|(with_reducible first|refine stZ ?_|refine aT ?_)));(try (any_goals (first|(with_reducible rfl)|(refine aj ?_;omega)))))
 · exact ⟨Nat.zero_le _,fun j hj=>absurd hj (Nat.not_lt_zero _)⟩
 rintro k ⟨hk,ho⟩
 (repeat' (first|(with_reducible first|(apply hK;clear hK K)|refine stZ ?_|refine aZ rfl ?_|((first|apply ae|apply af);clear ae X af Y))|(with_reducible refine bc ?_;first|refine a8 rfl ?_|refine ba rfl ?_)|(with_reducible refine cm ?_;refine cr hN ?_)|((with_reducible first|((first|refine bf ?_|refine ct ?_|refine bg ?_|refine cw ?_);intro K hK)|(refine aN ?_;intro X Y ae af)|refine aO ?_);simp (disch:=first|decide|omega|(simp only [List.length_cons,List.length_nil];omega)) only [go_sem,↓ah hN,ak hN,reduceIte,reduceCtorEq,Nat.reduceAdd,Nat.reduceLT,Nat.reduceLeDiff,Nat.reduceEqDiff,Nat.reduceSub])|(with_reducible refine And.intro (fun h=>?_) (fun h=>?_) <;> try (exfalso;omega))|(with_reducible refine be aQ hN ?_)|(with_reducible refine bB aQ hN ?_)|(with_reducible refine And.intro ?_ ?_)|(refine aj ?_;omega)|(exact bd hN (by decide))))
 · (refine dj (.inr rfl) (by first|rfl|(simp (disch:=first|decide|omega|(simp only [List.length_cons,List.length_nil];omega)) only [bS,cc,ch,cj,go_sem,beq_self_eq_true,↓ax,↓ah hN,ak hN,reduceIte,reduceCtorEq,Nat.reduceAdd,Nat.reduceLT,Nat.reduceLeDiff,Nat.reduceEqDiff,Nat.reduceSub];rfl)) ?_)
   exact congrArg C.bool (aH fun e=>(by assumption : ¬ gi xs k = gi ys k) (by rw [e])).symm
 · have h0 : (gi xs k != gi ys k) = false:=by assumption
   (refine ⟨k + 1,⟨?_,?_⟩,bE hX hN [] ?_ ?_⟩;(try any_goals dsimp only);(repeat' (first|(with_reducible first|exact clZ|refine bv ?_ ?_|refine bw ?_ ?_|rfl|refine suZ ?_)|refine bz rfl ?_ ?_|exact aU hN _ rfl rfl rfl|exact aV hN _ rfl rfl rfl|exact az hN _ rfl rfl rfl (Or.inr rfl)|(refine aW hN _ rfl rfl (by first|exact Or.inr rfl|exact Or.inl rfl) ?_;first|exact aF _|exact aG _)|refine aA hN rfl ?_|refine aB hN rfl rfl ?_|exact ay hN _ rfl rfl|exact aC hN rfl rfl rfl rfl|(with_reducible first|refine stZ ?_|refine aT ?_)));(try (any_goals (first|(with_reducible rfl)|(refine aj ?_;omega)))))
   exact ⟨by omega,lk ho (by simpa using h0)⟩
 · (refine dj (.inr rfl) (by first|rfl|(simp (disch:=first|decide|omega|(simp only [List.length_cons,List.length_nil];omega)) only [bS,cc,ch,cj,go_sem,beq_self_eq_true,↓ax,↓ah hN,ak hN,reduceIte,reduceCtorEq,Nat.reduceAdd,Nat.reduceLT,Nat.reduceLeDiff,Nat.reduceEqDiff,Nat.reduceSub];rfl)) ?_)
   exact congrArg C.bool (bh ((lm hlen).2 fun j hj=>ho j (by omega))).symm
theorem iU (n : Nat) (hn : n ≤ 256) : ap Try.prog 41 [.c (.int .i64 n)] [.arr 2 .yes (.I (tab n fun v=>v))] (fun ns=>.sl (ns.getD 0 0)):=by
 (refine bA aQ Try.func41 rfl rfl (by kernel_rfl) fun hp0 ν hX hN=>?_;simp only [cG,Nat.reduceAdd])
 (repeat' (first|(with_reducible first|(apply hK;clear hK K)|refine stZ ?_|refine aZ rfl ?_|((first|apply ae|apply af);clear ae X af Y))|(with_reducible refine bc ?_;first|refine a8 rfl ?_|refine ba rfl ?_)|(with_reducible refine bG ?_;first|refine bo rfl rfl rfl rfl ?_|refine bF rfl rfl rfl ?_|refine bX rfl rfl rfl rfl ?_)|((first|(with_reducible first|((first|refine bf ?_|refine bg ?_);intro K hK)|(refine aN ?_;intro X Y ae af)|refine aO ?_)|(with_reducible refine bG ?_;refine bp rfl rfl fun X Y ae af=>?_));simp (disch:=first|decide|omega|(simp only [List.length_cons,List.length_nil];omega)) only [go_sem,↓ah hN,ak hN,reduceIte,reduceCtorEq,Nat.reduceAdd,Nat.reduceLT,Nat.reduceLeDiff,Nat.reduceEqDiff,Nat.reduceSub])|(with_reducible refine And.intro (fun h=>?_) (fun h=>?_) <;> try (exfalso;omega))|(with_reducible refine be aQ hN ?_)|(with_reducible refine And.intro ?_ ?_)|(refine aj ?_;omega)|(exact bd hN (by decide))))
 (refine cf (fun (k : Nat)=>(tmL [(4,.c (.int .i64 k)),(3,.sl (ν 0)),(0,.c (.int .i64 n))],hpL hp0 ν [.arr 2 .yes (.I (tab k fun v=>v))])) (fun (k : Nat)=>k ≤ n) (fun (k : Nat)=>n - k) ⟨0,?_,bE hX hN [] ?_ ?_⟩ ?_;(repeat' (first|(with_reducible first|exact clZ|refine bv ?_ ?_|refine bw ?_ ?_|rfl|refine suZ ?_)|refine bz rfl ?_ ?_|exact aU hN _ rfl rfl rfl|exact aV hN _ rfl rfl rfl|exact az hN _ rfl rfl rfl (Or.inr rfl)|(refine aW hN _ rfl rfl (by first|exact Or.inr rfl|exact Or.inl rfl) ?_;first|exact aF _|exact aG _)|refine aA hN rfl ?_|refine aB hN rfl rfl ?_|exact ay hN _ rfl rfl|exact aC hN rfl rfl rfl rfl|(with_reducible first|refine stZ ?_|refine aT ?_)));(try (any_goals (first|(with_reducible rfl)|(refine aj ?_;omega)))))
 · rfl
 intro k hk
 have hlen:=bD k fun v=>(v : Int)
 (repeat' (first|(with_reducible first|(apply hK;clear hK K)|refine stZ ?_|refine aZ rfl ?_|((first|apply ae|apply af);clear ae X af Y))|(with_reducible refine bc ?_;first|refine a8 rfl ?_|refine ba rfl ?_)|(with_reducible refine bG ?_;first|refine bo rfl rfl rfl rfl ?_|refine bF rfl rfl rfl ?_|refine bX rfl rfl rfl rfl ?_)|((first|(with_reducible first|((first|refine bf ?_|refine bg ?_);intro K hK)|(refine aN ?_;intro X Y ae af)|refine aO ?_)|(with_reducible refine bG ?_;refine bp rfl rfl fun X Y ae af=>?_));simp (disch:=first|decide|omega|(simp only [List.length_cons,List.length_nil];omega)) only [go_sem,↓ah hN,ak hN,reduceIte,reduceCtorEq,Nat.reduceAdd,Nat.reduceLT,Nat.reduceLeDiff,Nat.reduceEqDiff,Nat.reduceSub])|(with_reducible refine And.intro (fun h=>?_) (fun h=>?_) <;> try (exfalso;omega))|(with_reducible refine be aQ hN ?_)|(with_reducible refine And.intro ?_ ?_)|(refine aj ?_;omega)|(exact bd hN (by decide))))
 · (refine ⟨k + 1,⟨?_,?_⟩,bE hX hN [(0,2)] ?_ ?_⟩;(try any_goals dsimp only);(repeat' (first|(with_reducible first|exact clZ|refine bv ?_ ?_|refine bw ?_ ?_|rfl|refine suZ ?_)|refine bz rfl ?_ ?_|exact aU hN _ rfl rfl rfl|exact aV hN _ rfl rfl rfl|exact az hN _ rfl rfl rfl (Or.inr rfl)|(refine aW hN _ rfl rfl (by first|exact Or.inr rfl|exact Or.inl rfl) ?_;first|exact aF _|exact aG _)|refine aA hN rfl ?_|refine aB hN rfl rfl ?_|exact ay hN _ rfl rfl|exact aC hN rfl rfl rfl rfl|(with_reducible first|refine stZ ?_|refine aT ?_)));(try (any_goals (first|(with_reducible rfl)|(refine aj ?_;omega)))))
   exact fi k fun v=>(v : Int)
 · (refine e8 hN (i:=0) (.inr rfl) (by first|rfl|(simp (disch:=first|decide|omega|(simp only [List.length_cons,List.length_nil];omega)) only [bS,cc,ch,cj,go_sem,beq_self_eq_true,↓ax,↓ah hN,ak hN,reduceIte,reduceCtorEq,Nat.reduceAdd,Nat.reduceLT,Nat.reduceLeDiff,Nat.reduceEqDiff,Nat.reduceSub];rfl)) rfl ?_ rfl)
   rw [show k = n by omega]
end Go.Proofs.Ythjamlponejffaa
namespace Go.Proofs.Ythjamlponejffaa
set_option linter.unusedVariables false
set_option linter.unusedSimpArgs false
open Go.RowKit
attribute [local irreducible] ap b9 Aw Le
def atL (xs : List Int) (x : Int) : List Int:=cX (bZ xs.length fun v=>gi xs v == x) xs.length
theorem ms {bs : List Bool} : ∀ k : Nat,bC (cX bs k) k:=by
 intro k
 induction k with
 | zero => exact fun j hj => absurd hj (Nat.not_lt_zero _)
 | succ k ih =>
   rw [cX]
   have hw : bC (cX bs k) ((k + 1 : Nat) : Int):=fun j hj=>by have:=ih j hj;exact ⟨this.1,by omega,this.2.2⟩
   split
   · intro j hj
     have hj' : j < (cX bs k).length + 1:=by simpa using hj
     rw [dI]
     by_cases e : j < (cX bs k).length
     · rw [if_pos e]
       obtain ⟨a,b,c⟩:=hw j e
       refine ⟨a,b,fun h=>?_⟩
       rw [dI,if_pos (by omega)]
       exact c h
     · have e2 : j = (cX bs k).length:=by omega
       rw [if_neg e,if_pos e2]
       refine ⟨by omega,by omega,fun h=>?_⟩
       rw [dI,if_pos (by omega)]
       have:=ih (j - 1) (by omega)
       omega
   · rw [List.append_nil];exact hw
theorem jH (xs : List Int) (x : Int) : bC (atL xs x) xs.length:=ms _
end Go.Proofs.Ythjamlponejffaa
namespace Go.Proofs.Ythjamlponejffaa
set_option linter.unusedVariables false
set_option linter.unusedSimpArgs false
open Go.RowKit
theorem m9 {g : Pa} (hg : PaOk g) {v : Nat} (hv : v < g.prio.length) : (pgP g).own v = gi g.ar.own v:=pD (dL hg) hv
theorem rh {g : Pa} (v : Nat) (h : dy g v) : v < g.prio.length:=h
theorem na {g : Pa} (hg : PaOk g) {v : Nat} (hv : v < g.prio.length) {i : Int} (hi : i = 0 ∨ i = 1) : gi (cE g) v = i ↔ PG.Won (pgP g) i (dy g) v:=by
 have hn:=PG.won_not (G:=pgP g) lj (fun v h=>h) (dQ hg) (S:=dy g) (v:=v) hv
 unfold cE
 rw [bH _ hv]
 by_cases h : PG.Won (pgP g) 0 (dy g) v
 · rw [bh h]
   rcases hi with e|e
   · subst e;exact ⟨fun _=>h,fun _=>rfl⟩
   · subst e;exact ⟨fun e=>absurd e (by decide),fun h'=>absurd h (hn.1 h')⟩
 · rw [aH h]
   rcases hi with e|e
   · subst e;exact ⟨fun e=>absurd e (by decide),fun h'=>absurd h' h⟩
   · subst e;exact ⟨fun _=>hn.2 h,fun _=>rfl⟩
end Go.Proofs.Ythjamlponejffaa
