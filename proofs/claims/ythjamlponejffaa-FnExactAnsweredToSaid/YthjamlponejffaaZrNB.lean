/-
  Queries, the reference: rounds and answers.
-/
import Derived.Test.YthjamlponejffaaZrNA
import Derived.Test.YthjamlponejffaaZrE9
namespace Go.Proofs.Ythjamlponejffaa
set_option linter.unusedVariables false
set_option linter.unusedSimpArgs false
open Go.RowKit
attribute [local irreducible] aw cu Aw Le
theorem lG {n v : Nat} {p : Nat → Prop} : gb (mks n p) v = true ↔ v < n ∧ p v:=by
 by_cases h : v < n
 · rw [eq p h]
   exact ⟨fun h'=>⟨h,gJ.1 h'⟩,fun h'=>aA h'.2⟩
 · refine ⟨fun h'=>?_,fun h'=>absurd h'.1 h⟩
   have : (mks n p).length = n:=bw _ _
   simp [gb,List.getD_eq_getElem?_getD,List.getElem?_eq_none (show (mks n p).length ≤ v by omega)] at h'
theorem nF (n : Nat) (p : Nat → Prop) (hn : n ≤ 1048576) : aw Try.prog 45 [.c (.B (mks n p))] [.arr 2 .yes (.I (lst p n))] (fun ns=>.sl (ns.getD 0 0)):=by
 have hml:=bw n p
 (refine aV aS Try.func45 rfl rfl (by kernel_rfl) fun hp0 ν hX hN=>?_;simp only [ca,Nat.reduceAdd])
 (repeat' (first|(with_reducible first|(apply hK;clear hK K)|refine stZ ?_|refine aX rfl ?_|((first|apply ae|apply af);clear ae X af Y))|(with_reducible refine a8 ?_;first|refine aY rfl ?_|refine aZ rfl ?_)|((with_reducible first|((first|refine bc ?_|refine bd ?_);intro K hK)|(refine aC ?_;intro X Y ae af)|refine aD ?_);simp (disch:=first|decide|omega|(simp only [List.length_cons,List.length_nil];omega)) only [go_sem,↓ak hN,an hN,reduceIte,reduceCtorEq,Nat.reduceAdd,Nat.reduceLT,Nat.reduceLeDiff,Nat.reduceEqDiff,Nat.reduceSub])|(with_reducible refine And.intro (fun h=>?_) (fun h=>?_) <;> try (exfalso;omega))|(with_reducible refine ba aS hN ?_)|(with_reducible refine And.intro ?_ ?_)|(refine am ?_;omega)|(exact a9 hN (by decide))))
 (refine ce (fun (k : Nat)=>(tmL [(4,.c (.int .i64 k)),(3,.sl (ν 0)),(0,.c (.B (mks n p)))],hpL hp0 ν [.arr 2 .yes (.I (lst p k))])) (fun (k : Nat)=>k ≤ n) (fun (k : Nat)=>n - k) ⟨0,?_,bI hX hN [] ?_ ?_⟩ ?_;(repeat' (first|(with_reducible first|exact clZ|refine bJ ?_ ?_|refine bK ?_ ?_|rfl|refine suZ ?_)|refine bL rfl ?_ ?_|exact bo hN _ rfl rfl rfl|exact bp hN _ rfl rfl rfl|exact aL hN _ rfl rfl rfl (Or.inr rfl)|(refine br hN _ rfl rfl (by first|exact Or.inr rfl|exact Or.inl rfl) ?_;first|exact aP _|exact aQ _)|refine aM hN rfl ?_|refine aN hN rfl rfl ?_|exact aK hN _ rfl rfl|exact aO hN rfl rfl rfl rfl|(with_reducible first|refine stZ ?_|refine bn ?_)));(try (any_goals (first|(with_reducible rfl)|(refine am ?_;omega)))))
 · rfl
 intro k hk
 have hll:=cZ p k
 rcases Nat.lt_or_ge k n with hkl|hkl
 · have hgk:=Lib.hid (lG (n:=n) (v:=k) (p:=p))
   (repeat' (first|(with_reducible first|(apply hK;clear hK K)|refine stZ ?_|refine aX rfl ?_|((first|apply ae|apply af);clear ae X af Y))|(with_reducible refine a8 ?_;first|refine aY rfl ?_|refine aZ rfl ?_)|((with_reducible first|((first|refine bc ?_|refine bd ?_);intro K hK)|(refine aC ?_;intro X Y ae af)|refine aD ?_);simp (disch:=first|decide|omega|(simp only [List.length_cons,List.length_nil];omega)) only [go_sem,↓ak hN,an hN,reduceIte,reduceCtorEq,Nat.reduceAdd,Nat.reduceLT,Nat.reduceLeDiff,Nat.reduceEqDiff,Nat.reduceSub])|(with_reducible refine And.intro (fun h=>?_) (fun h=>?_) <;> try (exfalso;omega))|(with_reducible refine ba aS hN ?_)|(with_reducible refine And.intro ?_ ?_)|(refine am ?_;omega)|(exact a9 hN (by decide))))
   · (refine ⟨k + 1,⟨?_,?_⟩,bI hX hN [(0,2)] ?_ ?_⟩;(try any_goals dsimp only);(repeat' (first|(with_reducible first|exact clZ|refine bJ ?_ ?_|refine bK ?_ ?_|rfl|refine suZ ?_)|refine bL rfl ?_ ?_|exact bo hN _ rfl rfl rfl|exact bp hN _ rfl rfl rfl|exact aL hN _ rfl rfl rfl (Or.inr rfl)|(refine br hN _ rfl rfl (by first|exact Or.inr rfl|exact Or.inl rfl) ?_;first|exact aP _|exact aQ _)|refine aM hN rfl ?_|refine aN hN rfl rfl ?_|exact aK hN _ rfl rfl|exact aO hN rfl rfl rfl rfl|(with_reducible first|refine stZ ?_|refine bn ?_)));(try (any_goals (first|(with_reducible rfl)|(refine am ?_;omega)))))
     exact cF (hgk.out.1 h).2
   · (refine ⟨k + 1,⟨?_,?_⟩,bI hX hN [] ?_ ?_⟩;(try any_goals dsimp only);(repeat' (first|(with_reducible first|exact clZ|refine bJ ?_ ?_|refine bK ?_ ?_|rfl|refine suZ ?_)|refine bL rfl ?_ ?_|exact bo hN _ rfl rfl rfl|exact bp hN _ rfl rfl rfl|exact aL hN _ rfl rfl rfl (Or.inr rfl)|(refine br hN _ rfl rfl (by first|exact Or.inr rfl|exact Or.inl rfl) ?_;first|exact aP _|exact aQ _)|refine aM hN rfl ?_|refine aN hN rfl rfl ?_|exact aK hN _ rfl rfl|exact aO hN rfl rfl rfl rfl|(with_reducible first|refine stZ ?_|refine bn ?_)));(try (any_goals (first|(with_reducible rfl)|(refine am ?_;omega)))))
     exact cT fun h'=>by rw [hgk.out.2 ⟨hkl,h'⟩] at h;cases h
 · (repeat' (first|(with_reducible first|(apply hK;clear hK K)|refine stZ ?_|refine aX rfl ?_|((first|apply ae|apply af);clear ae X af Y))|(with_reducible refine a8 ?_;first|refine aY rfl ?_|refine aZ rfl ?_)|((with_reducible first|((first|refine bc ?_|refine bd ?_);intro K hK)|(refine aC ?_;intro X Y ae af)|refine aD ?_);simp (disch:=first|decide|omega|(simp only [List.length_cons,List.length_nil];omega)) only [go_sem,↓ak hN,an hN,reduceIte,reduceCtorEq,Nat.reduceAdd,Nat.reduceLT,Nat.reduceLeDiff,Nat.reduceEqDiff,Nat.reduceSub])|(with_reducible refine And.intro (fun h=>?_) (fun h=>?_) <;> try (exfalso;omega))|(with_reducible refine ba aS hN ?_)|(with_reducible refine And.intro ?_ ?_)|(refine am ?_;omega)|(exact a9 hN (by decide))))
   (refine ct hN (i:=0) (.inr rfl) (by first|rfl|(simp (disch:=first|decide|omega|(simp only [List.length_cons,List.length_nil];omega)) only [bH,bM,bP,bQ,go_sem,beq_self_eq_true,↓ax,↓ak hN,an hN,reduceIte,reduceCtorEq,Nat.reduceAdd,Nat.reduceLT,Nat.reduceLeDiff,Nat.reduceEqDiff,Nat.reduceSub];rfl)) rfl ?_ rfl)
   rw [show k = n by omega]
theorem i6 {n : Nat} {S : Nat → Prop} (hS : ∀ v,S v → v < n) : (fun v=>gb (mks n S) v = true) = S:=funext fun v=>propext (by
 rcases Nat.lt_or_ge v n with h|h
 · rw [eq _ h];exact gJ
 · refine ⟨fun h'=>?_,fun h'=>?_⟩
   · have:=uU h';rw [bw] at this;omega
   · have:=hS v h';omega)
theorem gh {n : Nat} (S T : Nat → Prop) : (cx (mks n S).length fun v=>gb (mks n S) v && !gb (mks n T) v) = mks n (PG.Diff S T):=by
 rw [bw]
 refine cz fun v hv=>nh ?_
 rw [eq _ hv,eq _ hv,Bool.and_eq_true,Bool.not_eq_true',gJ,oL]
 exact Iff.rfl
theorem i7 {n : Nat} {S : Nat → Prop} (h : ∀ v,v < n → ¬ S v) : List.replicate n false = mks n S :=
 (ef n fun _=>false).symm.trans (cz fun v hv=>by rw [aq (h v hv)];simp)
theorem gj (n : Nat) (S : Nat → Prop) (hn : n ≤ 1048576) : aw Try.prog 85 [.c (.B (mks n S))] [] (fun _=>.c (.bool (tf (∃ v,v < n ∧ S v)))):=by
 have hml:=bw n S
 (refine aV aS Try.func85 rfl rfl (by kernel_rfl) fun hp0 ν hX hN=>?_;simp only [ca,Nat.reduceAdd])
 (repeat' (first|(with_reducible first|(apply hK;clear hK K)|refine stZ ?_|refine aX rfl ?_|((first|apply ae|apply af);clear ae X af Y))|(with_reducible refine a8 ?_;first|refine aY rfl ?_|refine aZ rfl ?_)|((with_reducible first|((first|refine bc ?_|refine bd ?_);intro K hK)|(refine aC ?_;intro X Y ae af)|refine aD ?_);simp (disch:=first|decide|omega|(simp only [List.length_cons,List.length_nil];omega)) only [go_sem,↓ak hN,an hN,reduceIte,reduceCtorEq,Nat.reduceAdd,Nat.reduceLT,Nat.reduceLeDiff,Nat.reduceEqDiff,Nat.reduceSub])|(with_reducible refine And.intro (fun h=>?_) (fun h=>?_) <;> try (exfalso;omega))|(with_reducible refine ba aS hN ?_)|(with_reducible refine And.intro ?_ ?_)|(refine am ?_;omega)|(exact a9 hN (by decide))))
 (refine ce (fun (k : Nat)=>(tmL [(3,.c (.int .i64 k)),(0,.c (.B (mks n S)))],hpL hp0 ν [])) (fun (k : Nat)=>k ≤ n ∧ ∀ v,v < k → ¬ S v) (fun (k : Nat)=>n - k) ⟨0,?_,bI hX hN [] ?_ ?_⟩ ?_;(repeat' (first|(with_reducible first|exact clZ|refine bJ ?_ ?_|refine bK ?_ ?_|rfl|refine suZ ?_)|refine bL rfl ?_ ?_|exact bo hN _ rfl rfl rfl|exact bp hN _ rfl rfl rfl|exact aL hN _ rfl rfl rfl (Or.inr rfl)|(refine br hN _ rfl rfl (by first|exact Or.inr rfl|exact Or.inl rfl) ?_;first|exact aP _|exact aQ _)|refine aM hN rfl ?_|refine aN hN rfl rfl ?_|exact aK hN _ rfl rfl|exact aO hN rfl rfl rfl rfl|(with_reducible first|refine stZ ?_|refine bn ?_)));(try (any_goals (first|(with_reducible rfl)|(refine am ?_;omega)))))
 · exact ⟨Nat.zero_le _,fun v hv=>absurd hv (Nat.not_lt_zero v)⟩
 intro k hk
 obtain ⟨hk,hI⟩:=hk
 rcases Nat.lt_or_ge k n with hkl|hkl
 · have hgk:=Lib.hid (lG (n:=n) (v:=k) (p:=S))
   (repeat' (first|(with_reducible first|(apply hK;clear hK K)|refine stZ ?_|refine aX rfl ?_|((first|apply ae|apply af);clear ae X af Y))|(with_reducible refine a8 ?_;first|refine aY rfl ?_|refine aZ rfl ?_)|((with_reducible first|((first|refine bc ?_|refine bd ?_);intro K hK)|(refine aC ?_;intro X Y ae af)|refine aD ?_);simp (disch:=first|decide|omega|(simp only [List.length_cons,List.length_nil];omega)) only [go_sem,↓ak hN,an hN,reduceIte,reduceCtorEq,Nat.reduceAdd,Nat.reduceLT,Nat.reduceLeDiff,Nat.reduceEqDiff,Nat.reduceSub])|(with_reducible refine And.intro (fun h=>?_) (fun h=>?_) <;> try (exfalso;omega))|(with_reducible refine ba aS hN ?_)|(with_reducible refine And.intro ?_ ?_)|(refine am ?_;omega)|(exact a9 hN (by decide))))
   · (refine ch (.inr rfl) (by first|rfl|(simp (disch:=first|decide|omega|(simp only [List.length_cons,List.length_nil];omega)) only [bH,bM,bP,bQ,go_sem,beq_self_eq_true,↓ax,↓ak hN,an hN,reduceIte,reduceCtorEq,Nat.reduceAdd,Nat.reduceLT,Nat.reduceLeDiff,Nat.reduceEqDiff,Nat.reduceSub];rfl)) ?_)
     exact congrArg C.bool (aA ⟨k,hkl,(hgk.out.1 h).2⟩).symm
   · (refine ⟨k + 1,⟨?_,?_⟩,bI hX hN [] ?_ ?_⟩;(try any_goals dsimp only);(repeat' (first|(with_reducible first|exact clZ|refine bJ ?_ ?_|refine bK ?_ ?_|rfl|refine suZ ?_)|refine bL rfl ?_ ?_|exact bo hN _ rfl rfl rfl|exact bp hN _ rfl rfl rfl|exact aL hN _ rfl rfl rfl (Or.inr rfl)|(refine br hN _ rfl rfl (by first|exact Or.inr rfl|exact Or.inl rfl) ?_;first|exact aP _|exact aQ _)|refine aM hN rfl ?_|refine aN hN rfl rfl ?_|exact aK hN _ rfl rfl|exact aO hN rfl rfl rfl rfl|(with_reducible first|refine stZ ?_|refine bn ?_)));(try (any_goals (first|(with_reducible rfl)|(refine am ?_;omega)))))
     refine ⟨by omega,fun v hv hS=>?_⟩
     rcases Nat.lt_or_ge v k with h'|h'
     · exact hI v h' hS
     · obtain rfl : v = k:=by omega
       rw [hgk.out.2 ⟨hkl,hS⟩] at h;cases h
 · (repeat' (first|(with_reducible first|(apply hK;clear hK K)|refine stZ ?_|refine aX rfl ?_|((first|apply ae|apply af);clear ae X af Y))|(with_reducible refine a8 ?_;first|refine aY rfl ?_|refine aZ rfl ?_)|((with_reducible first|((first|refine bc ?_|refine bd ?_);intro K hK)|(refine aC ?_;intro X Y ae af)|refine aD ?_);simp (disch:=first|decide|omega|(simp only [List.length_cons,List.length_nil];omega)) only [go_sem,↓ak hN,an hN,reduceIte,reduceCtorEq,Nat.reduceAdd,Nat.reduceLT,Nat.reduceLeDiff,Nat.reduceEqDiff,Nat.reduceSub])|(with_reducible refine And.intro (fun h=>?_) (fun h=>?_) <;> try (exfalso;omega))|(with_reducible refine ba aS hN ?_)|(with_reducible refine And.intro ?_ ?_)|(refine am ?_;omega)|(exact a9 hN (by decide))))
   (refine ch (.inr rfl) (by first|rfl|(simp (disch:=first|decide|omega|(simp only [List.length_cons,List.length_nil];omega)) only [bH,bM,bP,bQ,go_sem,beq_self_eq_true,↓ax,↓ak hN,an hN,reduceIte,reduceCtorEq,Nat.reduceAdd,Nat.reduceLT,Nat.reduceLeDiff,Nat.reduceEqDiff,Nat.reduceSub];rfl)) ?_)
   exact congrArg C.bool (aq fun ⟨v,h1,h2⟩=>hI v (by omega) h2).symm
def oE (g : Gm) (n D : Nat) : Prop:=∀ (who : Int) (S : Nat → Prop) (mine yours : Int),(who = 0 ∨ who = 1) → (0 ≤ mine ∧ mine ≤ 64) → (0 ≤ yours ∧ yours ≤ 64) → (∀ v,S v → v < n) → PG.Total (bt g n) S → (∀ v,S v → (bt g n).prio v ≤ (D : Int) - 1) →
 aw Try.prog 46 [gmA g,.c (.B (mks n S)),.c (.int .i64 who),.c (.int .i64 ((D : Int) - 1)),.c (.int .i64 mine),.c (.int .i64 yours)] [.arr 4 .yes (.B (mks n (qA (bt g n) n D who S mine yours)))] (fun ns=>.sl (ns.getD 0 0))
theorem mK (g : Gm) (n : Nat) : PG.Fin (bt g n) n:=fun v u h=>h.2.1
set_option maxHeartbeats 4000000 in
theorem gI (g : Gm) (n : Nat) (hg : GmOk g n) (D : Nat) (hD : D ≤ 64) (hA : oE g n D) (who : Int) (hw : who = 0 ∨ who = 1) (S : Nat → Prop) (mine yours : Int) (hm : 0 ≤ mine ∧ mine ≤ 64) (hy : 0 ≤ yours ∧ yours ≤ 64) (hS : ∀ v,S v → v < n) (ht : PG.Total (bt g n) S) (hp : ∀ v,S v → (bt g n).prio v ≤ D) :
  aw Try.prog 56 [gmA g,.c (.B (mks n S)),.c (.int .i64 who),.c (.int .i64 D),.c (.int .i64 mine),.c (.int .i64 yours)] [.arr 4 .yes (.B (mks n (qR (bt g n) (qA (bt g n) n D) who D mine yours S)))] (fun ns=>.sl (ns.getD 0 0)):=by
 have hle:=hg.le
 have hgp:=hg.prio
 have hf:=mK g n
 have hsl:=bw n S
 have hw1 : 1 - who = 0 ∨ 1 - who = 1:=by omega
 obtain ⟨goal,hgo⟩ : ∃ goal,goal = cx n fun v=>gb (mks n S) v && gi g.prio v == (D : Int):=⟨_,rfl⟩
 have hgl : goal.length = n:=by rw [hgo,fR]
 have hgv : ∀ v,S v → (gb goal v = true ↔ (bt g n).prio v = D):=fun v hv=>by
  have hvn:=hS v hv
  rw [hgo,dL _ hvn,eq _ hvn,aA hv,kv hg hvn];simp
 have hatt:=gV g n hg (mks n S) goal hsl hgl who (by rw [i6 hS];exact ht)
 rw [i6 hS,show PG.Attr (bt g n) who S (fun v=>gb goal v = true) = PG.Attr (bt g n) who S fun v=>(bt g n).prio v = D from funext fun v=>propext (PG.attr_congr (fun _=>Iff.rfl) hgv v)] at hatt
 have hless:=gf (mks n S) (mks n (PG.Attr (bt g n) who S fun v=>(bt g n).prio v = D)) (by rw [bw,bw]) (by rw [bw];omega)
 rw [gh] at hless
 have hans:=hA (1 - who) _ yours mine hw1 hy hm (fun v h=>hS v h.1) (PG.total_diff hf ht) (rX (who:=who) hp)
 have hLn : ∀ v,qA (bt g n) n D (1 - who) (PG.Diff S (PG.Attr (bt g n) who S fun v=>(bt g n).prio v = D)) yours mine v → v < n:=fun v h=>hS v (o6 h).1
 obtain ⟨L,hL⟩ : ∃ L,L = qA (bt g n) n D (1 - who) (PG.Diff S (PG.Attr (bt g n) who S fun v=>(bt g n).prio v = D)) yours mine:=⟨_,rfl⟩
 rw [← hL] at hans hLn
 have hend : qR (bt g n) (qA (bt g n) n D) who D mine yours S = PG.Diff S (PG.Attr (bt g n) (1 - who) S L):=by rw [hL];rfl
 rw [hend]
 have hatt2:=gV g n hg (mks n S) (mks n L) hsl (bw _ _) (1 - who) (by rw [i6 hS];exact ht)
 rw [i6 hS,i6 hLn] at hatt2
 have hless2:=gf (mks n S) (mks n (PG.Attr (bt g n) (1 - who) S L)) (by rw [bw,bw]) (by rw [bw];omega)
 rw [gh] at hless2
 clear hend hL hLn hgv
 have l1:=bw n (PG.Attr (bt g n) who S fun v=>(bt g n).prio v = D)
 have l2:=bw n (PG.Diff S (PG.Attr (bt g n) who S fun v=>(bt g n).prio v = D))
 have l3:=bw n L
 have l4:=bw n (PG.Attr (bt g n) (1 - who) S L)
 generalize mks n (PG.Diff S (PG.Attr (bt g n) (1 - who) S L)) = out at *
 generalize mks n (PG.Attr (bt g n) (1 - who) S L) = a2 at *
 generalize mks n L = lost at *
 generalize mks n (PG.Diff S (PG.Attr (bt g n) who S fun v=>(bt g n).prio v = D)) = low at *
 generalize mks n (PG.Attr (bt g n) who S fun v=>(bt g n).prio v = D) = a1 at *
 generalize mks n S = inn at *
 (refine aV aS Try.func56 rfl rfl (by kernel_rfl) fun hp0 ν hX hN=>?_;simp only [ca,Nat.reduceAdd])
 (repeat' (first|(with_reducible first|(apply hK;clear hK K)|refine stZ ?_|refine aX rfl ?_|((first|apply ae|apply af);clear ae X af Y))|(with_reducible refine a8 ?_;first|refine aY rfl ?_|refine aZ rfl ?_)|(with_reducible refine bz ?_;first|refine be rfl rfl rfl rfl ?_|refine bv rfl rfl rfl ?_|refine bN rfl rfl rfl rfl ?_)|((first|(with_reducible first|((first|refine bc ?_|refine bd ?_);intro K hK)|(refine aC ?_;intro X Y ae af)|refine aD ?_)|(with_reducible refine bz ?_;refine bf rfl rfl fun X Y ae af=>?_));simp (disch:=first|decide|omega|(simp only [List.length_cons,List.length_nil];omega)) only [go_sem,↓ak hN,an hN,reduceIte,reduceCtorEq,Nat.reduceAdd,Nat.reduceLT,Nat.reduceLeDiff,Nat.reduceEqDiff,Nat.reduceSub])|(with_reducible refine And.intro (fun h=>?_) (fun h=>?_) <;> try (exfalso;omega))|(with_reducible refine ba aS hN ?_)|(with_reducible refine And.intro ?_ ?_)|(refine am ?_;omega)|(exact a9 hN (by decide))))
 (refine ce (fun (k : Nat)=>(tmL [(14,.c (.int .i64 k)),(13,.sl (ν 1)),(6,.ad (ν 0) 0),(1,.c (.B inn)),(2,.c (.int .i64 who)),(3,.c (.int .i64 D)),(4,.c (.int .i64 mine)),(5,.c (.int .i64 yours))],hpL hp0 ν [.box [.c (.I g.own),.c (.I g.prio),.c (.R g.nxt),.c (.R g.prev),.c (.I g.pick)],.arr 4 .yes (.B (cx n fun v=>if v < k then gb inn v && gi g.prio v == (D : Int) else false))])) (fun (k : Nat)=>k ≤ n) (fun (k : Nat)=>n - k) ⟨0,?_,bI hX hN [] ?_ ?_⟩ ?_;(repeat' (first|(with_reducible first|exact clZ|refine bJ ?_ ?_|refine bK ?_ ?_|rfl|refine suZ ?_)|refine bL rfl ?_ ?_|exact bo hN _ rfl rfl rfl|exact bp hN _ rfl rfl rfl|exact aL hN _ rfl rfl rfl (Or.inr rfl)|(refine br hN _ rfl rfl (by first|exact Or.inr rfl|exact Or.inl rfl) ?_;first|exact aP _|exact aQ _)|refine aM hN rfl ?_|refine aN hN rfl rfl ?_|exact aK hN _ rfl rfl|exact aO hN rfl rfl rfl rfl|(with_reducible first|refine stZ ?_|refine bn ?_)));(try (any_goals (first|(with_reducible rfl)|(refine am ?_;omega)))))
 · rw [hsl];exact ef n fun v=>gb inn v && gi g.prio v == (D : Int)
 intro k hk
 (repeat' (first|(with_reducible first|(apply hK;clear hK K)|refine stZ ?_|refine aX rfl ?_|((first|apply ae|apply af);clear ae X af Y))|(with_reducible refine a8 ?_;first|refine aY rfl ?_|refine aZ rfl ?_)|(with_reducible refine bz ?_;first|refine be rfl rfl rfl rfl ?_|refine bv rfl rfl rfl ?_|refine bN rfl rfl rfl rfl ?_)|((first|(with_reducible first|((first|refine bc ?_|refine bd ?_);intro K hK)|(refine aC ?_;intro X Y ae af)|refine aD ?_)|(with_reducible refine bz ?_;refine bf rfl rfl fun X Y ae af=>?_));simp (disch:=first|decide|omega|(simp only [List.length_cons,List.length_nil];omega)) only [go_sem,↓ak hN,an hN,reduceIte,reduceCtorEq,Nat.reduceAdd,Nat.reduceLT,Nat.reduceLeDiff,Nat.reduceEqDiff,Nat.reduceSub])|(with_reducible refine And.intro (fun h=>?_) (fun h=>?_) <;> try (exfalso;omega))|(with_reducible refine ba aS hN ?_)|(with_reducible refine And.intro ?_ ?_)|(refine am ?_;omega)|(exact a9 hN (by decide))))
 · (refine ⟨k + 1,⟨?_,?_⟩,bI hX hN [] ?_ ?_⟩;(try any_goals dsimp only);(repeat' (first|(with_reducible first|exact clZ|refine bJ ?_ ?_|refine bK ?_ ?_|rfl|refine suZ ?_)|refine bL rfl ?_ ?_|exact bo hN _ rfl rfl rfl|exact bp hN _ rfl rfl rfl|exact aL hN _ rfl rfl rfl (Or.inr rfl)|(refine br hN _ rfl rfl (by first|exact Or.inr rfl|exact Or.inl rfl) ?_;first|exact aP _|exact aQ _)|refine aM hN rfl ?_|refine aN hN rfl rfl ?_|exact aK hN _ rfl rfl|exact aO hN rfl rfl rfl rfl|(with_reducible first|refine stZ ?_|refine bn ?_)));(try (any_goals (first|(with_reducible rfl)|(refine am ?_;omega)))))
   exact lg (f:=fun v=>gb inn v && gi g.prio v == (D : Int)) (d:=fun _=>false) (by omega) (by simp [*])
 · (refine ⟨k + 1,⟨?_,?_⟩,bI hX hN [] ?_ ?_⟩;(try any_goals dsimp only);(repeat' (first|(with_reducible first|exact clZ|refine bJ ?_ ?_|refine bK ?_ ?_|rfl|refine suZ ?_)|refine bL rfl ?_ ?_|exact bo hN _ rfl rfl rfl|exact bp hN _ rfl rfl rfl|exact aL hN _ rfl rfl rfl (Or.inr rfl)|(refine br hN _ rfl rfl (by first|exact Or.inr rfl|exact Or.inl rfl) ?_;first|exact aP _|exact aQ _)|refine aM hN rfl ?_|refine aN hN rfl rfl ?_|exact aK hN _ rfl rfl|exact aO hN rfl rfl rfl rfl|(with_reducible first|refine stZ ?_|refine bn ?_)));(try (any_goals (first|(with_reducible rfl)|(refine am ?_;omega)))))
   exact lg (f:=fun v=>gb inn v && gi g.prio v == (D : Int)) (d:=fun _=>false) (by omega) (by simp [*])
 rw [show (cx n fun v=>if v < k then gb inn v && gi g.prio v == (D : Int) else false) = goal from (gG (by omega)).trans hgo.symm]
 clear hgo
 (repeat' (first|(with_reducible first|(apply hK;clear hK K)|refine stZ ?_|refine aX rfl ?_|((first|apply ae|apply af);clear ae X af Y))|(with_reducible refine a8 ?_;first|refine aY rfl ?_|refine aZ rfl ?_)|(with_reducible refine bz ?_;first|refine be rfl rfl rfl rfl ?_|refine bv rfl rfl rfl ?_|refine bN rfl rfl rfl rfl ?_)|((first|(with_reducible first|((first|refine bc ?_|refine bd ?_);intro K hK)|(refine aC ?_;intro X Y ae af)|refine aD ?_)|(with_reducible refine bz ?_;refine bf rfl rfl fun X Y ae af=>?_));simp (disch:=first|decide|omega|(simp only [List.length_cons,List.length_nil];omega)) only [go_sem,↓ak hN,an hN,reduceIte,reduceCtorEq,Nat.reduceAdd,Nat.reduceLT,Nat.reduceLeDiff,Nat.reduceEqDiff,Nat.reduceSub])|(with_reducible refine And.intro (fun h=>?_) (fun h=>?_) <;> try (exfalso;omega))|(with_reducible refine ba aS hN ?_)|(refine aB (hless) ?_ rfl (fun _=>rfl) ?_;focus ((repeat' (first|(with_reducible first|exact au|refine ap ?_ ?_|exact bF _|refine aH ?_|exact aJ _|exact bi _ _|refine bh ?_|exact aF _)|exact aI hN rfl rfl|(refine bg hN rfl ?_;first|exact aP _|exact aQ _)|exact aG rfl rfl rfl));done))|(refine aB (hatt) ?_ rfl (fun _=>rfl) ?_;focus ((repeat' (first|(with_reducible first|exact au|refine ap ?_ ?_|exact bF _|refine aH ?_|exact aJ _|exact bi _ _|refine bh ?_|exact aF _)|exact aI hN rfl rfl|(refine bg hN rfl ?_;first|exact aP _|exact aQ _)|exact aG rfl rfl rfl));done))|(refine aB (hans) ?_ rfl (fun _=>rfl) ?_;focus ((repeat' (first|(with_reducible first|exact au|refine ap ?_ ?_|exact bF _|refine aH ?_|exact aJ _|exact bi _ _|refine bh ?_|exact aF _)|exact aI hN rfl rfl|(refine bg hN rfl ?_;first|exact aP _|exact aQ _)|exact aG rfl rfl rfl));done))|(refine aB (hatt2) ?_ rfl (fun _=>rfl) ?_;focus ((repeat' (first|(with_reducible first|exact au|refine ap ?_ ?_|exact bF _|refine aH ?_|exact aJ _|exact bi _ _|refine bh ?_|exact aF _)|exact aI hN rfl rfl|(refine bg hN rfl ?_;first|exact aP _|exact aQ _)|exact aG rfl rfl rfl));done))|(refine aB (hless2) ?_ rfl (fun _=>rfl) ?_;focus ((repeat' (first|(with_reducible first|exact au|refine ap ?_ ?_|exact bF _|refine aH ?_|exact aJ _|exact bi _ _|refine bh ?_|exact aF _)|exact aI hN rfl rfl|(refine bg hN rfl ?_;first|exact aP _|exact aQ _)|exact aG rfl rfl rfl));done))|(with_reducible first|exact au|refine ap ?_ ?_|exact bF _|refine aH ?_|exact aJ _|exact bi _ _|refine bh ?_|exact aF _)|exact aI hN rfl rfl|(refine bg hN rfl ?_;first|exact aP _|exact aQ _)|exact aG rfl rfl rfl|(simp only [aT,List.map_nil])|(with_reducible refine bC ?_)|(with_reducible refine And.intro ?_ ?_)|(refine am ?_;omega)|(exact a9 hN (by decide))))
 all_goals (refine ct hN (i:=6) (.inr rfl) (by first|rfl|(simp (disch:=first|decide|omega|(simp only [List.length_cons,List.length_nil];omega)) only [bH,bM,bP,bQ,go_sem,beq_self_eq_true,↓ax,↓ak hN,an hN,reduceIte,reduceCtorEq,Nat.reduceAdd,Nat.reduceLT,Nat.reduceLeDiff,Nat.reduceEqDiff,Nat.reduceSub];rfl)) rfl ?_ rfl)
 all_goals rfl
theorem lH {n : Nat} {S T : Nat → Prop} (hS : ∀ v,S v → v < n) (h : ∀ v,T v → S v) : ¬ (∃ v,v < n ∧ PG.Diff S T v) ↔ T = S :=
 ⟨fun hno=>funext fun v=>propext ⟨h v,fun hv=>Classical.byContradiction fun h'=>hno ⟨v,hS v hv,hv,h'⟩⟩,fun e ⟨v,_,h1,h2⟩=>h2 (by rw [e];exact h1)⟩
set_option maxHeartbeats 4000000 in
theorem i8 (g : Gm) (n : Nat) (hg : GmOk g n) (D : Nat) (hD : D ≤ 64) (hA : oE g n D) (who : Int) (hw : who = 0 ∨ who = 1) (S : Nat → Prop) (mine yours : Int) (hm : 0 ≤ mine ∧ mine ≤ 64) (hy : 0 ≤ yours ∧ yours ≤ 64) (hS : ∀ v,S v → v < n) (ht : PG.Total (bt g n) S) (hp : ∀ v,S v → (bt g n).prio v ≤ D) :
  aw Try.prog 86 [gmA g,.c (.B (mks n S)),.c (.int .i64 who),.c (.int .i64 D),.c (.int .i64 mine),.c (.int .i64 yours)] [.arr 4 .yes (.B (mks n (itQ (qR (bt g n) (qA (bt g n) n D) who D mine yours) S n)))] (fun ns=>.sl (ns.getD 0 0)):=by
 have hle:=hg.le
 have hf:=mK g n
 have hsl:=bw n S
 (refine aV aS Try.func86 rfl rfl (by kernel_rfl) fun hp0 ν hX hN=>?_;simp only [ca,Nat.reduceAdd])
 (repeat' (first|(with_reducible first|(apply hK;clear hK K)|refine stZ ?_|refine aX rfl ?_|((first|apply ae|apply af);clear ae X af Y))|(with_reducible refine a8 ?_;first|refine aY rfl ?_|refine aZ rfl ?_)|((with_reducible first|((first|refine bc ?_|refine bd ?_);intro K hK)|(refine aC ?_;intro X Y ae af)|refine aD ?_);simp (disch:=first|decide|omega|(simp only [List.length_cons,List.length_nil];omega)) only [go_sem,↓ak hN,an hN,reduceIte,reduceCtorEq,Nat.reduceAdd,Nat.reduceLT,Nat.reduceLeDiff,Nat.reduceEqDiff,Nat.reduceSub])|(with_reducible refine And.intro (fun h=>?_) (fun h=>?_) <;> try (exfalso;omega))|(with_reducible refine ba aS hN ?_)|(with_reducible refine And.intro ?_ ?_)|(refine am ?_;omega)|(exact a9 hN (by decide))))
 (refine ce (fun (k : Nat)=>(tmL [(6,.ad (ν 0) 0),(1,.c (.B (mks n (itQ (qR (bt g n) (qA (bt g n) n D) who D mine yours) S k)))),(2,.c (.int .i64 who)),(3,.c (.int .i64 D)),(4,.c (.int .i64 mine)),(5,.c (.int .i64 yours))],hpL hp0 ν [.box [.c (.I g.own),.c (.I g.prio),.c (.R g.nxt),.c (.R g.prev),.c (.I g.pick)]])) (fun (k : Nat)=>True) (fun (k : Nat)=>num (itQ (qR (bt g n) (qA (bt g n) n D) who D mine yours) S k) n) ⟨0,?_,bI hX hN [] ?_ ?_⟩ ?_;(repeat' (first|(with_reducible first|exact clZ|refine bJ ?_ ?_|refine bK ?_ ?_|rfl|refine suZ ?_)|refine bL rfl ?_ ?_|exact bo hN _ rfl rfl rfl|exact bp hN _ rfl rfl rfl|exact aL hN _ rfl rfl rfl (Or.inr rfl)|(refine br hN _ rfl rfl (by first|exact Or.inr rfl|exact Or.inl rfl) ?_;first|exact aP _|exact aQ _)|refine aM hN rfl ?_|refine aN hN rfl rfl ?_|exact aK hN _ rfl rfl|exact aO hN rfl rfl rfl rfl|(with_reducible first|refine stZ ?_|refine bn ?_)));(try (any_goals (first|(with_reducible rfl)|(refine am ?_;omega)))))
 · trivial
 · rfl
 intro k _
 have hSk : ∀ v,itQ (qR (bt g n) (qA (bt g n) n D) who D mine yours) S k v → v < n:=fun v h=>hS v (dU (fun _ _ h=>eN h) k v h)
 have hr:=gI g n hg D hD hA who hw _ mine yours hm hy hSk (gA (fun _ h=>iz hf h) ht k) fun v h=>hp v (dU (fun _ _ h=>eN h) k v h)
 have hl:=gf (mks n (itQ (qR (bt g n) (qA (bt g n) n D) who D mine yours) S k)) (mks n (itQ (qR (bt g n) (qA (bt g n) n D) who D mine yours) S (k + 1))) (by rw [bw,bw]) (by rw [bw];omega)
 rw [gh] at hl
 have hso:=gj n (PG.Diff (itQ (qR (bt g n) (qA (bt g n) n D) who D mine yours) S k) (itQ (qR (bt g n) (qA (bt g n) n D) who D mine yours) S (k + 1))) (by omega)
 change aw _ _ _ [.arr _ _ (.B (mks n (itQ (qR (bt g n) (qA (bt g n) n D) who D mine yours) S (k + 1))))] _ at hr
 have hsame:=Lib.hid (lH (T:=itQ (qR (bt g n) (qA (bt g n) n D) who D mine yours) S (k + 1)) hSk fun v h=>h.1)
 have hend:=Lib.hid (fun h=>mW (R:=qR (bt g n) (qA (bt g n) n D) who D mine yours) (fun _ _ h=>eN h) hS (k:=k) h)
 have hmu:=Lib.hid (jZ (p:=itQ (qR (bt g n) (qA (bt g n) n D) who D mine yours) S k) (q:=itQ (qR (bt g n) (qA (bt g n) n D) who D mine yours) S (k + 1)) (k:=n) fun t _ h=>h.1)
 obtain ⟨nx,hnx⟩ : ∃ nx,nx = mks n (itQ (qR (bt g n) (qA (bt g n) n D) who D mine yours) S (k + 1)):=⟨_,rfl⟩
 rw [← hnx] at hr hl
 have HNX:=Lib.hid hnx
 clear hnx
 (repeat' (first|(with_reducible first|(apply hK;clear hK K)|refine stZ ?_|refine aX rfl ?_|((first|apply ae|apply af);clear ae X af Y))|(with_reducible refine a8 ?_;first|refine aY rfl ?_|refine aZ rfl ?_)|((with_reducible first|((first|refine bc ?_|refine bd ?_);intro K hK)|(refine aC ?_;intro X Y ae af)|refine aD ?_);simp (disch:=first|decide|omega|(simp only [List.length_cons,List.length_nil];omega)) only [go_sem,↓ak hN,an hN,reduceIte,reduceCtorEq,Nat.reduceAdd,Nat.reduceLT,Nat.reduceLeDiff,Nat.reduceEqDiff,Nat.reduceSub])|(with_reducible refine And.intro (fun h=>?_) (fun h=>?_) <;> try (exfalso;omega))|(with_reducible refine ba aS hN ?_)|((first|refine aB (hl) ?_ rfl (fun _=>rfl) ?_|refine aB (hso) ?_ rfl (fun _=>rfl) ?_);focus ((repeat' (first|(with_reducible first|exact au|refine ap ?_ ?_|exact bF _|refine aH ?_|exact aJ _|exact bi _ _|refine bh ?_|exact aF _)|exact aI hN rfl rfl|(refine bg hN rfl ?_;first|exact aP _|exact aQ _)|exact aG rfl rfl rfl));done))|(refine aB (hr) ?_ rfl (fun _=>rfl) ?_;focus ((repeat' (first|(with_reducible first|exact au|refine ap ?_ ?_|exact bF _|refine aH ?_|exact aJ _|exact bi _ _|refine bh ?_|exact aF _)|exact aI hN rfl rfl|(refine bg hN rfl ?_;first|exact aP _|exact aQ _)|exact aG rfl rfl rfl));done))|(with_reducible first|exact au|refine ap ?_ ?_|exact bF _|refine aH ?_|exact aJ _|exact bi _ _|refine bh ?_|exact aF _)|exact aI hN rfl rfl|(refine bg hN rfl ?_;first|exact aP _|exact aQ _)|exact aG rfl rfl rfl|(simp only [aT,List.map_nil])|(with_reducible refine bC ?_)|(with_reducible refine And.intro ?_ ?_)|(refine am ?_;omega)|(exact a9 hN (by decide))))
 · (refine ct hN (i:=1) (.inr rfl) (by first|rfl|(simp (disch:=first|decide|omega|(simp only [List.length_cons,List.length_nil];omega)) only [bH,bM,bP,bQ,go_sem,beq_self_eq_true,↓ax,↓ak hN,an hN,reduceIte,reduceCtorEq,Nat.reduceAdd,Nat.reduceLT,Nat.reduceLeDiff,Nat.reduceEqDiff,Nat.reduceSub];rfl)) rfl ?_ rfl)
   rw [HNX.out]
   have e:=hsame.out.1 (by assumption)
   rw [e,hend.out e]
 · rw [HNX.out]
   (refine ⟨k + 1,⟨?_,?_⟩,bI hX hN [] ?_ ?_⟩;(try any_goals dsimp only);(repeat' (first|(with_reducible first|exact clZ|refine bJ ?_ ?_|refine bK ?_ ?_|rfl|refine suZ ?_)|refine bL rfl ?_ ?_|exact bo hN _ rfl rfl rfl|exact bp hN _ rfl rfl rfl|exact aL hN _ rfl rfl rfl (Or.inr rfl)|(refine br hN _ rfl rfl (by first|exact Or.inr rfl|exact Or.inl rfl) ?_;first|exact aP _|exact aQ _)|refine aM hN rfl ?_|refine aN hN rfl rfl ?_|exact aK hN _ rfl rfl|exact aO hN rfl rfl rfl rfl|(with_reducible first|refine stZ ?_|refine bn ?_)));(try (any_goals (first|(with_reducible rfl)|(refine am ?_;omega)))))
   · exact hmu.out h
theorem oF (g : Gm) (n : Nat) (hg : GmOk g n) : oE g n 0:=by
 intro who S mine yours hw hm hy hS ht hp
 have hle:=hg.le
 have hsl:=bw n S
 have hso:=gj n S (by omega)
 have h1 : ¬ ∃ v,v < n ∧ S v:=fun ⟨v,_,hv⟩=>by
  have h1:=hp v hv
  have h2:=(bt g n).nn v
  simp only [Int.natCast_zero] at h1
  omega
 show aw _ _ _ [.arr _ _ (.B (mks n fun _=>False))] _
 rw [show (mks n fun _=>False) = List.replicate n false from (i7 fun _ _ h=>h).symm]
 rw [aq h1] at hso
 clear hp ht
 generalize mks n S = inn at *
 (refine aV aS Try.func46 rfl rfl (by kernel_rfl) fun hp0 ν hX hN=>?_;simp only [ca,Nat.reduceAdd])
 (repeat' (first|(with_reducible first|(apply hK;clear hK K)|refine stZ ?_|refine aX rfl ?_|((first|apply ae|apply af);clear ae X af Y))|(with_reducible refine a8 ?_;first|refine aY rfl ?_|refine aZ rfl ?_)|(with_reducible refine bz ?_;first|refine be rfl rfl rfl rfl ?_|refine bv rfl rfl rfl ?_|refine bN rfl rfl rfl rfl ?_)|((first|(with_reducible first|((first|refine bc ?_|refine bd ?_);intro K hK)|(refine aC ?_;intro X Y ae af)|refine aD ?_)|(with_reducible refine bz ?_;refine bf rfl rfl fun X Y ae af=>?_));simp (disch:=first|decide|omega|(simp only [List.length_cons,List.length_nil];omega)) only [go_sem,↓ak hN,an hN,reduceIte,reduceCtorEq,Nat.reduceAdd,Nat.reduceLT,Nat.reduceLeDiff,Nat.reduceEqDiff,Nat.reduceSub])|(with_reducible refine And.intro (fun h=>?_) (fun h=>?_) <;> try (exfalso;omega))|(with_reducible refine ba aS hN ?_)|(refine aB (hso) ?_ rfl (fun _=>rfl) ?_;focus ((repeat' (first|(with_reducible first|exact au|refine ap ?_ ?_|exact bF _|refine aH ?_|exact aJ _|exact bi _ _|refine bh ?_|exact aF _)|exact aI hN rfl rfl|(refine bg hN rfl ?_;first|exact aP _|exact aQ _)|exact aG rfl rfl rfl));done))|(with_reducible first|exact au|refine ap ?_ ?_|exact bF _|refine aH ?_|exact aJ _|exact bi _ _|refine bh ?_|exact aF _)|exact aI hN rfl rfl|(refine bg hN rfl ?_;first|exact aP _|exact aQ _)|exact aG rfl rfl rfl|(simp only [aT,List.map_nil])|(with_reducible refine bC ?_)|(with_reducible refine And.intro ?_ ?_)|(refine am ?_;omega)|(exact a9 hN (by decide))))
 all_goals (refine ct hN (i:=1) (.inr rfl) (by first|rfl|(simp (disch:=first|decide|omega|(simp only [List.length_cons,List.length_nil];omega)) only [bH,bM,bP,bQ,go_sem,beq_self_eq_true,↓ax,↓ak hN,an hN,reduceIte,reduceCtorEq,Nat.reduceAdd,Nat.reduceLT,Nat.reduceLeDiff,Nat.reduceEqDiff,Nat.reduceSub];rfl)) rfl ?_ rfl)
 all_goals rw [hsl]
set_option maxHeartbeats 4000000 in
theorem oG (g : Gm) (n : Nat) (hg : GmOk g n) (D : Nat) (hD : D ≤ 64) (hA : oE g n D) : oE g n (D + 1):=by
 intro who S mine yours hw hm hy hS ht hp
 have hle:=hg.le
 have hf:=mK g n
 have hsl:=bw n S
 have hso:=gj n S (by omega)
 rw [show ((D + 1 : Nat) : Int) - 1 = D by omega] at hp ⊢
 by_cases h0 : mine = 0
 · rw [rE h0,show (mks n fun _=>False) = List.replicate n false from (i7 fun _ _ h=>h).symm]
   subst h0
   generalize mks n S = inn at *
   (refine aV aS Try.func46 rfl rfl (by kernel_rfl) fun hp0 ν hX hN=>?_;simp only [ca,Nat.reduceAdd])
   (repeat' (first|(with_reducible first|(apply hK;clear hK K)|refine stZ ?_|refine aX rfl ?_|((first|apply ae|apply af);clear ae X af Y))|(with_reducible refine a8 ?_;first|refine aY rfl ?_|refine aZ rfl ?_)|(with_reducible refine bz ?_;first|refine be rfl rfl rfl rfl ?_|refine bv rfl rfl rfl ?_|refine bN rfl rfl rfl rfl ?_)|((first|(with_reducible first|((first|refine bc ?_|refine bd ?_);intro K hK)|(refine aC ?_;intro X Y ae af)|refine aD ?_)|(with_reducible refine bz ?_;refine bf rfl rfl fun X Y ae af=>?_));simp (disch:=first|decide|omega|(simp only [List.length_cons,List.length_nil];omega)) only [go_sem,↓ak hN,an hN,reduceIte,reduceCtorEq,Nat.reduceAdd,Nat.reduceLT,Nat.reduceLeDiff,Nat.reduceEqDiff,Nat.reduceSub])|(with_reducible refine And.intro (fun h=>?_) (fun h=>?_) <;> try (exfalso;omega))|(with_reducible refine ba aS hN ?_)|(refine aB (hso) ?_ rfl (fun _=>rfl) ?_;focus ((repeat' (first|(with_reducible first|exact au|refine ap ?_ ?_|exact bF _|refine aH ?_|exact aJ _|exact bi _ _|refine bh ?_|exact aF _)|exact aI hN rfl rfl|(refine bg hN rfl ?_;first|exact aP _|exact aQ _)|exact aG rfl rfl rfl));done))|(with_reducible first|exact au|refine ap ?_ ?_|exact bF _|refine aH ?_|exact aJ _|exact bi _ _|refine bh ?_|exact aF _)|exact aI hN rfl rfl|(refine bg hN rfl ?_;first|exact aP _|exact aQ _)|exact aG rfl rfl rfl|(simp only [aT,List.map_nil])|(with_reducible refine bC ?_)|(with_reducible refine And.intro ?_ ?_)|(refine am ?_;omega)|(exact a9 hN (by decide))))
   all_goals (refine ct hN (i:=1) (.inr rfl) (by first|rfl|(simp (disch:=first|decide|omega|(simp only [List.length_cons,List.length_nil];omega)) only [bH,bM,bP,bQ,go_sem,beq_self_eq_true,↓ax,↓ak hN,an hN,reduceIte,reduceCtorEq,Nat.reduceAdd,Nat.reduceLT,Nat.reduceLeDiff,Nat.reduceEqDiff,Nat.reduceSub];rfl)) rfl ?_ rfl)
   all_goals rw [hsl]
 by_cases h1 : ∃ v,v < n ∧ S v
 · rw [aA h1] at hso
   have hR:=qR (bt g n) (qA (bt g n) n D) who D mine (yours / 2)
   have hr1:=i8 g n hg D hD hA who hw S mine (yours / 2) hm (by omega) hS ht fun v hv=>by have:=hp v hv;omega
   have s1 : ∀ v,itQ (qR (bt g n) (qA (bt g n) n D) who D mine (yours / 2)) S n v → S v:=fun v h=>dU (fun _ _ h=>h.1) n v h
   have t1:=gA (fun T h=>iz (A:=qA (bt g n) n D) (who:=who) (d:=D) (mine:=mine) (yours:=yours / 2) hf h) ht n
   have e1:=fun h=>mX (P:=bt g n) (n:=n) (D:=D) (who:=who) (S:=S) (mine:=mine) (yours:=yours) h0 hS h
   have e2:=j0 (P:=bt g n) (n:=n) (D:=D) (who:=who) (S:=S) (yours:=yours) h0
   generalize itQ (qR (bt g n) (qA (bt g n) n D) who D mine (yours / 2)) S n = G1 at *
   have hr2:=gI g n hg D hD hA who hw G1 mine yours hm hy (fun v h=>hS v (s1 v h)) t1 fun v hv=>by have:=hp v (s1 v hv);omega
   have s2 : ∀ v,qR (bt g n) (qA (bt g n) n D) who D mine yours G1 v → G1 v:=fun v h=>h.1
   have t2 : PG.Total (bt g n) (qR (bt g n) (qA (bt g n) n D) who D mine yours G1):=iz hf t1
   generalize qR (bt g n) (qA (bt g n) n D) who D mine yours G1 = G2 at *
   have hr3:=i8 g n hg D hD hA who hw G2 mine (yours / 2) hm (by omega) (fun v h=>hS v (s1 v (s2 v h))) t2 fun v hv=>by have:=hp v (s1 v (s2 v hv));omega
   have hl:=gf (mks n G1) (mks n G2) (by rw [bw,bw]) (by rw [bw];omega)
   rw [gh] at hl
   have hs2:=gj n (PG.Diff G1 G2) (by omega)
   have hsame:=Lib.hid (lH (fun v h=>hS v (s1 v h)) s2)
   have hq : IntKind.i64.wrap (yours.tdiv 2) = yours / 2:=by rw [Int.tdiv_eq_ediv_of_nonneg hy.1];exact q8 (by omega)
   rw [← hq] at hr1 hr3
   have E1:=Lib.hid e1
   have HQ:=Lib.hid hq
   have E2:=Lib.hid e2
   clear e1 e2 s1 s2 t1 t2 ht hp hS hA hq
   (refine aV aS Try.func46 rfl rfl (by kernel_rfl) fun hp0 ν hX hN=>?_;simp only [ca,Nat.reduceAdd])
   (repeat' (first|(with_reducible first|(apply hK;clear hK K)|refine stZ ?_|refine aX rfl ?_|((first|apply ae|apply af);clear ae X af Y))|(with_reducible refine a8 ?_;first|refine aY rfl ?_|refine aZ rfl ?_)|(with_reducible refine bz ?_;first|refine be rfl rfl rfl rfl ?_|refine bv rfl rfl rfl ?_|refine bN rfl rfl rfl rfl ?_)|((first|(with_reducible first|((first|refine bc ?_|refine bd ?_);intro K hK)|(refine aC ?_;intro X Y ae af)|refine aD ?_)|(with_reducible refine bz ?_;refine bf rfl rfl fun X Y ae af=>?_));simp (disch:=first|decide|omega|(simp only [List.length_cons,List.length_nil];omega)) only [go_sem,↓ak hN,an hN,reduceIte,reduceCtorEq,Nat.reduceAdd,Nat.reduceLT,Nat.reduceLeDiff,Nat.reduceEqDiff,Nat.reduceSub])|(with_reducible refine And.intro (fun h=>?_) (fun h=>?_) <;> try (exfalso;omega))|(with_reducible refine ba aS hN ?_)|((first|refine aB (hso) ?_ rfl (fun _=>rfl) ?_|refine aB (hl) ?_ rfl (fun _=>rfl) ?_);focus ((repeat' (first|(with_reducible first|exact au|refine ap ?_ ?_|exact bF _|refine aH ?_|exact aJ _|exact bi _ _|refine bh ?_|exact aF _)|exact aI hN rfl rfl|(refine bg hN rfl ?_;first|exact aP _|exact aQ _)|exact aG rfl rfl rfl));done))|(refine aB (hr1) ?_ rfl (fun _=>rfl) ?_;focus ((repeat' (first|(with_reducible first|exact au|refine ap ?_ ?_|exact bF _|refine aH ?_|exact aJ _|exact bi _ _|refine bh ?_|exact aF _)|exact aI hN rfl rfl|(refine bg hN rfl ?_;first|exact aP _|exact aQ _)|exact aG rfl rfl rfl));done))|(refine aB (hr2) ?_ rfl (fun _=>rfl) ?_;focus ((repeat' (first|(with_reducible first|exact au|refine ap ?_ ?_|exact bF _|refine aH ?_|exact aJ _|exact bi _ _|refine bh ?_|exact aF _)|exact aI hN rfl rfl|(refine bg hN rfl ?_;first|exact aP _|exact aQ _)|exact aG rfl rfl rfl));done))|(refine aB (hs2) ?_ rfl (fun _=>rfl) ?_;focus ((repeat' (first|(with_reducible first|exact au|refine ap ?_ ?_|exact bF _|refine aH ?_|exact aJ _|exact bi _ _|refine bh ?_|exact aF _)|exact aI hN rfl rfl|(refine bg hN rfl ?_;first|exact aP _|exact aQ _)|exact aG rfl rfl rfl));done))|(refine aB (hr3) ?_ rfl (fun _=>rfl) ?_;focus ((repeat' (first|(with_reducible first|exact au|refine ap ?_ ?_|exact bF _|refine aH ?_|exact aJ _|exact bi _ _|refine bh ?_|exact aF _)|exact aI hN rfl rfl|(refine bg hN rfl ?_;first|exact aP _|exact aQ _)|exact aG rfl rfl rfl));done))|(with_reducible first|exact au|refine ap ?_ ?_|exact bF _|refine aH ?_|exact aJ _|exact bi _ _|refine bh ?_|exact aF _)|exact aI hN rfl rfl|(refine bg hN rfl ?_;first|exact aP _|exact aQ _)|exact aG rfl rfl rfl|(simp only [aT,List.map_nil])|(with_reducible refine bC ?_)|(with_reducible refine And.intro ?_ ?_)|(refine am ?_;omega)|(exact a9 hN (by decide))))
   · (refine ct hN (i:=2) (.inr rfl) (by first|rfl|(simp (disch:=first|decide|omega|(simp only [List.length_cons,List.length_nil];omega)) only [bH,bM,bP,bQ,go_sem,beq_self_eq_true,↓ax,↓ak hN,an hN,reduceIte,reduceCtorEq,Nat.reduceAdd,Nat.reduceLT,Nat.reduceLeDiff,Nat.reduceEqDiff,Nat.reduceSub];rfl)) rfl ?_ rfl)
     have e:=hsame.out.1 (by assumption)
     rw [E1.out e,e]
   · (refine ct hN (i:=4) (.inr rfl) (by first|rfl|(simp (disch:=first|decide|omega|(simp only [List.length_cons,List.length_nil];omega)) only [bH,bM,bP,bQ,go_sem,beq_self_eq_true,↓ax,↓ak hN,an hN,reduceIte,reduceCtorEq,Nat.reduceAdd,Nat.reduceLT,Nat.reduceLeDiff,Nat.reduceEqDiff,Nat.reduceSub];rfl)) rfl ?_ rfl)
     rw [E2.out,HQ.out]
 · rw [o7 fun v hv=>h1 ⟨v,hS v hv,hv⟩,show (mks n fun _=>False) = List.replicate n false from (i7 fun _ _ h=>h).symm]
   rw [aq h1] at hso
   generalize mks n S = inn at *
   (refine aV aS Try.func46 rfl rfl (by kernel_rfl) fun hp0 ν hX hN=>?_;simp only [ca,Nat.reduceAdd])
   (repeat' (first|(with_reducible first|(apply hK;clear hK K)|refine stZ ?_|refine aX rfl ?_|((first|apply ae|apply af);clear ae X af Y))|(with_reducible refine a8 ?_;first|refine aY rfl ?_|refine aZ rfl ?_)|(with_reducible refine bz ?_;first|refine be rfl rfl rfl rfl ?_|refine bv rfl rfl rfl ?_|refine bN rfl rfl rfl rfl ?_)|((first|(with_reducible first|((first|refine bc ?_|refine bd ?_);intro K hK)|(refine aC ?_;intro X Y ae af)|refine aD ?_)|(with_reducible refine bz ?_;refine bf rfl rfl fun X Y ae af=>?_));simp (disch:=first|decide|omega|(simp only [List.length_cons,List.length_nil];omega)) only [go_sem,↓ak hN,an hN,reduceIte,reduceCtorEq,Nat.reduceAdd,Nat.reduceLT,Nat.reduceLeDiff,Nat.reduceEqDiff,Nat.reduceSub])|(with_reducible refine And.intro (fun h=>?_) (fun h=>?_) <;> try (exfalso;omega))|(with_reducible refine ba aS hN ?_)|(refine aB (hso) ?_ rfl (fun _=>rfl) ?_;focus ((repeat' (first|(with_reducible first|exact au|refine ap ?_ ?_|exact bF _|refine aH ?_|exact aJ _|exact bi _ _|refine bh ?_|exact aF _)|exact aI hN rfl rfl|(refine bg hN rfl ?_;first|exact aP _|exact aQ _)|exact aG rfl rfl rfl));done))|(with_reducible first|exact au|refine ap ?_ ?_|exact bF _|refine aH ?_|exact aJ _|exact bi _ _|refine bh ?_|exact aF _)|exact aI hN rfl rfl|(refine bg hN rfl ?_;first|exact aP _|exact aQ _)|exact aG rfl rfl rfl|(simp only [aT,List.map_nil])|(with_reducible refine bC ?_)|(with_reducible refine And.intro ?_ ?_)|(refine am ?_;omega)|(exact a9 hN (by decide))))
   all_goals (refine ct hN (i:=1) (.inr rfl) (by first|rfl|(simp (disch:=first|decide|omega|(simp only [List.length_cons,List.length_nil];omega)) only [bH,bM,bP,bQ,go_sem,beq_self_eq_true,↓ax,↓ak hN,an hN,reduceIte,reduceCtorEq,Nat.reduceAdd,Nat.reduceLT,Nat.reduceLeDiff,Nat.reduceEqDiff,Nat.reduceSub];rfl)) rfl ?_ rfl)
   all_goals rw [hsl]
end Go.Proofs.Ythjamlponejffaa
