/-
  Queries, the reference: rounds and answers.
-/
import Derived.Test.YthjamlponejffaaZwNA
import Derived.Test.YthjamlponejffaaZwE9
namespace Go.Proofs.Ythjamlponejffaa
set_option linter.unusedVariables false
set_option linter.unusedSimpArgs false
open Go.RowKit
attribute [local irreducible] au ci Aw Le
theorem o6 {n v : Nat} {p : Nat → Prop} : gb (mks n p) v = true ↔ v < n ∧ p v:=by
 by_cases h : v < n
 · rw [dY p h]
   exact ⟨fun h'=>⟨h,gL.1 h'⟩,fun h'=>aH h'.2⟩
 · refine ⟨fun h'=>?_,fun h'=>absurd h'.1 h⟩
   have : (mks n p).length = n:=bv _ _
   simp [gb,List.getD_eq_getElem?_getD,List.getElem?_eq_none (show (mks n p).length ≤ v by omega)] at h'
theorem im {n : Nat} {S : Nat → Prop} (hS : ∀ v,S v → v < n) : (fun v=>gb (mks n S) v = true) = S:=funext fun v=>propext (by
 rcases Nat.lt_or_ge v n with h|h
 · rw [dY _ h];exact gL
 · refine ⟨fun h'=>?_,fun h'=>?_⟩
   · have:=uj h';rw [bv] at this;omega
   · have:=hS v h';omega)
theorem fU {n : Nat} (S T : Nat → Prop) : (b9 (mks n S).length fun v=>gb (mks n S) v && !gb (mks n T) v) = mks n (PG.Diff S T):=by
 rw [bv]
 refine ct fun v hv=>l9 ?_
 rw [dY _ hv,dY _ hv,Bool.and_eq_true,Bool.not_eq_true',gL,qP]
 exact Iff.rfl
theorem io {n : Nat} {S : Nat → Prop} (h : ∀ v,v < n → ¬ S v) : List.replicate n false = mks n S :=
 (dn n fun _=>false).symm.trans (ct fun v hv=>by rw [ap (h v hv)];simp)
theorem fV (n : Nat) (S : Nat → Prop) (hn : n ≤ 1048576) : au Try.prog 85 [.c (.B (mks n S))] [] (fun _=>.c (.bool (tf (∃ v,v < n ∧ S v)))):=by
 have hml:=bv n S
 (refine bu ba Try.func85 rfl rfl (by kernel_rfl) fun hp0 ν hX hN=>?_;simp only [cy,Nat.reduceAdd])
 (repeat' (first|(with_reducible first|(apply hK;clear hK K)|refine stZ ?_|refine bc rfl ?_|((first|apply ae|apply af);clear ae X af Y))|(with_reducible refine bf ?_;first|refine bd rfl ?_|refine be rfl ?_)|((with_reducible first|((first|refine bi ?_|refine bj ?_);intro K hK)|(refine aN ?_;intro X Y ae af)|refine aO ?_);simp (disch:=first|decide|omega|(simp only [List.length_cons,List.length_nil];omega)) only [go_sem,↓am hN,ao hN,reduceIte,reduceCtorEq,Nat.reduceAdd,Nat.reduceLT,Nat.reduceLeDiff,Nat.reduceEqDiff,Nat.reduceSub])|(with_reducible refine And.intro (fun h=>?_) (fun h=>?_) <;> try (exfalso;omega))|(with_reducible refine bh ba hN ?_)|(with_reducible refine And.intro ?_ ?_)|(refine ak ?_;omega)|(exact bg hN (by decide))))
 (refine ce (fun (k : Nat)=>(tmL [(3,.c (.int .i64 k)),(0,.c (.B (mks n S)))],hpL hp0 ν [])) (fun (k : Nat)=>k ≤ n ∧ ∀ v,v < k → ¬ S v) (fun (k : Nat)=>n - k) ⟨0,?_,bC hX hN [] ?_ ?_⟩ ?_;(repeat' (first|(with_reducible first|exact clZ|refine bD ?_ ?_|refine bE ?_ ?_|rfl|refine suZ ?_)|refine bF rfl ?_ ?_|exact aR hN _ rfl rfl rfl|exact aS hN _ rfl rfl rfl|exact aB hN _ rfl rfl rfl (Or.inr rfl)|(refine aT hN _ rfl rfl (by first|exact Or.inr rfl|exact Or.inl rfl) ?_;first|exact aJ _|exact aK _)|refine aC hN rfl ?_|refine aD hN rfl rfl ?_|exact aA hN _ rfl rfl|exact aE hN rfl rfl rfl rfl|(with_reducible first|refine stZ ?_|refine aQ ?_)));(try (any_goals (first|(with_reducible rfl)|(refine ak ?_;omega)))))
 · exact ⟨Nat.zero_le _,fun v hv=>absurd hv (Nat.not_lt_zero v)⟩
 intro k hk
 obtain ⟨hk,hI⟩:=hk
 rcases Nat.lt_or_ge k n with hkl|hkl
 · have hgk:=Lib.hid (o6 (n:=n) (v:=k) (p:=S))
   (repeat' (first|(with_reducible first|(apply hK;clear hK K)|refine stZ ?_|refine bc rfl ?_|((first|apply ae|apply af);clear ae X af Y))|(with_reducible refine bf ?_;first|refine bd rfl ?_|refine be rfl ?_)|((with_reducible first|((first|refine bi ?_|refine bj ?_);intro K hK)|(refine aN ?_;intro X Y ae af)|refine aO ?_);simp (disch:=first|decide|omega|(simp only [List.length_cons,List.length_nil];omega)) only [go_sem,↓am hN,ao hN,reduceIte,reduceCtorEq,Nat.reduceAdd,Nat.reduceLT,Nat.reduceLeDiff,Nat.reduceEqDiff,Nat.reduceSub])|(with_reducible refine And.intro (fun h=>?_) (fun h=>?_) <;> try (exfalso;omega))|(with_reducible refine bh ba hN ?_)|(with_reducible refine And.intro ?_ ?_)|(refine ak ?_;omega)|(exact bg hN (by decide))))
   · (refine dF (.inr rfl) (by first|rfl|(simp (disch:=first|decide|omega|(simp only [List.length_cons,List.length_nil];omega)) only [bW,b7,cf,cj,go_sem,beq_self_eq_true,↓aG,↓am hN,ao hN,reduceIte,reduceCtorEq,Nat.reduceAdd,Nat.reduceLT,Nat.reduceLeDiff,Nat.reduceEqDiff,Nat.reduceSub];rfl)) ?_)
     exact congrArg C.bool (aH ⟨k,hkl,(hgk.out.1 h).2⟩).symm
   · (refine ⟨k + 1,⟨?_,?_⟩,bC hX hN [] ?_ ?_⟩;(try any_goals dsimp only);(repeat' (first|(with_reducible first|exact clZ|refine bD ?_ ?_|refine bE ?_ ?_|rfl|refine suZ ?_)|refine bF rfl ?_ ?_|exact aR hN _ rfl rfl rfl|exact aS hN _ rfl rfl rfl|exact aB hN _ rfl rfl rfl (Or.inr rfl)|(refine aT hN _ rfl rfl (by first|exact Or.inr rfl|exact Or.inl rfl) ?_;first|exact aJ _|exact aK _)|refine aC hN rfl ?_|refine aD hN rfl rfl ?_|exact aA hN _ rfl rfl|exact aE hN rfl rfl rfl rfl|(with_reducible first|refine stZ ?_|refine aQ ?_)));(try (any_goals (first|(with_reducible rfl)|(refine ak ?_;omega)))))
     refine ⟨by omega,fun v hv hS=>?_⟩
     rcases Nat.lt_or_ge v k with h'|h'
     · exact hI v h' hS
     · obtain rfl : v = k:=by omega
       rw [hgk.out.2 ⟨hkl,hS⟩] at h;cases h
 · (repeat' (first|(with_reducible first|(apply hK;clear hK K)|refine stZ ?_|refine bc rfl ?_|((first|apply ae|apply af);clear ae X af Y))|(with_reducible refine bf ?_;first|refine bd rfl ?_|refine be rfl ?_)|((with_reducible first|((first|refine bi ?_|refine bj ?_);intro K hK)|(refine aN ?_;intro X Y ae af)|refine aO ?_);simp (disch:=first|decide|omega|(simp only [List.length_cons,List.length_nil];omega)) only [go_sem,↓am hN,ao hN,reduceIte,reduceCtorEq,Nat.reduceAdd,Nat.reduceLT,Nat.reduceLeDiff,Nat.reduceEqDiff,Nat.reduceSub])|(with_reducible refine And.intro (fun h=>?_) (fun h=>?_) <;> try (exfalso;omega))|(with_reducible refine bh ba hN ?_)|(with_reducible refine And.intro ?_ ?_)|(refine ak ?_;omega)|(exact bg hN (by decide))))
   (refine dF (.inr rfl) (by first|rfl|(simp (disch:=first|decide|omega|(simp only [List.length_cons,List.length_nil];omega)) only [bW,b7,cf,cj,go_sem,beq_self_eq_true,↓aG,↓am hN,ao hN,reduceIte,reduceCtorEq,Nat.reduceAdd,Nat.reduceLT,Nat.reduceLeDiff,Nat.reduceEqDiff,Nat.reduceSub];rfl)) ?_)
   exact congrArg C.bool (ap fun ⟨v,h1,h2⟩=>hI v (by omega) h2).symm
def nl (g : Gm) (n D : Nat) : Prop:=∀ (who : Int) (S : Nat → Prop) (mine yours : Int),(who = 0 ∨ who = 1) → (0 ≤ mine ∧ mine ≤ 64) → (0 ≤ yours ∧ yours ≤ 64) → (∀ v,S v → v < n) → PG.Total (aV g n) S → (∀ v,S v → (aV g n).prio v ≤ (D : Int) - 1) →
 au Try.prog 46 [gmA g,.c (.B (mks n S)),.c (.int .i64 who),.c (.int .i64 ((D : Int) - 1)),.c (.int .i64 mine),.c (.int .i64 yours)] [.arr 4 .yes (.B (mks n (qA (aV g n) n D who S mine yours)))] (fun ns=>.sl (ns.getD 0 0))
theorem lG (g : Gm) (n : Nat) : PG.Fin (aV g n) n:=fun v u h=>h.2.1
set_option maxHeartbeats 4000000 in
theorem i9 (g : Gm) (n : Nat) (hg : GmOk g n) (D : Nat) (hD : D ≤ 64) (hA : nl g n D) (who : Int) (hw : who = 0 ∨ who = 1) (S : Nat → Prop) (mine yours : Int) (hm : 0 ≤ mine ∧ mine ≤ 64) (hy : 0 ≤ yours ∧ yours ≤ 64) (hS : ∀ v,S v → v < n) (ht : PG.Total (aV g n) S) (hp : ∀ v,S v → (aV g n).prio v ≤ D) :
  au Try.prog 56 [gmA g,.c (.B (mks n S)),.c (.int .i64 who),.c (.int .i64 D),.c (.int .i64 mine),.c (.int .i64 yours)] [.arr 4 .yes (.B (mks n (qR (aV g n) (qA (aV g n) n D) who D mine yours S)))] (fun ns=>.sl (ns.getD 0 0)):=by
 have hle:=hg.le
 have hgp:=hg.prio
 have hf:=lG g n
 have hsl:=bv n S
 have hw1 : 1 - who = 0 ∨ 1 - who = 1:=by omega
 obtain ⟨goal,hgo⟩ : ∃ goal,goal = b9 n fun v=>gb (mks n S) v && gi g.prio v == (D : Int):=⟨_,rfl⟩
 have hgl : goal.length = n:=by rw [hgo,dI]
 have hgv : ∀ v,S v → (gb goal v = true ↔ (aV g n).prio v = D):=fun v hv=>by
  have hvn:=hS v hv
  rw [hgo,dg _ hvn,dY _ hvn,aH hv,jQ hg hvn];simp
 have hatt:=gx g n hg (mks n S) goal hsl hgl who (by rw [im hS];exact ht)
 rw [im hS,show PG.Attr (aV g n) who S (fun v=>gb goal v = true) = PG.Attr (aV g n) who S fun v=>(aV g n).prio v = D from funext fun v=>propext (PG.attr_congr (fun _=>Iff.rfl) hgv v)] at hatt
 have hless:=fS (mks n S) (mks n (PG.Attr (aV g n) who S fun v=>(aV g n).prio v = D)) (by rw [bv,bv]) (by rw [bv];omega)
 rw [fU] at hless
 have hans:=hA (1 - who) _ yours mine hw1 hy hm (fun v h=>hS v h.1) (PG.total_diff hf ht) (rn (who:=who) hp)
 have hLn : ∀ v,qA (aV g n) n D (1 - who) (PG.Diff S (PG.Attr (aV g n) who S fun v=>(aV g n).prio v = D)) yours mine v → v < n:=fun v h=>hS v (nL h).1
 obtain ⟨L,hL⟩ : ∃ L,L = qA (aV g n) n D (1 - who) (PG.Diff S (PG.Attr (aV g n) who S fun v=>(aV g n).prio v = D)) yours mine:=⟨_,rfl⟩
 rw [← hL] at hans hLn
 have hend : qR (aV g n) (qA (aV g n) n D) who D mine yours S = PG.Diff S (PG.Attr (aV g n) (1 - who) S L):=by rw [hL];rfl
 rw [hend]
 have hatt2:=gx g n hg (mks n S) (mks n L) hsl (bv _ _) (1 - who) (by rw [im hS];exact ht)
 rw [im hS,im hLn] at hatt2
 have hless2:=fS (mks n S) (mks n (PG.Attr (aV g n) (1 - who) S L)) (by rw [bv,bv]) (by rw [bv];omega)
 rw [fU] at hless2
 clear hend hL hLn hgv
 have l1:=bv n (PG.Attr (aV g n) who S fun v=>(aV g n).prio v = D)
 have l2:=bv n (PG.Diff S (PG.Attr (aV g n) who S fun v=>(aV g n).prio v = D))
 have l3:=bv n L
 have l4:=bv n (PG.Attr (aV g n) (1 - who) S L)
 generalize mks n (PG.Diff S (PG.Attr (aV g n) (1 - who) S L)) = out at *
 generalize mks n (PG.Attr (aV g n) (1 - who) S L) = a2 at *
 generalize mks n L = lost at *
 generalize mks n (PG.Diff S (PG.Attr (aV g n) who S fun v=>(aV g n).prio v = D)) = low at *
 generalize mks n (PG.Attr (aV g n) who S fun v=>(aV g n).prio v = D) = a1 at *
 generalize mks n S = inn at *
 (refine bu ba Try.func56 rfl rfl (by kernel_rfl) fun hp0 ν hX hN=>?_;simp only [cy,Nat.reduceAdd])
 (repeat' (first|(with_reducible first|(apply hK;clear hK K)|refine stZ ?_|refine bc rfl ?_|((first|apply ae|apply af);clear ae X af Y))|(with_reducible refine bf ?_;first|refine bd rfl ?_|refine be rfl ?_)|(with_reducible refine bI ?_;first|refine bp rfl rfl rfl rfl ?_|refine bH rfl rfl rfl ?_|refine bY rfl rfl rfl rfl ?_)|((first|(with_reducible first|((first|refine bi ?_|refine bj ?_);intro K hK)|(refine aN ?_;intro X Y ae af)|refine aO ?_)|(with_reducible refine bI ?_;refine br rfl rfl fun X Y ae af=>?_));simp (disch:=first|decide|omega|(simp only [List.length_cons,List.length_nil];omega)) only [go_sem,↓am hN,ao hN,reduceIte,reduceCtorEq,Nat.reduceAdd,Nat.reduceLT,Nat.reduceLeDiff,Nat.reduceEqDiff,Nat.reduceSub])|(with_reducible refine And.intro (fun h=>?_) (fun h=>?_) <;> try (exfalso;omega))|(with_reducible refine bh ba hN ?_)|(with_reducible refine And.intro ?_ ?_)|(refine ak ?_;omega)|(exact bg hN (by decide))))
 (refine ce (fun (k : Nat)=>(tmL [(14,.c (.int .i64 k)),(13,.sl (ν 1)),(6,.ad (ν 0) 0),(1,.c (.B inn)),(2,.c (.int .i64 who)),(3,.c (.int .i64 D)),(4,.c (.int .i64 mine)),(5,.c (.int .i64 yours))],hpL hp0 ν [.box [.c (.I g.own),.c (.I g.prio),.c (.R g.nxt),.c (.R g.prev),.c (.I g.pick)],.arr 4 .yes (.B (b9 n fun v=>if v < k then gb inn v && gi g.prio v == (D : Int) else false))])) (fun (k : Nat)=>k ≤ n) (fun (k : Nat)=>n - k) ⟨0,?_,bC hX hN [] ?_ ?_⟩ ?_;(repeat' (first|(with_reducible first|exact clZ|refine bD ?_ ?_|refine bE ?_ ?_|rfl|refine suZ ?_)|refine bF rfl ?_ ?_|exact aR hN _ rfl rfl rfl|exact aS hN _ rfl rfl rfl|exact aB hN _ rfl rfl rfl (Or.inr rfl)|(refine aT hN _ rfl rfl (by first|exact Or.inr rfl|exact Or.inl rfl) ?_;first|exact aJ _|exact aK _)|refine aC hN rfl ?_|refine aD hN rfl rfl ?_|exact aA hN _ rfl rfl|exact aE hN rfl rfl rfl rfl|(with_reducible first|refine stZ ?_|refine aQ ?_)));(try (any_goals (first|(with_reducible rfl)|(refine ak ?_;omega)))))
 · rw [hsl];exact dn n fun v=>gb inn v && gi g.prio v == (D : Int)
 intro k hk
 (repeat' (first|(with_reducible first|(apply hK;clear hK K)|refine stZ ?_|refine bc rfl ?_|((first|apply ae|apply af);clear ae X af Y))|(with_reducible refine bf ?_;first|refine bd rfl ?_|refine be rfl ?_)|(with_reducible refine bI ?_;first|refine bp rfl rfl rfl rfl ?_|refine bH rfl rfl rfl ?_|refine bY rfl rfl rfl rfl ?_)|((first|(with_reducible first|((first|refine bi ?_|refine bj ?_);intro K hK)|(refine aN ?_;intro X Y ae af)|refine aO ?_)|(with_reducible refine bI ?_;refine br rfl rfl fun X Y ae af=>?_));simp (disch:=first|decide|omega|(simp only [List.length_cons,List.length_nil];omega)) only [go_sem,↓am hN,ao hN,reduceIte,reduceCtorEq,Nat.reduceAdd,Nat.reduceLT,Nat.reduceLeDiff,Nat.reduceEqDiff,Nat.reduceSub])|(with_reducible refine And.intro (fun h=>?_) (fun h=>?_) <;> try (exfalso;omega))|(with_reducible refine bh ba hN ?_)|(with_reducible refine And.intro ?_ ?_)|(refine ak ?_;omega)|(exact bg hN (by decide))))
 · (refine ⟨k + 1,⟨?_,?_⟩,bC hX hN [] ?_ ?_⟩;(try any_goals dsimp only);(repeat' (first|(with_reducible first|exact clZ|refine bD ?_ ?_|refine bE ?_ ?_|rfl|refine suZ ?_)|refine bF rfl ?_ ?_|exact aR hN _ rfl rfl rfl|exact aS hN _ rfl rfl rfl|exact aB hN _ rfl rfl rfl (Or.inr rfl)|(refine aT hN _ rfl rfl (by first|exact Or.inr rfl|exact Or.inl rfl) ?_;first|exact aJ _|exact aK _)|refine aC hN rfl ?_|refine aD hN rfl rfl ?_|exact aA hN _ rfl rfl|exact aE hN rfl rfl rfl rfl|(with_reducible first|refine stZ ?_|refine aQ ?_)));(try (any_goals (first|(with_reducible rfl)|(refine ak ?_;omega)))))
   exact iZ (f:=fun v=>gb inn v && gi g.prio v == (D : Int)) (d:=fun _=>false) (by omega) (by simp [*])
 · (refine ⟨k + 1,⟨?_,?_⟩,bC hX hN [] ?_ ?_⟩;(try any_goals dsimp only);(repeat' (first|(with_reducible first|exact clZ|refine bD ?_ ?_|refine bE ?_ ?_|rfl|refine suZ ?_)|refine bF rfl ?_ ?_|exact aR hN _ rfl rfl rfl|exact aS hN _ rfl rfl rfl|exact aB hN _ rfl rfl rfl (Or.inr rfl)|(refine aT hN _ rfl rfl (by first|exact Or.inr rfl|exact Or.inl rfl) ?_;first|exact aJ _|exact aK _)|refine aC hN rfl ?_|refine aD hN rfl rfl ?_|exact aA hN _ rfl rfl|exact aE hN rfl rfl rfl rfl|(with_reducible first|refine stZ ?_|refine aQ ?_)));(try (any_goals (first|(with_reducible rfl)|(refine ak ?_;omega)))))
   exact iZ (f:=fun v=>gb inn v && gi g.prio v == (D : Int)) (d:=fun _=>false) (by omega) (by simp [*])
 rw [show (b9 n fun v=>if v < k then gb inn v && gi g.prio v == (D : Int) else false) = goal from (fh (by omega)).trans hgo.symm]
 clear hgo
 (repeat' (first|(with_reducible first|(apply hK;clear hK K)|refine stZ ?_|refine bc rfl ?_|((first|apply ae|apply af);clear ae X af Y))|(with_reducible refine bf ?_;first|refine bd rfl ?_|refine be rfl ?_)|(with_reducible refine bI ?_;first|refine bp rfl rfl rfl rfl ?_|refine bH rfl rfl rfl ?_|refine bY rfl rfl rfl rfl ?_)|((first|(with_reducible first|((first|refine bi ?_|refine bj ?_);intro K hK)|(refine aN ?_;intro X Y ae af)|refine aO ?_)|(with_reducible refine bI ?_;refine br rfl rfl fun X Y ae af=>?_));simp (disch:=first|decide|omega|(simp only [List.length_cons,List.length_nil];omega)) only [go_sem,↓am hN,ao hN,reduceIte,reduceCtorEq,Nat.reduceAdd,Nat.reduceLT,Nat.reduceLeDiff,Nat.reduceEqDiff,Nat.reduceSub])|(with_reducible refine And.intro (fun h=>?_) (fun h=>?_) <;> try (exfalso;omega))|(with_reducible refine bh ba hN ?_)|(refine bo (hless) ?_ rfl (fun _=>rfl) ?_;focus ((repeat' (first|(with_reducible first|exact az|refine aw ?_ ?_|exact bX _|refine aY ?_|exact a8 _|exact bA _ _|refine bz ?_|exact aW _)|exact aZ hN rfl rfl|(refine bw hN rfl ?_;first|exact aJ _|exact aK _)|exact aX rfl rfl rfl));done))|(refine bo (hatt) ?_ rfl (fun _=>rfl) ?_;focus ((repeat' (first|(with_reducible first|exact az|refine aw ?_ ?_|exact bX _|refine aY ?_|exact a8 _|exact bA _ _|refine bz ?_|exact aW _)|exact aZ hN rfl rfl|(refine bw hN rfl ?_;first|exact aJ _|exact aK _)|exact aX rfl rfl rfl));done))|(refine bo (hans) ?_ rfl (fun _=>rfl) ?_;focus ((repeat' (first|(with_reducible first|exact az|refine aw ?_ ?_|exact bX _|refine aY ?_|exact a8 _|exact bA _ _|refine bz ?_|exact aW _)|exact aZ hN rfl rfl|(refine bw hN rfl ?_;first|exact aJ _|exact aK _)|exact aX rfl rfl rfl));done))|(refine bo (hatt2) ?_ rfl (fun _=>rfl) ?_;focus ((repeat' (first|(with_reducible first|exact az|refine aw ?_ ?_|exact bX _|refine aY ?_|exact a8 _|exact bA _ _|refine bz ?_|exact aW _)|exact aZ hN rfl rfl|(refine bw hN rfl ?_;first|exact aJ _|exact aK _)|exact aX rfl rfl rfl));done))|(refine bo (hless2) ?_ rfl (fun _=>rfl) ?_;focus ((repeat' (first|(with_reducible first|exact az|refine aw ?_ ?_|exact bX _|refine aY ?_|exact a8 _|exact bA _ _|refine bz ?_|exact aW _)|exact aZ hN rfl rfl|(refine bw hN rfl ?_;first|exact aJ _|exact aK _)|exact aX rfl rfl rfl));done))|(with_reducible first|exact az|refine aw ?_ ?_|exact bX _|refine aY ?_|exact a8 _|exact bA _ _|refine bz ?_|exact aW _)|exact aZ hN rfl rfl|(refine bw hN rfl ?_;first|exact aJ _|exact aK _)|exact aX rfl rfl rfl|(simp only [aM,List.map_nil])|(with_reducible refine b8 ?_)|(with_reducible refine And.intro ?_ ?_)|(refine ak ?_;omega)|(exact bg hN (by decide))))
 all_goals (refine cz hN (i:=6) (.inr rfl) (by first|rfl|(simp (disch:=first|decide|omega|(simp only [List.length_cons,List.length_nil];omega)) only [bW,b7,cf,cj,go_sem,beq_self_eq_true,↓aG,↓am hN,ao hN,reduceIte,reduceCtorEq,Nat.reduceAdd,Nat.reduceLT,Nat.reduceLeDiff,Nat.reduceEqDiff,Nat.reduceSub];rfl)) rfl ?_ rfl)
 all_goals rfl
theorem kK {n : Nat} {S T : Nat → Prop} (hS : ∀ v,S v → v < n) (h : ∀ v,T v → S v) : ¬ (∃ v,v < n ∧ PG.Diff S T v) ↔ T = S :=
 ⟨fun hno=>funext fun v=>propext ⟨h v,fun hv=>Classical.byContradiction fun h'=>hno ⟨v,hS v hv,hv,h'⟩⟩,fun e ⟨v,_,h1,h2⟩=>h2 (by rw [e];exact h1)⟩
set_option maxHeartbeats 4000000 in
theorem ip (g : Gm) (n : Nat) (hg : GmOk g n) (D : Nat) (hD : D ≤ 64) (hA : nl g n D) (who : Int) (hw : who = 0 ∨ who = 1) (S : Nat → Prop) (mine yours : Int) (hm : 0 ≤ mine ∧ mine ≤ 64) (hy : 0 ≤ yours ∧ yours ≤ 64) (hS : ∀ v,S v → v < n) (ht : PG.Total (aV g n) S) (hp : ∀ v,S v → (aV g n).prio v ≤ D) :
  au Try.prog 86 [gmA g,.c (.B (mks n S)),.c (.int .i64 who),.c (.int .i64 D),.c (.int .i64 mine),.c (.int .i64 yours)] [.arr 4 .yes (.B (mks n (itQ (qR (aV g n) (qA (aV g n) n D) who D mine yours) S n)))] (fun ns=>.sl (ns.getD 0 0)):=by
 have hle:=hg.le
 have hf:=lG g n
 have hsl:=bv n S
 (refine bu ba Try.func86 rfl rfl (by kernel_rfl) fun hp0 ν hX hN=>?_;simp only [cy,Nat.reduceAdd])
 (repeat' (first|(with_reducible first|(apply hK;clear hK K)|refine stZ ?_|refine bc rfl ?_|((first|apply ae|apply af);clear ae X af Y))|(with_reducible refine bf ?_;first|refine bd rfl ?_|refine be rfl ?_)|((with_reducible first|((first|refine bi ?_|refine bj ?_);intro K hK)|(refine aN ?_;intro X Y ae af)|refine aO ?_);simp (disch:=first|decide|omega|(simp only [List.length_cons,List.length_nil];omega)) only [go_sem,↓am hN,ao hN,reduceIte,reduceCtorEq,Nat.reduceAdd,Nat.reduceLT,Nat.reduceLeDiff,Nat.reduceEqDiff,Nat.reduceSub])|(with_reducible refine And.intro (fun h=>?_) (fun h=>?_) <;> try (exfalso;omega))|(with_reducible refine bh ba hN ?_)|(with_reducible refine And.intro ?_ ?_)|(refine ak ?_;omega)|(exact bg hN (by decide))))
 (refine ce (fun (k : Nat)=>(tmL [(6,.ad (ν 0) 0),(1,.c (.B (mks n (itQ (qR (aV g n) (qA (aV g n) n D) who D mine yours) S k)))),(2,.c (.int .i64 who)),(3,.c (.int .i64 D)),(4,.c (.int .i64 mine)),(5,.c (.int .i64 yours))],hpL hp0 ν [.box [.c (.I g.own),.c (.I g.prio),.c (.R g.nxt),.c (.R g.prev),.c (.I g.pick)]])) (fun (k : Nat)=>True) (fun (k : Nat)=>num (itQ (qR (aV g n) (qA (aV g n) n D) who D mine yours) S k) n) ⟨0,?_,bC hX hN [] ?_ ?_⟩ ?_;(repeat' (first|(with_reducible first|exact clZ|refine bD ?_ ?_|refine bE ?_ ?_|rfl|refine suZ ?_)|refine bF rfl ?_ ?_|exact aR hN _ rfl rfl rfl|exact aS hN _ rfl rfl rfl|exact aB hN _ rfl rfl rfl (Or.inr rfl)|(refine aT hN _ rfl rfl (by first|exact Or.inr rfl|exact Or.inl rfl) ?_;first|exact aJ _|exact aK _)|refine aC hN rfl ?_|refine aD hN rfl rfl ?_|exact aA hN _ rfl rfl|exact aE hN rfl rfl rfl rfl|(with_reducible first|refine stZ ?_|refine aQ ?_)));(try (any_goals (first|(with_reducible rfl)|(refine ak ?_;omega)))))
 · trivial
 · rfl
 intro k _
 have hSk : ∀ v,itQ (qR (aV g n) (qA (aV g n) n D) who D mine yours) S k v → v < n:=fun v h=>hS v (dG (fun _ _ h=>eB h) k v h)
 have hr:=i9 g n hg D hD hA who hw _ mine yours hm hy hSk (f9 (fun _ h=>gW hf h) ht k) fun v h=>hp v (dG (fun _ _ h=>eB h) k v h)
 have hl:=fS (mks n (itQ (qR (aV g n) (qA (aV g n) n D) who D mine yours) S k)) (mks n (itQ (qR (aV g n) (qA (aV g n) n D) who D mine yours) S (k + 1))) (by rw [bv,bv]) (by rw [bv];omega)
 rw [fU] at hl
 have hso:=fV n (PG.Diff (itQ (qR (aV g n) (qA (aV g n) n D) who D mine yours) S k) (itQ (qR (aV g n) (qA (aV g n) n D) who D mine yours) S (k + 1))) (by omega)
 change au _ _ _ [.arr _ _ (.B (mks n (itQ (qR (aV g n) (qA (aV g n) n D) who D mine yours) S (k + 1))))] _ at hr
 have hsame:=Lib.hid (kK (T:=itQ (qR (aV g n) (qA (aV g n) n D) who D mine yours) S (k + 1)) hSk fun v h=>h.1)
 have hend:=Lib.hid (fun h=>lS (R:=qR (aV g n) (qA (aV g n) n D) who D mine yours) (fun _ _ h=>eB h) hS (k:=k) h)
 have hmu:=Lib.hid (jl (p:=itQ (qR (aV g n) (qA (aV g n) n D) who D mine yours) S k) (q:=itQ (qR (aV g n) (qA (aV g n) n D) who D mine yours) S (k + 1)) (k:=n) fun t _ h=>h.1)
 obtain ⟨nx,hnx⟩ : ∃ nx,nx = mks n (itQ (qR (aV g n) (qA (aV g n) n D) who D mine yours) S (k + 1)):=⟨_,rfl⟩
 rw [← hnx] at hr hl
 have HNX:=Lib.hid hnx
 clear hnx
 (repeat' (first|(with_reducible first|(apply hK;clear hK K)|refine stZ ?_|refine bc rfl ?_|((first|apply ae|apply af);clear ae X af Y))|(with_reducible refine bf ?_;first|refine bd rfl ?_|refine be rfl ?_)|((with_reducible first|((first|refine bi ?_|refine bj ?_);intro K hK)|(refine aN ?_;intro X Y ae af)|refine aO ?_);simp (disch:=first|decide|omega|(simp only [List.length_cons,List.length_nil];omega)) only [go_sem,↓am hN,ao hN,reduceIte,reduceCtorEq,Nat.reduceAdd,Nat.reduceLT,Nat.reduceLeDiff,Nat.reduceEqDiff,Nat.reduceSub])|(with_reducible refine And.intro (fun h=>?_) (fun h=>?_) <;> try (exfalso;omega))|(with_reducible refine bh ba hN ?_)|((first|refine bo (hl) ?_ rfl (fun _=>rfl) ?_|refine bo (hso) ?_ rfl (fun _=>rfl) ?_);focus ((repeat' (first|(with_reducible first|exact az|refine aw ?_ ?_|exact bX _|refine aY ?_|exact a8 _|exact bA _ _|refine bz ?_|exact aW _)|exact aZ hN rfl rfl|(refine bw hN rfl ?_;first|exact aJ _|exact aK _)|exact aX rfl rfl rfl));done))|(refine bo (hr) ?_ rfl (fun _=>rfl) ?_;focus ((repeat' (first|(with_reducible first|exact az|refine aw ?_ ?_|exact bX _|refine aY ?_|exact a8 _|exact bA _ _|refine bz ?_|exact aW _)|exact aZ hN rfl rfl|(refine bw hN rfl ?_;first|exact aJ _|exact aK _)|exact aX rfl rfl rfl));done))|(with_reducible first|exact az|refine aw ?_ ?_|exact bX _|refine aY ?_|exact a8 _|exact bA _ _|refine bz ?_|exact aW _)|exact aZ hN rfl rfl|(refine bw hN rfl ?_;first|exact aJ _|exact aK _)|exact aX rfl rfl rfl|(simp only [aM,List.map_nil])|(with_reducible refine b8 ?_)|(with_reducible refine And.intro ?_ ?_)|(refine ak ?_;omega)|(exact bg hN (by decide))))
 · (refine cz hN (i:=1) (.inr rfl) (by first|rfl|(simp (disch:=first|decide|omega|(simp only [List.length_cons,List.length_nil];omega)) only [bW,b7,cf,cj,go_sem,beq_self_eq_true,↓aG,↓am hN,ao hN,reduceIte,reduceCtorEq,Nat.reduceAdd,Nat.reduceLT,Nat.reduceLeDiff,Nat.reduceEqDiff,Nat.reduceSub];rfl)) rfl ?_ rfl)
   rw [HNX.out]
   have e:=hsame.out.1 (by assumption)
   rw [e,hend.out e]
 · rw [HNX.out]
   (refine ⟨k + 1,⟨?_,?_⟩,bC hX hN [] ?_ ?_⟩;(try any_goals dsimp only);(repeat' (first|(with_reducible first|exact clZ|refine bD ?_ ?_|refine bE ?_ ?_|rfl|refine suZ ?_)|refine bF rfl ?_ ?_|exact aR hN _ rfl rfl rfl|exact aS hN _ rfl rfl rfl|exact aB hN _ rfl rfl rfl (Or.inr rfl)|(refine aT hN _ rfl rfl (by first|exact Or.inr rfl|exact Or.inl rfl) ?_;first|exact aJ _|exact aK _)|refine aC hN rfl ?_|refine aD hN rfl rfl ?_|exact aA hN _ rfl rfl|exact aE hN rfl rfl rfl rfl|(with_reducible first|refine stZ ?_|refine aQ ?_)));(try (any_goals (first|(with_reducible rfl)|(refine ak ?_;omega)))))
   · exact hmu.out h
theorem nq (g : Gm) (n : Nat) (hg : GmOk g n) : nl g n 0:=by
 intro who S mine yours hw hm hy hS ht hp
 have hle:=hg.le
 have hsl:=bv n S
 have hso:=fV n S (by omega)
 have h1 : ¬ ∃ v,v < n ∧ S v:=fun ⟨v,_,hv⟩=>by
  have h1:=hp v hv
  have h2:=(aV g n).nn v
  simp only [Int.natCast_zero] at h1
  omega
 show au _ _ _ [.arr _ _ (.B (mks n fun _=>False))] _
 rw [show (mks n fun _=>False) = List.replicate n false from (io fun _ _ h=>h).symm]
 rw [ap h1] at hso
 clear hp ht
 generalize mks n S = inn at *
 (refine bu ba Try.func46 rfl rfl (by kernel_rfl) fun hp0 ν hX hN=>?_;simp only [cy,Nat.reduceAdd])
 (repeat' (first|(with_reducible first|(apply hK;clear hK K)|refine stZ ?_|refine bc rfl ?_|((first|apply ae|apply af);clear ae X af Y))|(with_reducible refine bf ?_;first|refine bd rfl ?_|refine be rfl ?_)|(with_reducible refine bI ?_;first|refine bp rfl rfl rfl rfl ?_|refine bH rfl rfl rfl ?_|refine bY rfl rfl rfl rfl ?_)|((first|(with_reducible first|((first|refine bi ?_|refine bj ?_);intro K hK)|(refine aN ?_;intro X Y ae af)|refine aO ?_)|(with_reducible refine bI ?_;refine br rfl rfl fun X Y ae af=>?_));simp (disch:=first|decide|omega|(simp only [List.length_cons,List.length_nil];omega)) only [go_sem,↓am hN,ao hN,reduceIte,reduceCtorEq,Nat.reduceAdd,Nat.reduceLT,Nat.reduceLeDiff,Nat.reduceEqDiff,Nat.reduceSub])|(with_reducible refine And.intro (fun h=>?_) (fun h=>?_) <;> try (exfalso;omega))|(with_reducible refine bh ba hN ?_)|(refine bo (hso) ?_ rfl (fun _=>rfl) ?_;focus ((repeat' (first|(with_reducible first|exact az|refine aw ?_ ?_|exact bX _|refine aY ?_|exact a8 _|exact bA _ _|refine bz ?_|exact aW _)|exact aZ hN rfl rfl|(refine bw hN rfl ?_;first|exact aJ _|exact aK _)|exact aX rfl rfl rfl));done))|(with_reducible first|exact az|refine aw ?_ ?_|exact bX _|refine aY ?_|exact a8 _|exact bA _ _|refine bz ?_|exact aW _)|exact aZ hN rfl rfl|(refine bw hN rfl ?_;first|exact aJ _|exact aK _)|exact aX rfl rfl rfl|(simp only [aM,List.map_nil])|(with_reducible refine b8 ?_)|(with_reducible refine And.intro ?_ ?_)|(refine ak ?_;omega)|(exact bg hN (by decide))))
 all_goals (refine cz hN (i:=1) (.inr rfl) (by first|rfl|(simp (disch:=first|decide|omega|(simp only [List.length_cons,List.length_nil];omega)) only [bW,b7,cf,cj,go_sem,beq_self_eq_true,↓aG,↓am hN,ao hN,reduceIte,reduceCtorEq,Nat.reduceAdd,Nat.reduceLT,Nat.reduceLeDiff,Nat.reduceEqDiff,Nat.reduceSub];rfl)) rfl ?_ rfl)
 all_goals rw [hsl]
set_option maxHeartbeats 4000000 in
theorem nr (g : Gm) (n : Nat) (hg : GmOk g n) (D : Nat) (hD : D ≤ 64) (hA : nl g n D) : nl g n (D + 1):=by
 intro who S mine yours hw hm hy hS ht hp
 have hle:=hg.le
 have hf:=lG g n
 have hsl:=bv n S
 have hso:=fV n S (by omega)
 rw [show ((D + 1 : Nat) : Int) - 1 = D by omega] at hp ⊢
 by_cases h0 : mine = 0
 · rw [qS h0,show (mks n fun _=>False) = List.replicate n false from (io fun _ _ h=>h).symm]
   subst h0
   generalize mks n S = inn at *
   (refine bu ba Try.func46 rfl rfl (by kernel_rfl) fun hp0 ν hX hN=>?_;simp only [cy,Nat.reduceAdd])
   (repeat' (first|(with_reducible first|(apply hK;clear hK K)|refine stZ ?_|refine bc rfl ?_|((first|apply ae|apply af);clear ae X af Y))|(with_reducible refine bf ?_;first|refine bd rfl ?_|refine be rfl ?_)|(with_reducible refine bI ?_;first|refine bp rfl rfl rfl rfl ?_|refine bH rfl rfl rfl ?_|refine bY rfl rfl rfl rfl ?_)|((first|(with_reducible first|((first|refine bi ?_|refine bj ?_);intro K hK)|(refine aN ?_;intro X Y ae af)|refine aO ?_)|(with_reducible refine bI ?_;refine br rfl rfl fun X Y ae af=>?_));simp (disch:=first|decide|omega|(simp only [List.length_cons,List.length_nil];omega)) only [go_sem,↓am hN,ao hN,reduceIte,reduceCtorEq,Nat.reduceAdd,Nat.reduceLT,Nat.reduceLeDiff,Nat.reduceEqDiff,Nat.reduceSub])|(with_reducible refine And.intro (fun h=>?_) (fun h=>?_) <;> try (exfalso;omega))|(with_reducible refine bh ba hN ?_)|(refine bo (hso) ?_ rfl (fun _=>rfl) ?_;focus ((repeat' (first|(with_reducible first|exact az|refine aw ?_ ?_|exact bX _|refine aY ?_|exact a8 _|exact bA _ _|refine bz ?_|exact aW _)|exact aZ hN rfl rfl|(refine bw hN rfl ?_;first|exact aJ _|exact aK _)|exact aX rfl rfl rfl));done))|(with_reducible first|exact az|refine aw ?_ ?_|exact bX _|refine aY ?_|exact a8 _|exact bA _ _|refine bz ?_|exact aW _)|exact aZ hN rfl rfl|(refine bw hN rfl ?_;first|exact aJ _|exact aK _)|exact aX rfl rfl rfl|(simp only [aM,List.map_nil])|(with_reducible refine b8 ?_)|(with_reducible refine And.intro ?_ ?_)|(refine ak ?_;omega)|(exact bg hN (by decide))))
   all_goals (refine cz hN (i:=1) (.inr rfl) (by first|rfl|(simp (disch:=first|decide|omega|(simp only [List.length_cons,List.length_nil];omega)) only [bW,b7,cf,cj,go_sem,beq_self_eq_true,↓aG,↓am hN,ao hN,reduceIte,reduceCtorEq,Nat.reduceAdd,Nat.reduceLT,Nat.reduceLeDiff,Nat.reduceEqDiff,Nat.reduceSub];rfl)) rfl ?_ rfl)
   all_goals rw [hsl]
 by_cases h1 : ∃ v,v < n ∧ S v
 · rw [aH h1] at hso
   have hR:=qR (aV g n) (qA (aV g n) n D) who D mine (yours / 2)
   have hr1:=ip g n hg D hD hA who hw S mine (yours / 2) hm (by omega) hS ht fun v hv=>by have:=hp v hv;omega
   have s1 : ∀ v,itQ (qR (aV g n) (qA (aV g n) n D) who D mine (yours / 2)) S n v → S v:=fun v h=>dG (fun _ _ h=>h.1) n v h
   have t1:=f9 (fun T h=>gW (A:=qA (aV g n) n D) (who:=who) (d:=D) (mine:=mine) (yours:=yours / 2) hf h) ht n
   have e1:=fun h=>lT (P:=aV g n) (n:=n) (D:=D) (who:=who) (S:=S) (mine:=mine) (yours:=yours) h0 hS h
   have e2:=jm (P:=aV g n) (n:=n) (D:=D) (who:=who) (S:=S) (yours:=yours) h0
   generalize itQ (qR (aV g n) (qA (aV g n) n D) who D mine (yours / 2)) S n = G1 at *
   have hr2:=i9 g n hg D hD hA who hw G1 mine yours hm hy (fun v h=>hS v (s1 v h)) t1 fun v hv=>by have:=hp v (s1 v hv);omega
   have s2 : ∀ v,qR (aV g n) (qA (aV g n) n D) who D mine yours G1 v → G1 v:=fun v h=>h.1
   have t2 : PG.Total (aV g n) (qR (aV g n) (qA (aV g n) n D) who D mine yours G1):=gW hf t1
   generalize qR (aV g n) (qA (aV g n) n D) who D mine yours G1 = G2 at *
   have hr3:=ip g n hg D hD hA who hw G2 mine (yours / 2) hm (by omega) (fun v h=>hS v (s1 v (s2 v h))) t2 fun v hv=>by have:=hp v (s1 v (s2 v hv));omega
   have hl:=fS (mks n G1) (mks n G2) (by rw [bv,bv]) (by rw [bv];omega)
   rw [fU] at hl
   have hs2:=fV n (PG.Diff G1 G2) (by omega)
   have hsame:=Lib.hid (kK (fun v h=>hS v (s1 v h)) s2)
   have hq : IntKind.i64.wrap (yours.tdiv 2) = yours / 2:=by rw [Int.tdiv_eq_ediv_of_nonneg hy.1];exact p8 (by omega)
   rw [← hq] at hr1 hr3
   have E1:=Lib.hid e1
   have HQ:=Lib.hid hq
   have E2:=Lib.hid e2
   clear e1 e2 s1 s2 t1 t2 ht hp hS hA hq
   (refine bu ba Try.func46 rfl rfl (by kernel_rfl) fun hp0 ν hX hN=>?_;simp only [cy,Nat.reduceAdd])
   (repeat' (first|(with_reducible first|(apply hK;clear hK K)|refine stZ ?_|refine bc rfl ?_|((first|apply ae|apply af);clear ae X af Y))|(with_reducible refine bf ?_;first|refine bd rfl ?_|refine be rfl ?_)|(with_reducible refine bI ?_;first|refine bp rfl rfl rfl rfl ?_|refine bH rfl rfl rfl ?_|refine bY rfl rfl rfl rfl ?_)|((first|(with_reducible first|((first|refine bi ?_|refine bj ?_);intro K hK)|(refine aN ?_;intro X Y ae af)|refine aO ?_)|(with_reducible refine bI ?_;refine br rfl rfl fun X Y ae af=>?_));simp (disch:=first|decide|omega|(simp only [List.length_cons,List.length_nil];omega)) only [go_sem,↓am hN,ao hN,reduceIte,reduceCtorEq,Nat.reduceAdd,Nat.reduceLT,Nat.reduceLeDiff,Nat.reduceEqDiff,Nat.reduceSub])|(with_reducible refine And.intro (fun h=>?_) (fun h=>?_) <;> try (exfalso;omega))|(with_reducible refine bh ba hN ?_)|((first|refine bo (hso) ?_ rfl (fun _=>rfl) ?_|refine bo (hl) ?_ rfl (fun _=>rfl) ?_);focus ((repeat' (first|(with_reducible first|exact az|refine aw ?_ ?_|exact bX _|refine aY ?_|exact a8 _|exact bA _ _|refine bz ?_|exact aW _)|exact aZ hN rfl rfl|(refine bw hN rfl ?_;first|exact aJ _|exact aK _)|exact aX rfl rfl rfl));done))|(refine bo (hr1) ?_ rfl (fun _=>rfl) ?_;focus ((repeat' (first|(with_reducible first|exact az|refine aw ?_ ?_|exact bX _|refine aY ?_|exact a8 _|exact bA _ _|refine bz ?_|exact aW _)|exact aZ hN rfl rfl|(refine bw hN rfl ?_;first|exact aJ _|exact aK _)|exact aX rfl rfl rfl));done))|(refine bo (hr2) ?_ rfl (fun _=>rfl) ?_;focus ((repeat' (first|(with_reducible first|exact az|refine aw ?_ ?_|exact bX _|refine aY ?_|exact a8 _|exact bA _ _|refine bz ?_|exact aW _)|exact aZ hN rfl rfl|(refine bw hN rfl ?_;first|exact aJ _|exact aK _)|exact aX rfl rfl rfl));done))|(refine bo (hs2) ?_ rfl (fun _=>rfl) ?_;focus ((repeat' (first|(with_reducible first|exact az|refine aw ?_ ?_|exact bX _|refine aY ?_|exact a8 _|exact bA _ _|refine bz ?_|exact aW _)|exact aZ hN rfl rfl|(refine bw hN rfl ?_;first|exact aJ _|exact aK _)|exact aX rfl rfl rfl));done))|(refine bo (hr3) ?_ rfl (fun _=>rfl) ?_;focus ((repeat' (first|(with_reducible first|exact az|refine aw ?_ ?_|exact bX _|refine aY ?_|exact a8 _|exact bA _ _|refine bz ?_|exact aW _)|exact aZ hN rfl rfl|(refine bw hN rfl ?_;first|exact aJ _|exact aK _)|exact aX rfl rfl rfl));done))|(with_reducible first|exact az|refine aw ?_ ?_|exact bX _|refine aY ?_|exact a8 _|exact bA _ _|refine bz ?_|exact aW _)|exact aZ hN rfl rfl|(refine bw hN rfl ?_;first|exact aJ _|exact aK _)|exact aX rfl rfl rfl|(simp only [aM,List.map_nil])|(with_reducible refine b8 ?_)|(with_reducible refine And.intro ?_ ?_)|(refine ak ?_;omega)|(exact bg hN (by decide))))
   · (refine cz hN (i:=2) (.inr rfl) (by first|rfl|(simp (disch:=first|decide|omega|(simp only [List.length_cons,List.length_nil];omega)) only [bW,b7,cf,cj,go_sem,beq_self_eq_true,↓aG,↓am hN,ao hN,reduceIte,reduceCtorEq,Nat.reduceAdd,Nat.reduceLT,Nat.reduceLeDiff,Nat.reduceEqDiff,Nat.reduceSub];rfl)) rfl ?_ rfl)
     have e:=hsame.out.1 (by assumption)
     rw [E1.out e,e]
   · (refine cz hN (i:=4) (.inr rfl) (by first|rfl|(simp (disch:=first|decide|omega|(simp only [List.length_cons,List.length_nil];omega)) only [bW,b7,cf,cj,go_sem,beq_self_eq_true,↓aG,↓am hN,ao hN,reduceIte,reduceCtorEq,Nat.reduceAdd,Nat.reduceLT,Nat.reduceLeDiff,Nat.reduceEqDiff,Nat.reduceSub];rfl)) rfl ?_ rfl)
     rw [E2.out,HQ.out]
 · rw [nM fun v hv=>h1 ⟨v,hS v hv,hv⟩,show (mks n fun _=>False) = List.replicate n false from (io fun _ _ h=>h).symm]
   rw [ap h1] at hso
   generalize mks n S = inn at *
   (refine bu ba Try.func46 rfl rfl (by kernel_rfl) fun hp0 ν hX hN=>?_;simp only [cy,Nat.reduceAdd])
   (repeat' (first|(with_reducible first|(apply hK;clear hK K)|refine stZ ?_|refine bc rfl ?_|((first|apply ae|apply af);clear ae X af Y))|(with_reducible refine bf ?_;first|refine bd rfl ?_|refine be rfl ?_)|(with_reducible refine bI ?_;first|refine bp rfl rfl rfl rfl ?_|refine bH rfl rfl rfl ?_|refine bY rfl rfl rfl rfl ?_)|((first|(with_reducible first|((first|refine bi ?_|refine bj ?_);intro K hK)|(refine aN ?_;intro X Y ae af)|refine aO ?_)|(with_reducible refine bI ?_;refine br rfl rfl fun X Y ae af=>?_));simp (disch:=first|decide|omega|(simp only [List.length_cons,List.length_nil];omega)) only [go_sem,↓am hN,ao hN,reduceIte,reduceCtorEq,Nat.reduceAdd,Nat.reduceLT,Nat.reduceLeDiff,Nat.reduceEqDiff,Nat.reduceSub])|(with_reducible refine And.intro (fun h=>?_) (fun h=>?_) <;> try (exfalso;omega))|(with_reducible refine bh ba hN ?_)|(refine bo (hso) ?_ rfl (fun _=>rfl) ?_;focus ((repeat' (first|(with_reducible first|exact az|refine aw ?_ ?_|exact bX _|refine aY ?_|exact a8 _|exact bA _ _|refine bz ?_|exact aW _)|exact aZ hN rfl rfl|(refine bw hN rfl ?_;first|exact aJ _|exact aK _)|exact aX rfl rfl rfl));done))|(with_reducible first|exact az|refine aw ?_ ?_|exact bX _|refine aY ?_|exact a8 _|exact bA _ _|refine bz ?_|exact aW _)|exact aZ hN rfl rfl|(refine bw hN rfl ?_;first|exact aJ _|exact aK _)|exact aX rfl rfl rfl|(simp only [aM,List.map_nil])|(with_reducible refine b8 ?_)|(with_reducible refine And.intro ?_ ?_)|(refine ak ?_;omega)|(exact bg hN (by decide))))
   all_goals (refine cz hN (i:=1) (.inr rfl) (by first|rfl|(simp (disch:=first|decide|omega|(simp only [List.length_cons,List.length_nil];omega)) only [bW,b7,cf,cj,go_sem,beq_self_eq_true,↓aG,↓am hN,ao hN,reduceIte,reduceCtorEq,Nat.reduceAdd,Nat.reduceLT,Nat.reduceLeDiff,Nat.reduceEqDiff,Nat.reduceSub];rfl)) rfl ?_ rfl)
   all_goals rw [hsl]
end Go.Proofs.Ythjamlponejffaa
