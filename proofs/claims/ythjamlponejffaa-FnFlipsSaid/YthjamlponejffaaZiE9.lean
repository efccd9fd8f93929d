/-
  The reference's recursive solver.
-/
import Derived.Test.YthjamlponejffaaZiE8
import Derived.Test.YthjamlponejffaaZiCp
namespace Go.Proofs.Ythjamlponejffaa
set_option linter.unusedVariables false
set_option linter.unusedSimpArgs false
open Go.RowKit
attribute [local irreducible] ap b9 Aw Le
theorem jG {bs : List Bool} {v : Nat} (h : gb bs v = true) : v < bs.length:=by
 rcases Nat.lt_or_ge v bs.length with h'|h'
 · exact h'
 · rw [gb,List.getD_eq_getElem?_getD,List.getElem?_eq_none h'] at h;cases h
theorem pG {pr : List Int} {bs : List Bool} (hp : ∀ v,gb bs v = true → 0 ≤ gi pr v) : ∀ {k : Nat},dM pr bs k < 0 ↔ ∀ v,v < k → gb bs v = false:=by
 intro k
 induction k with
 | zero => exact ⟨fun _ v h => by omega, fun _ => by show (-1 : Int) < 0; omega⟩
 | succ k ih =>
   rw [dM]
   constructor
   · intro h v hv
     split at h
     · rename_i hb;have:=hp k hb;omega
     · rename_i hb
       rcases Nat.lt_or_ge v k with h'|h'
       · exact ih.1 h v h'
       · have : v = k:=by omega
         subst this;simpa using hb
   · intro h
     rw [if_neg (by rw [h k (by omega)];exact Bool.noConfusion)]
     exact ih.2 fun v hv=>h v (by omega)
theorem mZ {pr : List Int} {bs : List Bool} : ∀ {k : Nat},(∀ v,v < k → gb bs v = true → gi pr v ≤ dM pr bs k) ∧ (dM pr bs k = -1 ∨ ∃ v,v < k ∧ gb bs v = true ∧ gi pr v = dM pr bs k):=by
 intro k
 induction k with
 | zero => exact ⟨fun v h => by omega, .inl rfl⟩
 | succ k ih =>
   rw [dM]
   split
   · rename_i hb
     refine ⟨fun v hv h=>?_,?_⟩
     · rcases Nat.lt_or_ge v k with h'|h'
       · have:=ih.1 v h' h;omega
       · have : v = k:=by omega
         subst this;omega
     · rcases ih.2 with h|⟨v,h1,h2,h3⟩
       · by_cases hc : dM pr bs k ≤ gi pr k
         · exact .inr ⟨k,by omega,hb,by omega⟩
         · exact .inl (by omega)
       · by_cases hc : dM pr bs k ≤ gi pr k
         · exact .inr ⟨k,by omega,hb,by omega⟩
         · exact .inr ⟨v,by omega,h2,by omega⟩
   · rename_i hb
     refine ⟨fun v hv h=>?_,ih.2.imp id fun ⟨v,a,b⟩=>⟨v,by omega,b⟩⟩
     rcases Nat.lt_or_ge v k with h'|h'
     · exact ih.1 v h' h
     · have : v = k:=by omega
       subst this;exact absurd h hb
def fg (f : Nat → Bool) : Nat → Bool
 | 0 => false
 | k + 1 => fg f k || f k
theorem lh {f : Nat → Bool} : ∀ {k : Nat},fg f k = true ↔ ∃ v,v < k ∧ f v = true:=by
 intro k
 induction k with
 | zero => exact ⟨(fun h => by cases h), (fun ⟨v, h, _⟩ => by omega)⟩
 | succ k ih =>
   rw [fg,Bool.or_eq_true,ih]
   constructor
   · rintro (⟨v,a,b⟩|h)
     · exact ⟨v,by omega,b⟩
     · exact ⟨k,by omega,h⟩
   · rintro ⟨v,a,b⟩
     rcases Nat.lt_or_ge v k with h|h
     · exact .inl ⟨v,h,b⟩
     · have : v = k:=by omega
       subst this;exact .inr b
theorem pH {P : PG.Gm} {n : Nat} (hf : PG.Fin P n) {R : Nat → Prop} (hR : ∀ v,R v → v < n) (ht : PG.Total P R) {i : Int} (hi : i = 0 ∨ i = 1) {v : Nat} {b r : Bool} (hr : r = true ↔ R v) (hb : b = tf (PG.Won P 0 R v)) : (r && !(b == (i == 0))) = true ↔ PG.Won P (1 - i) R v:=by
 by_cases hv : R v
 · have hr' : r = true:=hr.2 hv
   rw [hr',Bool.true_and]
   rcases hi with rfl|rfl
   · show (!(b == true)) = true ↔ PG.Won P 1 R v
     rw [PG.won_not hf hR ht hv,hb]
     by_cases h : PG.Won P 0 R v
     · rw [bh h];simp [h]
     · rw [aH h];simp [h]
   · show (!(b == false)) = true ↔ PG.Won P 0 R v
     rw [hb]
     by_cases h : PG.Won P 0 R v
     · rw [bh h];simp [h]
     · rw [aH h];simp [h]
 · have hr' : r = false:=by cases hq : r <;> simp_all
   rw [hr',Bool.false_and]
   exact ⟨(fun h=>by cases h),fun h=>absurd (PG.won_in h) hv⟩
theorem pI {inn out rest : List Bool} {n : Nat} {X : Nat → Prop} (hi : inn.length = n) (ho : out = mks n X) (hr : rest = bZ inn.length fun i=>gb inn i && !gb out i) : ∀ v,gb rest v = true ↔ PG.Diff (fun v=>gb inn v = true) X v:=by
 intro v
 rcases Nat.lt_or_ge v n with h|h
 · rw [hr,cT _ (by omega),ho,fh _ h,Bool.and_eq_true,Bool.not_eq_true']
   exact and_congr Iff.rfl om
 · refine ⟨fun h'=>?_,fun h'=>?_⟩
   · have:=jG h';rw [hr,cI] at this;omega
   · have:=jG h'.1;omega
theorem m7 {inn out rest : List Bool} {n : Nat} {X : Nat → Prop} (hi : inn.length = n) (ho : out = mks n X) (hr : rest = bZ inn.length fun i=>gb inn i && !gb out i) : (fun v=>gb rest v = true) = PG.Diff (fun v=>gb inn v = true) X:=funext fun v=>propext (pI hi ho hr v)
set_option maxHeartbeats 8000000 in
theorem qU (g : Gm) (n : Nat) (hg : GmOk g n) : ∀ (N : Nat) (inn : List Bool),inn.length = n → num (fun v=>gb inn v = true) n < N → PG.Total (cR g n) (fun v=>gb inn v = true) →
  ap Try.prog 83 [gmA g,.c (.B inn)] [.arr 4 .yes (.B (mks n (PG.Won (cR g n) 0 (fun v=>gb inn v = true))))] (fun ns=>.sl (ns.getD 0 0)):=by
 intro N
 induction N with
 | zero => intro inn _ h; omega
 | succ N ih =>
   intro inn hi hNN ht
   have hle:=hg.le
   have hgp:=hg.prio
   have hS : ∀ v,gb inn v = true → v < n:=fun v h=>by have:=jG h;omega
   have hf : PG.Fin (cR g n) n:=fun v u h=>h.2.1
   (refine bA aQ Try.func83 rfl rfl (by kernel_rfl) fun hp0 ν hX hN=>?_;simp only [cG,Nat.reduceAdd])
   (repeat' (first|(with_reducible first|(apply hK;clear hK K)|refine stZ ?_|refine aZ rfl ?_|((first|apply ae|apply af);clear ae X af Y))|(with_reducible refine bc ?_;first|refine a8 rfl ?_|refine ba rfl ?_)|(with_reducible refine bG ?_;first|refine bo rfl rfl rfl rfl ?_|refine bF rfl rfl rfl ?_|refine bX rfl rfl rfl rfl ?_)|(with_reducible refine cm ?_;first|refine cz rfl rfl rfl rfl ?_|refine cQ rfl rfl rfl ?_|refine dw rfl rfl rfl rfl ?_|refine cr hN ?_)|((first|(with_reducible first|((first|refine bf ?_|refine ct ?_|refine bg ?_|refine cw ?_);intro K hK)|(refine aN ?_;intro X Y ae af)|refine aO ?_)|(with_reducible refine bG ?_;refine bp rfl rfl fun X Y ae af=>?_)|(with_reducible refine cm ?_;refine cA rfl rfl fun X Y ae af=>?_));simp (disch:=first|decide|omega|(simp only [List.length_cons,List.length_nil];omega)) only [go_sem,↓ah hN,ak hN,reduceIte,reduceCtorEq,Nat.reduceAdd,Nat.reduceLT,Nat.reduceLeDiff,Nat.reduceEqDiff,Nat.reduceSub])|(with_reducible refine And.intro (fun h=>?_) (fun h=>?_) <;> try (exfalso;omega))|(with_reducible refine be aQ hN ?_)|(with_reducible refine bB aQ hN ?_)|(refine br (qS g n hg inn hi) ?_ rfl (fun _=>rfl) ?_)|(with_reducible first|exact aq|refine am ?_ ?_|exact bL _|refine aR ?_|exact aL _|exact bn _ _|refine bm ?_|exact aJ _)|exact aS hN rfl rfl|(refine bj hN rfl ?_;first|exact aF _|exact aG _)|exact aK rfl rfl rfl|(simp only [aI,List.map_nil])|(with_reducible refine bI ?_)|(with_reducible refine And.intro ?_ ?_)|(refine aj ?_;omega)|(exact bd hN (by decide))))
   · (refine e8 hN (i:=1) (.inr rfl) (by first|rfl|(simp (disch:=first|decide|omega|(simp only [List.length_cons,List.length_nil];omega)) only [bS,cc,ch,cj,go_sem,beq_self_eq_true,↓ax,↓ah hN,ak hN,reduceIte,reduceCtorEq,Nat.reduceAdd,Nat.reduceLT,Nat.reduceLeDiff,Nat.reduceEqDiff,Nat.reduceSub];rfl)) rfl ?_ rfl)
     have hno:=(pG (bs:=inn) (fun v h=>(hg.p1 v (hS v h)).1)).1 (by assumption)
     rw [hi]
     refine congrArg C.B ((dc n fun _=>false).symm.trans (cC fun v hv=>?_))
     rw [aH fun h=>pF (hno v hv) (PG.won_in h)];simp
   (refine cf (fun (k : Nat)=>(tmL [(9,.c (.int .i64 k)),(8,.sl (ν 2)),(7,.c (.int .i64 ((dM g.prio inn n).tmod 2))),(6,.sl (ν 1)),(5,.c (.int .i64 (dM g.prio inn n))),(2,.ad (ν 0) 0),(1,.c (.B inn))],hpL hp0 ν [.box [.c (.I g.own),.c (.I g.prio),.c (.R g.nxt),.c (.R g.prev),.c (.I g.pick)],.arr 4 .yes (.B (List.replicate n false)),.arr 4 .yes (.B (bZ n fun v=>if v < k then gb inn v && gi g.prio v == dM g.prio inn n else false))])) (fun (k : Nat)=>k ≤ n) (fun (k : Nat)=>n - k) ⟨0,?_,bE hX hN [] ?_ ?_⟩ ?_;(repeat' (first|(with_reducible first|exact clZ|refine bv ?_ ?_|refine bw ?_ ?_|rfl|refine suZ ?_)|refine bz rfl ?_ ?_|exact aU hN _ rfl rfl rfl|exact aV hN _ rfl rfl rfl|exact az hN _ rfl rfl rfl (Or.inr rfl)|(refine aW hN _ rfl rfl (by first|exact Or.inr rfl|exact Or.inl rfl) ?_;first|exact aF _|exact aG _)|refine aA hN rfl ?_|refine aB hN rfl rfl ?_|exact ay hN _ rfl rfl|exact aC hN rfl rfl rfl rfl|(with_reducible first|refine stZ ?_|refine aT ?_)));(try (any_goals (first|(with_reducible rfl)|(refine aj ?_;omega)))))
   · rw [hi]
   · rw [hi];exact dc n fun v=>gb inn v && gi g.prio v == dM g.prio inn n
   · intro k hk
     (repeat' (first|(with_reducible first|(apply hK;clear hK K)|refine stZ ?_|refine aZ rfl ?_|((first|apply ae|apply af);clear ae X af Y))|(with_reducible refine bc ?_;first|refine a8 rfl ?_|refine ba rfl ?_)|(with_reducible refine bG ?_;first|refine bo rfl rfl rfl rfl ?_|refine bF rfl rfl rfl ?_|refine bX rfl rfl rfl rfl ?_)|(with_reducible refine cm ?_;first|refine cz rfl rfl rfl rfl ?_|refine cQ rfl rfl rfl ?_|refine dw rfl rfl rfl rfl ?_|refine cr hN ?_)|((first|(with_reducible first|((first|refine bf ?_|refine ct ?_|refine bg ?_|refine cw ?_);intro K hK)|(refine aN ?_;intro X Y ae af)|refine aO ?_)|(with_reducible refine bG ?_;refine bp rfl rfl fun X Y ae af=>?_)|(with_reducible refine cm ?_;refine cA rfl rfl fun X Y ae af=>?_));simp (disch:=first|decide|omega|(simp only [List.length_cons,List.length_nil];omega)) only [go_sem,↓ah hN,ak hN,reduceIte,reduceCtorEq,Nat.reduceAdd,Nat.reduceLT,Nat.reduceLeDiff,Nat.reduceEqDiff,Nat.reduceSub])|(with_reducible refine And.intro (fun h=>?_) (fun h=>?_) <;> try (exfalso;omega))|(with_reducible refine be aQ hN ?_)|(with_reducible refine bB aQ hN ?_)|(with_reducible refine And.intro ?_ ?_)|(refine aj ?_;omega)|(exact bd hN (by decide))))
     · (refine ⟨k + 1,⟨?_,?_⟩,bE hX hN [] ?_ ?_⟩;(try any_goals dsimp only);(repeat' (first|(with_reducible first|exact clZ|refine bv ?_ ?_|refine bw ?_ ?_|rfl|refine suZ ?_)|refine bz rfl ?_ ?_|exact aU hN _ rfl rfl rfl|exact aV hN _ rfl rfl rfl|exact az hN _ rfl rfl rfl (Or.inr rfl)|(refine aW hN _ rfl rfl (by first|exact Or.inr rfl|exact Or.inl rfl) ?_;first|exact aF _|exact aG _)|refine aA hN rfl ?_|refine aB hN rfl rfl ?_|exact ay hN _ rfl rfl|exact aC hN rfl rfl rfl rfl|(with_reducible first|refine stZ ?_|refine aT ?_)));(try (any_goals (first|(with_reducible rfl)|(refine aj ?_;omega)))))
       exact ee (f:=fun v=>gb inn v && gi g.prio v == dM g.prio inn n) (d:=fun _=>false) (by omega) (by simp [*])
     · (refine ⟨k + 1,⟨?_,?_⟩,bE hX hN [] ?_ ?_⟩;(try any_goals dsimp only);(repeat' (first|(with_reducible first|exact clZ|refine bv ?_ ?_|refine bw ?_ ?_|rfl|refine suZ ?_)|refine bz rfl ?_ ?_|exact aU hN _ rfl rfl rfl|exact aV hN _ rfl rfl rfl|exact az hN _ rfl rfl rfl (Or.inr rfl)|(refine aW hN _ rfl rfl (by first|exact Or.inr rfl|exact Or.inl rfl) ?_;first|exact aF _|exact aG _)|refine aA hN rfl ?_|refine aB hN rfl rfl ?_|exact ay hN _ rfl rfl|exact aC hN rfl rfl rfl rfl|(with_reducible first|refine stZ ?_|refine aT ?_)));(try (any_goals (first|(with_reducible rfl)|(refine aj ?_;omega)))))
       exact ee (f:=fun v=>gb inn v && gi g.prio v == dM g.prio inn n) (d:=fun _=>false) (by omega) (by simp [*])
     have ek : k = n:=by omega
     have hgoal : (bZ n fun v=>if v < k then gb inn v && gi g.prio v == dM g.prio inn n else false) = bZ n fun v=>gb inn v && gi g.prio v == dM g.prio inn n:=dN (by omega)
     rw [hgoal]
     clear hgoal
     obtain ⟨goal,hgo⟩ : ∃ goal,goal = bZ n fun v=>gb inn v && gi g.prio v == dM g.prio inn n:=⟨_,rfl⟩
     rw [← hgo]
     generalize htop : dM g.prio inn n = top at *
     have hglen : goal.length = n:=by rw [hgo,cI]
     obtain ⟨At,hAt⟩ : ∃ At,At = mks n (PG.Attr (cR g n) (top.tmod 2) (fun v=>gb inn v = true) (fun v=>gb goal v = true)):=⟨_,rfl⟩
     have hAl : At.length = n:=by rw [hAt,dG]
     obtain ⟨rest,hrest⟩ : ∃ rest,rest = bZ inn.length fun i=>gb inn i && !gb At i:=⟨_,rfl⟩
     have hrl : rest.length = n:=by rw [hrest,cI,hi]
     have hatt:=gY g n hg inn goal hi hglen (top.tmod 2) ht
     rw [← hAt] at hatt
     have hless:=lg inn At (by omega) (by omega)
     rw [← hrest] at hless
     have htop0 : 0 ≤ top:=by omega
     have htm : top.tmod 2 = top % 2:=Int.tmod_eq_emod_of_nonneg htop0
     have hi01 : top.tmod 2 = 0 ∨ top.tmod 2 = 1:=by omega
     have hrestP:=m7 hi hAt hrest
     have hgoalv : ∀ v,v < n → (gb goal v = true ↔ gb inn v = true ∧ gi g.prio v = top):=fun v hv=>by rw [hgo,cT _ hv];simp
     have hvtop : ∃ v,v < n ∧ gb inn v = true ∧ gi g.prio v = top:=by
      rcases (mZ (pr:=g.prio) (bs:=inn) (k:=n)).2 with h|h
      · omega
      · rwa [htop] at h
     have hletop : ∀ v,gb inn v = true → gi g.prio v ≤ top:=fun v h=>by have:=(mZ (pr:=g.prio) (bs:=inn) (k:=n)).1 v (hS v h) h;rwa [htop] at this
     have hihr : num (fun v=>gb rest v = true) n < N ∧ PG.Total (cR g n) (fun v=>gb rest v = true):=by
      rw [hrestP]
      refine ⟨?_,PG.total_diff hf ht⟩
      obtain ⟨v,a,b,c⟩:=hvtop
      have:=mj (p:=fun v=>gb inn v = true) (q:=PG.Diff (fun v=>gb inn v = true) (PG.Attr (cR g n) (top.tmod 2) (fun v=>gb inn v = true) (fun v=>gb goal v = true))) (k:=n) (fun t _ h=>h.1) ⟨v,a,b,fun h=>h.2 (PG.attr_goal b ((hgoalv v a).2 ⟨b,c⟩))⟩
      omega
     have hlow:=ih rest hrl hihr.1 hihr.2
     obtain ⟨low,hlo⟩ : ∃ low,low = mks n (PG.Won (cR g n) 0 (fun v=>gb rest v = true)):=⟨_,rfl⟩
     have hll : low.length = n:=by rw [hlo,dG]
     rw [← hlo] at hlow
     (repeat' (first|(with_reducible first|(apply hK;clear hK K)|refine stZ ?_|refine aZ rfl ?_|((first|apply ae|apply af);clear ae X af Y))|(with_reducible refine bc ?_;first|refine a8 rfl ?_|refine ba rfl ?_)|(with_reducible refine bG ?_;first|refine bo rfl rfl rfl rfl ?_|refine bF rfl rfl rfl ?_|refine bX rfl rfl rfl rfl ?_)|(with_reducible refine cm ?_;first|refine cz rfl rfl rfl rfl ?_|refine cQ rfl rfl rfl ?_|refine dw rfl rfl rfl rfl ?_|refine cr hN ?_)|((first|(with_reducible first|((first|refine bf ?_|refine ct ?_|refine bg ?_|refine cw ?_);intro K hK)|(refine aN ?_;intro X Y ae af)|refine aO ?_)|(with_reducible refine bG ?_;refine bp rfl rfl fun X Y ae af=>?_)|(with_reducible refine cm ?_;refine cA rfl rfl fun X Y ae af=>?_));simp (disch:=first|decide|omega|(simp only [List.length_cons,List.length_nil];omega)) only [go_sem,↓ah hN,ak hN,reduceIte,reduceCtorEq,Nat.reduceAdd,Nat.reduceLT,Nat.reduceLeDiff,Nat.reduceEqDiff,Nat.reduceSub])|(with_reducible refine And.intro (fun h=>?_) (fun h=>?_) <;> try (exfalso;omega))|(with_reducible refine be aQ hN ?_)|(with_reducible refine bB aQ hN ?_)|(refine br hatt ?_ rfl (fun _=>rfl) ?_)|(refine br hless ?_ rfl (fun _=>rfl) ?_)|(refine br hlow ?_ rfl (fun _=>rfl) ?_)|(with_reducible first|exact aq|refine am ?_ ?_|exact bL _|refine aR ?_|exact aL _|exact bn _ _|refine bm ?_|exact aJ _)|exact aS hN rfl rfl|(refine bj hN rfl ?_;first|exact aF _|exact aG _)|exact aK rfl rfl rfl|(simp only [aI,List.map_nil])|(with_reducible refine bI ?_)|(with_reducible refine And.intro ?_ ?_)|(refine aj ?_;omega)|(exact bd hN (by decide))))
     clear hatt hless hlow
     generalize hlf : (fun v=>gb rest v && !(gb low v == (top.tmod 2 == 0))) = lf
     have hlfv : ∀ v,lf v = (gb rest v && !(gb low v == (top.tmod 2 == 0))):=fun v=>by rw [← hlf]
     have hlost : ∀ v,v < n → (lf v = true ↔ PG.Won (cR g n) (1 - top.tmod 2) (PG.Diff (fun v=>gb inn v = true) (PG.Attr (cR g n) (top.tmod 2) (fun v=>gb inn v = true) (fun v=>gb goal v = true))) v):=fun v hv=>by
      rw [hlfv,← hrestP]
      exact pH hf (fun v h=>by have:=jG h;omega) hihr.2 hi01 Iff.rfl (by rw [hlo,fh _ hv])
     (refine cf (fun (m : Nat)=>(tmL [(14,.c (.int .i64 m)),(13,.c (.bool (fg lf m))),(12,.sl (ν 6)),(11,.sl (ν 5)),(10,.sl (ν 4)),(7,.c (.int .i64 (top.tmod 2))),(6,.sl (ν 1)),(2,.ad (ν 0) 0),(1,.c (.B inn))],hpL hp0 ν [.box [.c (.I g.own),.c (.I g.prio),.c (.R g.nxt),.c (.R g.prev),.c (.I g.pick)],.arr 4 .yes (.B (List.replicate n false)),.dead,.dead,.arr 4 .yes (.B rest),.arr 4 .yes (.B low),.arr 4 .yes (.B (bZ n fun v=>if v < m then lf v else false))])) (fun (m : Nat)=>m ≤ n) (fun (m : Nat)=>n - m) ⟨0,?_,bE hX hN [] ?_ ?_⟩ ?_;(repeat' (first|(with_reducible first|exact clZ|refine bv ?_ ?_|refine bw ?_ ?_|rfl|refine suZ ?_)|refine bz rfl ?_ ?_|exact aU hN _ rfl rfl rfl|exact aV hN _ rfl rfl rfl|exact az hN _ rfl rfl rfl (Or.inr rfl)|(refine aW hN _ rfl rfl (by first|exact Or.inr rfl|exact Or.inl rfl) ?_;first|exact aF _|exact aG _)|refine aA hN rfl ?_|refine aB hN rfl rfl ?_|exact ay hN _ rfl rfl|exact aC hN rfl rfl rfl rfl|(with_reducible first|refine stZ ?_|refine aT ?_)));(try (any_goals (first|(with_reducible rfl)|(refine aj ?_;omega)))))
     · rw [hi];exact dc n lf
     · rfl
     · intro m hm
       have hlm:=hlfv m
       (repeat' (first|(with_reducible first|(apply hK;clear hK K)|refine stZ ?_|refine aZ rfl ?_|((first|apply ae|apply af);clear ae X af Y))|(with_reducible refine bc ?_;first|refine a8 rfl ?_|refine ba rfl ?_)|(with_reducible refine bG ?_;first|refine bo rfl rfl rfl rfl ?_|refine bF rfl rfl rfl ?_|refine bX rfl rfl rfl rfl ?_)|(with_reducible refine cm ?_;first|refine cz rfl rfl rfl rfl ?_|refine cQ rfl rfl rfl ?_|refine dw rfl rfl rfl rfl ?_|refine cr hN ?_)|((first|(with_reducible first|((first|refine bf ?_|refine ct ?_|refine bg ?_|refine cw ?_);intro K hK)|(refine aN ?_;intro X Y ae af)|refine aO ?_)|(with_reducible refine bG ?_;refine bp rfl rfl fun X Y ae af=>?_)|(with_reducible refine cm ?_;refine cA rfl rfl fun X Y ae af=>?_));simp (disch:=first|decide|omega|(simp only [List.length_cons,List.length_nil];omega)) only [go_sem,↓ah hN,ak hN,reduceIte,reduceCtorEq,Nat.reduceAdd,Nat.reduceLT,Nat.reduceLeDiff,Nat.reduceEqDiff,Nat.reduceSub])|(with_reducible refine And.intro (fun h=>?_) (fun h=>?_) <;> try (exfalso;omega))|(with_reducible refine be aQ hN ?_)|(with_reducible refine bB aQ hN ?_)|(with_reducible refine And.intro ?_ ?_)|(refine aj ?_;omega)|(exact bd hN (by decide))))
       · have h1 : gb rest m = true:=by assumption
         have h2 : fg lf m = true:=by assumption
         have hmn : m < n:=by omega
         (refine ⟨m + 1,⟨?_,?_⟩,bE hX hN [] ?_ ?_⟩;(try any_goals dsimp only);(repeat' (first|(with_reducible first|exact clZ|refine bv ?_ ?_|refine bw ?_ ?_|rfl|refine suZ ?_)|refine bz rfl ?_ ?_|exact aU hN _ rfl rfl rfl|exact aV hN _ rfl rfl rfl|exact az hN _ rfl rfl rfl (Or.inr rfl)|(refine aW hN _ rfl rfl (by first|exact Or.inr rfl|exact Or.inl rfl) ?_;first|exact aF _|exact aG _)|refine aA hN rfl ?_|refine aB hN rfl rfl ?_|exact ay hN _ rfl rfl|exact aC hN rfl rfl rfl rfl|(with_reducible first|refine stZ ?_|refine aT ?_)));(try (any_goals (first|(with_reducible rfl)|(refine aj ?_;omega)))))
         · exact ee (f:=lf) (d:=fun _=>false) hmn (by rw [hlm,h1];try rfl)
         · first
           | (rw [fg, h2]; rfl)
           | (rw [fg, h2, gx (by rw [cI]; exact hmn), if_pos rfl, hlm, h1]; rfl)
       · have h1 : gb rest m = true:=by assumption
         have h2 : fg lf m = false:=by assumption
         have hmn : m < n:=by omega
         (refine ⟨m + 1,⟨?_,?_⟩,bE hX hN [] ?_ ?_⟩;(try any_goals dsimp only);(repeat' (first|(with_reducible first|exact clZ|refine bv ?_ ?_|refine bw ?_ ?_|rfl|refine suZ ?_)|refine bz rfl ?_ ?_|exact aU hN _ rfl rfl rfl|exact aV hN _ rfl rfl rfl|exact az hN _ rfl rfl rfl (Or.inr rfl)|(refine aW hN _ rfl rfl (by first|exact Or.inr rfl|exact Or.inl rfl) ?_;first|exact aF _|exact aG _)|refine aA hN rfl ?_|refine aB hN rfl rfl ?_|exact ay hN _ rfl rfl|exact aC hN rfl rfl rfl rfl|(with_reducible first|refine stZ ?_|refine aT ?_)));(try (any_goals (first|(with_reducible rfl)|(refine aj ?_;omega)))))
         · exact ee (f:=lf) (d:=fun _=>false) hmn (by rw [hlm,h1];try rfl)
         · first
           | (rw [fg, h2]; rfl)
           | (rw [fg, h2, gx (by rw [cI]; exact hmn), if_pos rfl, hlm, h1]; rfl)
       · have h1 : gb rest m = false:=by assumption
         have h2 : fg lf m = true:=by assumption
         have hmn : m < n:=by omega
         (refine ⟨m + 1,⟨?_,?_⟩,bE hX hN [] ?_ ?_⟩;(try any_goals dsimp only);(repeat' (first|(with_reducible first|exact clZ|refine bv ?_ ?_|refine bw ?_ ?_|rfl|refine suZ ?_)|refine bz rfl ?_ ?_|exact aU hN _ rfl rfl rfl|exact aV hN _ rfl rfl rfl|exact az hN _ rfl rfl rfl (Or.inr rfl)|(refine aW hN _ rfl rfl (by first|exact Or.inr rfl|exact Or.inl rfl) ?_;first|exact aF _|exact aG _)|refine aA hN rfl ?_|refine aB hN rfl rfl ?_|exact ay hN _ rfl rfl|exact aC hN rfl rfl rfl rfl|(with_reducible first|refine stZ ?_|refine aT ?_)));(try (any_goals (first|(with_reducible rfl)|(refine aj ?_;omega)))))
         · exact ee (f:=lf) (d:=fun _=>false) hmn (by rw [hlm,h1];try rfl)
         · first
           | (rw [fg, h2]; rfl)
           | (rw [fg, h2, gx (by rw [cI]; exact hmn), if_pos rfl, hlm, h1]; rfl)
       · have h1 : gb rest m = false:=by assumption
         have h2 : fg lf m = false:=by assumption
         have hmn : m < n:=by omega
         (refine ⟨m + 1,⟨?_,?_⟩,bE hX hN [] ?_ ?_⟩;(try any_goals dsimp only);(repeat' (first|(with_reducible first|exact clZ|refine bv ?_ ?_|refine bw ?_ ?_|rfl|refine suZ ?_)|refine bz rfl ?_ ?_|exact aU hN _ rfl rfl rfl|exact aV hN _ rfl rfl rfl|exact az hN _ rfl rfl rfl (Or.inr rfl)|(refine aW hN _ rfl rfl (by first|exact Or.inr rfl|exact Or.inl rfl) ?_;first|exact aF _|exact aG _)|refine aA hN rfl ?_|refine aB hN rfl rfl ?_|exact ay hN _ rfl rfl|exact aC hN rfl rfl rfl rfl|(with_reducible first|refine stZ ?_|refine aT ?_)));(try (any_goals (first|(with_reducible rfl)|(refine aj ?_;omega)))))
         · exact ee (f:=lf) (d:=fun _=>false) hmn (by rw [hlm,h1];try rfl)
         · first
           | (rw [fg, h2]; rfl)
           | (rw [fg, h2, gx (by rw [cI]; exact hmn), if_pos rfl, hlm, h1]; rfl)
       all_goals have emn : m = n:=by omega
       · have hB : ∀ v,¬ PG.Won (cR g n) (1 - top.tmod 2) (PG.Diff (fun v=>gb inn v = true) (PG.Attr (cR g n) (top.tmod 2) (fun v=>gb inn v = true) (fun v=>gb goal v = true))) v:=fun v h=>by
          have hv:=hS v (PG.won_in h).1
          have h1 : fg lf m = false:=by assumption
          have h2:=(lh (f:=lf) (k:=m)).2 ⟨v,by omega,(hlost v hv).2 h⟩
          rw [h1] at h2;cases h2
         have hall:=PG.win_all hf hS ht (d:=top) htm.symm (fun v a b=>by rw [fI hg (hS v a)];exact ((hgoalv v (hS v a)).1 b).2) (fun v a=>by rw [fI hg (hS v a)];exact hletop v a) hB
         (refine cf (fun (z : Nat)=>(tmL [(15,.c (.int .i64 z)),(7,.c (.int .i64 (top.tmod 2))),(6,.sl (ν 1)),(1,.c (.B inn))],hpL hp0 ν [.dead,.arr 4 .yes (.B (bZ n fun v=>if v < z then gb inn v && top.tmod 2 == 0 else false))])) (fun (z : Nat)=>z ≤ n) (fun (z : Nat)=>n - z) ⟨0,?_,bE hX hN [] ?_ ?_⟩ ?_;(repeat' (first|(with_reducible first|exact clZ|refine bv ?_ ?_|refine bw ?_ ?_|rfl|refine suZ ?_)|refine bz rfl ?_ ?_|exact aU hN _ rfl rfl rfl|exact aV hN _ rfl rfl rfl|exact az hN _ rfl rfl rfl (Or.inr rfl)|(refine aW hN _ rfl rfl (by first|exact Or.inr rfl|exact Or.inl rfl) ?_;first|exact aF _|exact aG _)|refine aA hN rfl ?_|refine aB hN rfl rfl ?_|exact ay hN _ rfl rfl|exact aC hN rfl rfl rfl rfl|(with_reducible first|refine stZ ?_|refine aT ?_)));(try (any_goals (first|(with_reducible rfl)|(refine aj ?_;omega)))))
         · exact dc n fun v=>gb inn v && top.tmod 2 == 0
         intro z hz
         (repeat' (first|(with_reducible first|(apply hK;clear hK K)|refine stZ ?_|refine aZ rfl ?_|((first|apply ae|apply af);clear ae X af Y))|(with_reducible refine bc ?_;first|refine a8 rfl ?_|refine ba rfl ?_)|(with_reducible refine bG ?_;first|refine bo rfl rfl rfl rfl ?_|refine bF rfl rfl rfl ?_|refine bX rfl rfl rfl rfl ?_)|(with_reducible refine cm ?_;first|refine cz rfl rfl rfl rfl ?_|refine cQ rfl rfl rfl ?_|refine dw rfl rfl rfl rfl ?_|refine cr hN ?_)|((first|(with_reducible first|((first|refine bf ?_|refine ct ?_|refine bg ?_|refine cw ?_);intro K hK)|(refine aN ?_;intro X Y ae af)|refine aO ?_)|(with_reducible refine bG ?_;refine bp rfl rfl fun X Y ae af=>?_)|(with_reducible refine cm ?_;refine cA rfl rfl fun X Y ae af=>?_));simp (disch:=first|decide|omega|(simp only [List.length_cons,List.length_nil];omega)) only [go_sem,↓ah hN,ak hN,reduceIte,reduceCtorEq,Nat.reduceAdd,Nat.reduceLT,Nat.reduceLeDiff,Nat.reduceEqDiff,Nat.reduceSub])|(with_reducible refine And.intro (fun h=>?_) (fun h=>?_) <;> try (exfalso;omega))|(with_reducible refine be aQ hN ?_)|(with_reducible refine bB aQ hN ?_)|(with_reducible refine And.intro ?_ ?_)|(refine aj ?_;omega)|(exact bd hN (by decide))))
         · have h1 : gb inn z = true:=by assumption
           (refine ⟨z + 1,⟨?_,?_⟩,bE hX hN [] ?_ ?_⟩;(try any_goals dsimp only);(repeat' (first|(with_reducible first|exact clZ|refine bv ?_ ?_|refine bw ?_ ?_|rfl|refine suZ ?_)|refine bz rfl ?_ ?_|exact aU hN _ rfl rfl rfl|exact aV hN _ rfl rfl rfl|exact az hN _ rfl rfl rfl (Or.inr rfl)|(refine aW hN _ rfl rfl (by first|exact Or.inr rfl|exact Or.inl rfl) ?_;first|exact aF _|exact aG _)|refine aA hN rfl ?_|refine aB hN rfl rfl ?_|exact ay hN _ rfl rfl|exact aC hN rfl rfl rfl rfl|(with_reducible first|refine stZ ?_|refine aT ?_)));(try (any_goals (first|(with_reducible rfl)|(refine aj ?_;omega)))))
           exact ee (f:=fun v=>gb inn v && top.tmod 2 == 0) (d:=fun _=>false) (by omega) (by simp [h1])
         · have h1 : gb inn z = false:=by assumption
           (refine ⟨z + 1,⟨?_,?_⟩,bE hX hN [] ?_ ?_⟩;(try any_goals dsimp only);(repeat' (first|(with_reducible first|exact clZ|refine bv ?_ ?_|refine bw ?_ ?_|rfl|refine suZ ?_)|refine bz rfl ?_ ?_|exact aU hN _ rfl rfl rfl|exact aV hN _ rfl rfl rfl|exact az hN _ rfl rfl rfl (Or.inr rfl)|(refine aW hN _ rfl rfl (by first|exact Or.inr rfl|exact Or.inl rfl) ?_;first|exact aF _|exact aG _)|refine aA hN rfl ?_|refine aB hN rfl rfl ?_|exact ay hN _ rfl rfl|exact aC hN rfl rfl rfl rfl|(with_reducible first|refine stZ ?_|refine aT ?_)));(try (any_goals (first|(with_reducible rfl)|(refine aj ?_;omega)))))
           exact ee (f:=fun v=>gb inn v && top.tmod 2 == 0) (d:=fun _=>false) (by omega) (by simp [h1])
         · (refine e8 hN (i:=1) (.inr rfl) (by first|rfl|(simp (disch:=first|decide|omega|(simp only [List.length_cons,List.length_nil];omega)) only [bS,cc,ch,cj,go_sem,beq_self_eq_true,↓ax,↓ah hN,ak hN,reduceIte,reduceCtorEq,Nat.reduceAdd,Nat.reduceLT,Nat.reduceLeDiff,Nat.reduceEqDiff,Nat.reduceSub];rfl)) rfl ?_ rfl)
           rw [dN (f:=fun v=>gb inn v && top.tmod 2 == 0) (d:=fun _=>false) (by omega)]
           refine congrArg C.B (cC fun v hv=>kd ?_)
           rcases hi01 with e|e
           · rw [e] at hall ⊢
             rw [hall v];simp
           · rw [e] at hall ⊢
             simp only [Int.reduceEq,Bool.and_eq_true,beq_iff_eq,and_false,false_iff]
             intro h0
             exact (PG.won_not hf hS ht (PG.won_in h0)).1 ((hall v).2 (PG.won_in h0)) h0
       · rw [show (bZ n fun v=>if v < m then lf v else false) = bZ n lf from dN (by omega)]
         obtain ⟨LL,hLL⟩ : ∃ LL,LL = bZ n lf:=⟨_,rfl⟩
         rw [← hLL]
         have hLn : LL.length = n:=by rw [hLL,cI]
         have hLv : ∀ v,gb LL v = true ↔ PG.Won (cR g n) (1 - top.tmod 2) (PG.Diff (fun v=>gb inn v = true) (PG.Attr (cR g n) (top.tmod 2) (fun v=>gb inn v = true) (fun v=>gb goal v = true))) v:=fun v=>by
          rcases Nat.lt_or_ge v n with h'|h'
          · rw [hLL,cT _ h'];exact hlost v h'
          · refine ⟨fun h1=>?_,fun h1=>?_⟩
            · have:=jG h1;omega
            · have:=hS v (PG.won_in h1).1;omega
         have hsome:=PG.win_some hf hS ht hi01 hLv
         have hlx : ∃ v,v < n ∧ gb LL v = true:=by
          have h1 : fg lf m = true:=by assumption
          obtain ⟨v,a,b⟩:=(lh (f:=lf) (k:=m)).1 h1
          exact ⟨v,by omega,by rw [hLL,cT _ (by omega)];exact b⟩
         clear hlost hlf hlfv hLL hlo hll hrest hrl hrestP hihr hgo hgoalv hvtop hletop hAt hAl hglen
         obtain ⟨aw,haw⟩ : ∃ aw,aw = mks n (PG.Attr (cR g n) (1 - top.tmod 2) (fun v=>gb inn v = true) (fun v=>gb LL v = true)):=⟨_,rfl⟩
         have hawl : aw.length = n:=by rw [haw,dG]
         obtain ⟨rest2,hrest2⟩ : ∃ rest2,rest2 = bZ inn.length fun i=>gb inn i && !gb aw i:=⟨_,rfl⟩
         have hrl2 : rest2.length = n:=by rw [hrest2,cI,hi]
         have hatt2:=gY g n hg inn LL hi hLn (1 - top.tmod 2) ht
         rw [← haw] at hatt2
         have hless2:=lg inn aw (by omega) (by omega)
         rw [← hrest2] at hless2
         have hrP2:=m7 hi haw hrest2
         have hih2 : num (fun v=>gb rest2 v = true) n < N ∧ PG.Total (cR g n) (fun v=>gb rest2 v = true):=by
          rw [hrP2]
          refine ⟨?_,PG.total_diff hf ht⟩
          obtain ⟨v,a,b⟩:=hlx
          have hvS : gb inn v = true:=(PG.won_in ((hLv v).1 b)).1
          have:=mj (p:=fun v=>gb inn v = true) (q:=PG.Diff (fun v=>gb inn v = true) (PG.Attr (cR g n) (1 - top.tmod 2) (fun v=>gb inn v = true) (fun v=>gb LL v = true))) (k:=n) (fun t _ h=>h.1) ⟨v,a,hvS,fun h=>h.2 (PG.attr_goal hvS b)⟩
          omega
         have hag:=ih rest2 hrl2 hih2.1 hih2.2
         obtain ⟨ag,hagq⟩ : ∃ ag,ag = mks n (PG.Won (cR g n) 0 (fun v=>gb rest2 v = true)):=⟨_,rfl⟩
         have hagl : ag.length = n:=by rw [hagq,dG]
         rw [← hagq] at hag
         (repeat' (first|(with_reducible first|(apply hK;clear hK K)|refine stZ ?_|refine aZ rfl ?_|((first|apply ae|apply af);clear ae X af Y))|(with_reducible refine bc ?_;first|refine a8 rfl ?_|refine ba rfl ?_)|(with_reducible refine bG ?_;first|refine bo rfl rfl rfl rfl ?_|refine bF rfl rfl rfl ?_|refine bX rfl rfl rfl rfl ?_)|(with_reducible refine cm ?_;first|refine cz rfl rfl rfl rfl ?_|refine cQ rfl rfl rfl ?_|refine dw rfl rfl rfl rfl ?_|refine cr hN ?_)|((first|(with_reducible first|((first|refine bf ?_|refine ct ?_|refine bg ?_|refine cw ?_);intro K hK)|(refine aN ?_;intro X Y ae af)|refine aO ?_)|(with_reducible refine bG ?_;refine bp rfl rfl fun X Y ae af=>?_)|(with_reducible refine cm ?_;refine cA rfl rfl fun X Y ae af=>?_));simp (disch:=first|decide|omega|(simp only [List.length_cons,List.length_nil];omega)) only [go_sem,↓ah hN,ak hN,reduceIte,reduceCtorEq,Nat.reduceAdd,Nat.reduceLT,Nat.reduceLeDiff,Nat.reduceEqDiff,Nat.reduceSub])|(with_reducible refine And.intro (fun h=>?_) (fun h=>?_) <;> try (exfalso;omega))|(with_reducible refine be aQ hN ?_)|(with_reducible refine bB aQ hN ?_)|(refine br hatt2 ?_ rfl (fun _=>rfl) ?_)|(refine br hless2 ?_ rfl (fun _=>rfl) ?_)|(refine br hag ?_ rfl (fun _=>rfl) ?_)|(with_reducible first|exact aq|refine am ?_ ?_|exact bL _|refine aR ?_|exact aL _|exact bn _ _|refine bm ?_|exact aJ _)|exact aS hN rfl rfl|(refine bj hN rfl ?_;first|exact aF _|exact aG _)|exact aK rfl rfl rfl|(simp only [aI,List.map_nil])|(with_reducible refine bI ?_)|(with_reducible refine And.intro ?_ ?_)|(refine aj ?_;omega)|(exact bd hN (by decide))))
         (refine cf (fun (z : Nat)=>(tmL [(18,.c (.int .i64 z)),(17,.sl (ν 9)),(16,.sl (ν 7)),(7,.c (.int .i64 (top.tmod 2))),(6,.sl (ν 1)),(1,.c (.B inn))],hpL hp0 ν [.dead,.arr 4 .yes (.B (bZ n fun v=>if v < z then gb ag v || gb aw v && top.tmod 2 == 1 else false)),.dead,.dead,.dead,.dead,.dead,.arr 4 .yes (.B aw),.dead,.arr 4 .yes (.B ag)])) (fun (z : Nat)=>z ≤ n) (fun (z : Nat)=>n - z) ⟨0,?_,bE hX hN [] ?_ ?_⟩ ?_;(repeat' (first|(with_reducible first|exact clZ|refine bv ?_ ?_|refine bw ?_ ?_|rfl|refine suZ ?_)|refine bz rfl ?_ ?_|exact aU hN _ rfl rfl rfl|exact aV hN _ rfl rfl rfl|exact az hN _ rfl rfl rfl (Or.inr rfl)|(refine aW hN _ rfl rfl (by first|exact Or.inr rfl|exact Or.inl rfl) ?_;first|exact aF _|exact aG _)|refine aA hN rfl ?_|refine aB hN rfl rfl ?_|exact ay hN _ rfl rfl|exact aC hN rfl rfl rfl rfl|(with_reducible first|refine stZ ?_|refine aT ?_)));(try (any_goals (first|(with_reducible rfl)|(refine aj ?_;omega)))))
         · exact dc n fun v=>gb ag v || gb aw v && top.tmod 2 == 1
         intro z hz
         (repeat' (first|(with_reducible first|(apply hK;clear hK K)|refine stZ ?_|refine aZ rfl ?_|((first|apply ae|apply af);clear ae X af Y))|(with_reducible refine bc ?_;first|refine a8 rfl ?_|refine ba rfl ?_)|(with_reducible refine bG ?_;first|refine bo rfl rfl rfl rfl ?_|refine bF rfl rfl rfl ?_|refine bX rfl rfl rfl rfl ?_)|(with_reducible refine cm ?_;first|refine cz rfl rfl rfl rfl ?_|refine cQ rfl rfl rfl ?_|refine dw rfl rfl rfl rfl ?_|refine cr hN ?_)|((first|(with_reducible first|((first|refine bf ?_|refine ct ?_|refine bg ?_|refine cw ?_);intro K hK)|(refine aN ?_;intro X Y ae af)|refine aO ?_)|(with_reducible refine bG ?_;refine bp rfl rfl fun X Y ae af=>?_)|(with_reducible refine cm ?_;refine cA rfl rfl fun X Y ae af=>?_));simp (disch:=first|decide|omega|(simp only [List.length_cons,List.length_nil];omega)) only [go_sem,↓ah hN,ak hN,reduceIte,reduceCtorEq,Nat.reduceAdd,Nat.reduceLT,Nat.reduceLeDiff,Nat.reduceEqDiff,Nat.reduceSub])|(with_reducible refine And.intro (fun h=>?_) (fun h=>?_) <;> try (exfalso;omega))|(with_reducible refine be aQ hN ?_)|(with_reducible refine bB aQ hN ?_)|(with_reducible refine And.intro ?_ ?_)|(refine aj ?_;omega)|(exact bd hN (by decide))))
         · have h1 : gb ag z = true:=by assumption
           (refine ⟨z + 1,⟨?_,?_⟩,bE hX hN [] ?_ ?_⟩;(try any_goals dsimp only);(repeat' (first|(with_reducible first|exact clZ|refine bv ?_ ?_|refine bw ?_ ?_|rfl|refine suZ ?_)|refine bz rfl ?_ ?_|exact aU hN _ rfl rfl rfl|exact aV hN _ rfl rfl rfl|exact az hN _ rfl rfl rfl (Or.inr rfl)|(refine aW hN _ rfl rfl (by first|exact Or.inr rfl|exact Or.inl rfl) ?_;first|exact aF _|exact aG _)|refine aA hN rfl ?_|refine aB hN rfl rfl ?_|exact ay hN _ rfl rfl|exact aC hN rfl rfl rfl rfl|(with_reducible first|refine stZ ?_|refine aT ?_)));(try (any_goals (first|(with_reducible rfl)|(refine aj ?_;omega)))))
           exact ee (f:=fun v=>gb ag v || gb aw v && top.tmod 2 == 1) (d:=fun _=>false) (by omega) (by simp [h1])
         · have h1 : gb ag z = false:=by assumption
           have h2 : gb aw z = true:=by assumption
           (refine ⟨z + 1,⟨?_,?_⟩,bE hX hN [] ?_ ?_⟩;(try any_goals dsimp only);(repeat' (first|(with_reducible first|exact clZ|refine bv ?_ ?_|refine bw ?_ ?_|rfl|refine suZ ?_)|refine bz rfl ?_ ?_|exact aU hN _ rfl rfl rfl|exact aV hN _ rfl rfl rfl|exact az hN _ rfl rfl rfl (Or.inr rfl)|(refine aW hN _ rfl rfl (by first|exact Or.inr rfl|exact Or.inl rfl) ?_;first|exact aF _|exact aG _)|refine aA hN rfl ?_|refine aB hN rfl rfl ?_|exact ay hN _ rfl rfl|exact aC hN rfl rfl rfl rfl|(with_reducible first|refine stZ ?_|refine aT ?_)));(try (any_goals (first|(with_reducible rfl)|(refine aj ?_;omega)))))
           exact ee (f:=fun v=>gb ag v || gb aw v && top.tmod 2 == 1) (d:=fun _=>false) (by omega) (by simp [h1,h2])
         · have h1 : gb ag z = false:=by assumption
           have h2 : gb aw z = false:=by assumption
           (refine ⟨z + 1,⟨?_,?_⟩,bE hX hN [] ?_ ?_⟩;(try any_goals dsimp only);(repeat' (first|(with_reducible first|exact clZ|refine bv ?_ ?_|refine bw ?_ ?_|rfl|refine suZ ?_)|refine bz rfl ?_ ?_|exact aU hN _ rfl rfl rfl|exact aV hN _ rfl rfl rfl|exact az hN _ rfl rfl rfl (Or.inr rfl)|(refine aW hN _ rfl rfl (by first|exact Or.inr rfl|exact Or.inl rfl) ?_;first|exact aF _|exact aG _)|refine aA hN rfl ?_|refine aB hN rfl rfl ?_|exact ay hN _ rfl rfl|exact aC hN rfl rfl rfl rfl|(with_reducible first|refine stZ ?_|refine aT ?_)));(try (any_goals (first|(with_reducible rfl)|(refine aj ?_;omega)))))
           exact ee (f:=fun v=>gb ag v || gb aw v && top.tmod 2 == 1) (d:=fun _=>false) (by omega) (by simp [h1,h2])
         · (refine e8 hN (i:=1) (.inr rfl) (by first|rfl|(simp (disch:=first|decide|omega|(simp only [List.length_cons,List.length_nil];omega)) only [bS,cc,ch,cj,go_sem,beq_self_eq_true,↓ax,↓ah hN,ak hN,reduceIte,reduceCtorEq,Nat.reduceAdd,Nat.reduceLT,Nat.reduceLeDiff,Nat.reduceEqDiff,Nat.reduceSub];rfl)) rfl ?_ rfl)
           rw [dN (f:=fun v=>gb ag v || gb aw v && top.tmod 2 == 1) (d:=fun _=>false) (by omega)]
           refine congrArg C.B (cC fun v hv=>kd ?_)
           have ha : gb ag v = true ↔ PG.Won (cR g n) 0 (PG.Diff (fun v=>gb inn v = true) (PG.Attr (cR g n) (1 - top.tmod 2) (fun v=>gb inn v = true) fun v=>gb LL v = true)) v:=by
            rw [hagq,fh _ hv,hrP2];exact mC
           have hb : gb aw v = true ↔ PG.Attr (cR g n) (1 - top.tmod 2) (fun v=>gb inn v = true) (fun v=>gb LL v = true) v:=by
            rw [haw,fh _ hv];exact mC
           rcases hi01 with e|e
           · rw [e] at hsome ha hb ⊢
             rw [(hsome v).1,← ha];simp
           · rw [e] at hsome ha hb ⊢
             have h2:=(hsome v).2
             rw [show (1 : Int) - 1 = 0 from rfl] at h2 ha hb
             rw [h2,← ha,← hb];simp
end Go.Proofs.Ythjamlponejffaa
